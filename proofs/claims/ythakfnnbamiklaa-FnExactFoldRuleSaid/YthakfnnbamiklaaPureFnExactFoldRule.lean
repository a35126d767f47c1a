/- What the printed Lean functions behind FnExactFoldRule come to, and from that the pure statement of FnExactFoldRule: it answers true. No condition beyond those that the given statement itself has. -/
import Derived.Test.YthakfnnbamiklaaPFnExactFoldRulex10
import Derived.Lib.SmallJoins
namespace Go.Proofs.Ythakfnnbamiklaa.Pure
open Go.RowKit Go.Proofs.Ythakfnnbamiklaa.PFnExactFoldRule Go.Proofs.YthakfnnbamiklaaW.PrintWords Go.Proofs.YthakfnnbamiklaaW.PrintLast Go.Proofs.YthakfnnbamiklaaW.PrintMore
set_option linter.unusedVariables false
set_option linter.unusedSimpArgs false

theorem w64 {x : Int} (h1 : -9223372036854775808 ≤ x) (h2 : x ≤ 9223372036854775807) : wrap64 x = x := by unfold wrap64; omega
theorem wf_i64 {x : Int} (h : (Lit.int .i64 x).wf = true) : -9223372036854775808 ≤ x ∧ x ≤ 9223372036854775807 := Go.Joins.in64_of_wf h
theorem mul_bd {a b A B : Int} (ha : 0 ≤ a) (hA : a ≤ A) (hb : 0 ≤ b) (hB : b ≤ B) : 0 ≤ a * b ∧ a * b ≤ A * B :=
  ⟨Int.mul_nonneg ha hb, Int.mul_le_mul hA hB hb (by omega)⟩
theorem rd_nat (l : List Int) (i : Nat) : rd l (i : Int) = l.getD i 0 := by simp [rd]
theorem rd_get {l : List Int} {i : Nat} (h : i < l.length) : rd l (i : Int) = l[i] := by rw [rd_nat, List.getD_eq_getElem?_getD, List.getElem?_eq_getElem h]; rfl
theorem rd_set {l : List Int} {i : Nat} {v : Int} (j : Int) (h0 : 0 ≤ j) (hi : i < l.length) : rd (l.set i v) j = if j = (i : Int) then v else rd l j := by
  unfold rd
  rw [List.getD_eq_getElem?_getD, List.getD_eq_getElem?_getD]
  by_cases h : j = (i : Int)
  · rw [if_pos h, show j.toNat = i by omega, List.getElem?_set_self hi]; rfl
  · rw [if_neg h, List.getElem?_set_ne (by omega)]
theorem drop_rd {l : List Int} {i : Nat} (h : i < l.length) : l.drop i = rd l (i : Int) :: l.drop (i + 1) := by
  rw [rd_get h]; exact List.drop_eq_getElem_cons h
theorem w64_succ {i : Nat} (h : i < 9223372036854775807) : wrap64 ((i : Int) + 1) = ((i + 1 : Nat) : Int) := by rw [w64 (by omega) (by omega)]; omega
theorem k_succ {k : Nat} (h : 0 < k) : ∃ m, k = m + 1 := ⟨k - 1, by omega⟩
/-- from some number of rounds on -/
theorem Ev.use {α : Type} {g : Nat → Option α} {r : α} (h : Ev g r) : ∃ K, ∀ k, K ≤ k → g k = some r := h
theorem spec_l1In_v (a lo hi : Int) : spec_l1In.f a lo hi = some (decide (lo ≤ a ∧ a ≤ hi)) := by
  unfold spec_l1In.f
  split
  · congr 1; rw [decide_eq_decide]; omega
  · congr 1; symm; rw [decide_eq_false_iff_not]; omega
def gridB (X Y Z : Int) : Bool := decide (1 ≤ X ∧ X ≤ 8 ∧ 1 ≤ Y ∧ Y ≤ 6 ∧ 1 ≤ Z ∧ Z ≤ 5 ∧ X * Y * Z ≤ 120)
theorem gridB_t {X Y Z : Int} (h : gridB X Y Z = true) : 1 ≤ X ∧ X ≤ 8 ∧ 1 ≤ Y ∧ Y ≤ 6 ∧ 1 ≤ Z ∧ Z ≤ 5 ∧ X * Y * Z ≤ 120 := of_decide_eq_true h
theorem wrapXYZ {X Y Z : Int} (h1 : 1 ≤ X) (h2 : X ≤ 8) (h3 : 1 ≤ Y) (h4 : Y ≤ 6) (h5 : 1 ≤ Z) (h6 : Z ≤ 5) : wrap64 (wrap64 (X * Y) * Z) = X * Y * Z := by
  have a := mul_bd (by omega : 0 ≤ X) h2 (by omega : 0 ≤ Y) h4
  have b := mul_bd a.1 a.2 (by omega : 0 ≤ Z) h6
  rw [w64 (by omega) (by omega) (x := X * Y), w64 (by omega) (by omega)]
theorem grid_pos {X Y Z : Int} (h : gridB X Y Z = true) : 1 ≤ X * Y * Z ∧ X * Y * Z ≤ 120 := by
  obtain ⟨h1, h2, h3, h4, h5, h6, h7⟩ := gridB_t h
  have a : 0 < X * Y := Int.mul_pos (by omega) (by omega)
  have b : 0 < X * Y * Z := Int.mul_pos a (by omega)
  omega
def hasB (X Y Z i : Int) : Bool := gridB X Y Z && decide (0 ≤ i ∧ i < X * Y * Z)
theorem hasB_t {X Y Z i : Int} (h : hasB X Y Z i = true) : gridB X Y Z = true ∧ 0 ≤ i ∧ i < X * Y * Z := by
  unfold hasB at h; rw [Bool.and_eq_true, decide_eq_true_eq] at h; exact h
theorem at_w {X Y x y z : Int} (hX : 0 ≤ X) (hX' : X ≤ 8) (hY : 0 ≤ Y) (hY' : Y ≤ 6) (hx : 0 ≤ x) (hx' : x ≤ 8) (hy : 0 ≤ y) (hy' : y ≤ 6) (hz : 0 ≤ z) (hz' : z ≤ 5) :
    wrap64 (wrap64 (wrap64 (wrap64 (z * Y) + y) * X) + x) = (z * Y + y) * X + x ∧ 0 ≤ (z * Y + y) * X + x := by
  have a := mul_bd hz hz' hY hY'
  have b := mul_bd (by omega : 0 ≤ z * Y + y) (by omega : z * Y + y ≤ 36) hX hX'
  rw [w64 (by omega) (by omega) (x := z * Y), w64 (by omega) (by omega) (x := z * Y + y), w64 (by omega) (by omega) (x := (z * Y + y) * X), w64 (by omega) (by omega)]
  exact ⟨rfl, by omega⟩
def inB (X Y Z x y z : Int) : Bool := decide (0 ≤ x ∧ x < X ∧ 0 ≤ y ∧ y < Y ∧ 0 ≤ z ∧ z < Z)
theorem tdiv_nn {a b : Int} (h : 0 ≤ a) : Int.tdiv a b = a / b := Int.tdiv_eq_ediv_of_nonneg h
theorem tmod_nn {a b : Int} (h : 0 ≤ a) : Int.tmod a b = a % b := Int.tmod_eq_emod_of_nonneg h
theorem place_bd {X Y Z i : Int} (h : hasB X Y Z i = true) : (0 ≤ i % X ∧ i % X < X) ∧ (0 ≤ i / X % Y ∧ i / X % Y < Y) ∧ (0 ≤ i / X / Y ∧ i / X / Y < Z) ∧ 0 ≤ i / X ∧ i / X ≤ i := by
  obtain ⟨hg, hi, hi'⟩ := hasB_t h
  obtain ⟨h1, h2, h3, h4, h5, h6, h7⟩ := gridB_t hg
  have a : 0 ≤ i / X := Int.ediv_nonneg hi (by omega)
  refine ⟨⟨Int.emod_nonneg _ (by omega), Int.emod_lt_of_pos _ (by omega)⟩, ⟨Int.emod_nonneg _ (by omega), Int.emod_lt_of_pos _ (by omega)⟩, ⟨Int.ediv_nonneg a (by omega), ?_⟩, a, Int.ediv_le_self _ hi⟩
  rw [Int.ediv_ediv_of_nonneg (by omega)]
  refine Int.ediv_lt_of_lt_mul (Int.mul_pos (by omega) (by omega)) ?_
  rw [Int.mul_comm Z]
  exact hi'
def coarseV (X Y i : Int) : Int := (i / X / Y * ((Y + 1) / 2) + i / X % Y / 2) * ((X + 1) / 2) + i % X / 2
def absI (n : Int) : Int := if n < 0 then -n else n
theorem absI_sub (a b : Int) : absI (a - b) = absI (b - a) := by unfold absI; repeat' split <;> omega
theorem absI_bd {a : Int} {B : Int} (h : -B ≤ a) (h' : a ≤ B) : 0 ≤ absI a ∧ absI a ≤ B := by unfold absI; split <;> omega
theorem impl_abs_v {a : Int} (h : -1000000000000 ≤ a) (h' : a ≤ 1000000000000) : impl_abs.f a = some (absI a) := by
  unfold impl_abs.f mx absI
  rw [w64 (by omega) (by omega)]
  congr 1
  repeat' split
  all_goals omega
theorem spec_l1Abs_v {a : Int} (h : -1000000000000 ≤ a) (h' : a ≤ 1000000000000) : spec_l1Abs.f a = some (absI a) := by
  unfold spec_l1Abs.f spec_l1Most.f absI
  rw [w64 (by omega) (by omega)]
  by_cases c : a > -a
  · rw [if_pos c, if_neg (by omega)]; rfl
  · rw [if_neg c, Option.bind_some]
    congr 1
    split <;> omega
def stepsV (X Y i k : Int) : Int := absI (i % X - k % X) + absI (i / X % Y - k / X % Y) + absI (i / X / Y - k / X / Y)
theorem stepsV_comm (X Y i k : Int) : stepsV X Y i k = stepsV X Y k i := by
  unfold stepsV
  rw [absI_sub (i % X), absI_sub (i / X % Y), absI_sub (i / X / Y)]
theorem steps_bd {X Y Z i k : Int} (h : hasB X Y Z i = true) (h' : hasB X Y Z k = true) : (0 ≤ absI (i % X - k % X) ∧ absI (i % X - k % X) ≤ 8) ∧ (0 ≤ absI (i / X % Y - k / X % Y) ∧ absI (i / X % Y - k / X % Y) ≤ 8) ∧ (0 ≤ absI (i / X / Y - k / X / Y) ∧ absI (i / X / Y - k / X / Y) ≤ 8) := by
  obtain ⟨h1, h2, h3, h4, h5, h6, h7⟩ := gridB_t (hasB_t h).1
  have a := place_bd h
  have b := place_bd h'
  exact ⟨absI_bd (by omega) (by omega), absI_bd (by omega) (by omega), absI_bd (by omega) (by omega)⟩
def filtN (p : Int → Bool) : Nat → Nat → List Int
  | _, 0 => []
  | i, d + 1 => if p (i : Int) = true then (i : Int) :: filtN p (i + 1) d else filtN p (i + 1) d
theorem filtN_pos {p : Int → Bool} {i d : Nat} (h : p (i : Int) = true) : filtN p i (d + 1) = (i : Int) :: filtN p (i + 1) d := by rw [filtN, if_pos h]
theorem filtN_neg {p : Int → Bool} {i d : Nat} (h : ¬ p (i : Int) = true) : filtN p i (d + 1) = filtN p (i + 1) d := by rw [filtN, if_neg h]
theorem filtN_len (p : Int → Bool) : ∀ (d i : Nat), (filtN p i d).length ≤ d
  | 0, i => by simp [filtN]
  | d + 1, i => by
    have := filtN_len p d (i + 1)
    unfold filtN
    split <;> simp <;> omega
theorem filtN_mem (p : Int → Bool) : ∀ (d i : Nat) (x : Int), x ∈ filtN p i d ↔ (i : Int) ≤ x ∧ x < ((i + d : Nat) : Int) ∧ p x = true
  | 0, i, x => by simp [filtN]; omega
  | d + 1, i, x => by
    have ih := filtN_mem p d (i + 1) x
    by_cases h : p (i : Int) = true
    · rw [filtN_pos h, List.mem_cons, ih]
      constructor
      · rintro (rfl | ⟨h1, h2, h3⟩)
        · exact ⟨by omega, by omega, h⟩
        · exact ⟨by omega, by omega, h3⟩
      · rintro ⟨h1, h2, h3⟩
        by_cases e : x = (i : Int)
        · exact .inl e
        · exact .inr ⟨by omega, by omega, h3⟩
    · rw [filtN_neg h, ih]
      constructor
      · rintro ⟨h1, h2, h3⟩; exact ⟨by omega, by omega, h3⟩
      · rintro ⟨h1, h2, h3⟩
        refine ⟨?_, by omega, h3⟩
        by_cases e : x = (i : Int)
        · subst e; exact absurd h3 h
        · omega
theorem hasB_of {X Y Z i : Int} (h : gridB X Y Z = true) (h0 : 0 ≤ i) (h1 : i < X * Y * Z) : hasB X Y Z i = true := by
  unfold hasB; rw [h, Bool.true_and]; exact decide_eq_true ⟨h0, h1⟩
def nearB (X Y i r k : Int) : Bool := decide (absI (i % X - k % X) ≤ r ∧ absI (i / X % Y - k / X % Y) ≤ r ∧ absI (i / X / Y - k / X / Y) ≤ r)
def pieceB (T M R : Int) : Bool := decide (0 ≤ T ∧ T ≤ 10000 ∧ 0 ≤ M ∧ M ≤ 1000 * T ∧ 0 ≤ R ∧ R ≤ 4)
theorem pieceB_t {T M R : Int} (h : pieceB T M R = true) : 0 ≤ T ∧ T ≤ 10000 ∧ 0 ≤ M ∧ M ≤ 1000 * T ∧ 0 ≤ R ∧ R ≤ 4 := of_decide_eq_true h
def gcdI (x y : Int) : Int := (Nat.gcd x.toNat y.toNat : Nat)
theorem gcdI_step {x y : Int} (hx : 0 ≤ x) (hy : 0 ≤ y) : gcdI y (x % y) = gcdI x y := by
  unfold gcdI
  rw [Int.toNat_emod hx hy, Nat.gcd_comm, ← Nat.gcd_rec, Nat.gcd_comm]
theorem gcdI_zero {x : Int} (hx : 0 ≤ x) : gcdI x 0 = x := by
  unfold gcdI
  simp; omega
def modelB (X Y Z : Int) (t g r : List Int) : Bool := gridB X Y Z && decide ((t.length : Int) = X * Y * Z ∧ (g.length : Int) = X * Y * Z ∧ (r.length : Int) = X * Y * Z) && ((t.all fun x => decide (0 ≤ x ∧ x ≤ 10000)) && ((g.all fun x => decide (0 ≤ x ∧ x ≤ 1000)) && (r.all fun x => decide (0 ≤ x ∧ x ≤ 4))))
structure IsMod (X Y Z : Int) (t g r : List Int) : Prop where
  grid : gridB X Y Z = true
  lt : (t.length : Int) = X * Y * Z
  lg : g.length = t.length
  lr : r.length = t.length
  ht : ∀ x ∈ t, 0 ≤ x ∧ x ≤ 10000
  hg : ∀ x ∈ g, 0 ≤ x ∧ x ≤ 1000
  hr : ∀ x ∈ r, 0 ≤ x ∧ x ≤ 4
  pos : 1 ≤ t.length
  le : t.length ≤ 120
theorem modelB_iff {X Y Z : Int} {t g r : List Int} : modelB X Y Z t g r = true ↔ IsMod X Y Z t g r := by
  unfold modelB
  simp only [Bool.and_eq_true, decide_eq_true_eq, List.all_eq_true]
  constructor
  · rintro ⟨⟨h1, h2, h3, h4⟩, h5, h6, h7⟩
    have := grid_pos h1
    exact ⟨h1, h2, by omega, by omega, h5, h6, h7, by omega, by omega⟩
  · intro h
    have h1 := h.lt; have h2 := h.lg; have h3 := h.lr
    exact ⟨⟨h.grid, h1, by omega, by omega⟩, h.ht, h.hg, h.hr⟩
theorem modelB_t {X Y Z : Int} {t g r : List Int} (h : modelB X Y Z t g r = true) : IsMod X Y Z t g r := modelB_iff.1 h
theorem modelB_f {X Y Z : Int} {t g r : List Int} (h : ¬ modelB X Y Z t g r = true) : modelB X Y Z t g r = false := by simpa using h
theorem rd_mem {l : List Int} {i : Int} (h0 : 0 ≤ i) (h : i < (l.length : Int)) : rd l i ∈ l := by
  unfold rd
  rw [List.getD_eq_getElem?_getD, List.getElem?_eq_getElem (by omega)]
  exact List.getElem_mem _
theorem rd_of_getElem? {l : List Int} {i : Nat} {x : Int} (h : l[i]? = some x) : rd l (i : Int) = x := by
  rw [rd_nat, List.getD_eq_getElem?_getD, h]; rfl
theorem IsMod.rt {X Y Z : Int} {t g r : List Int} (h : IsMod X Y Z t g r) {i : Int} (h0 : 0 ≤ i) (h1 : i < (t.length : Int)) : 0 ≤ rd t i ∧ rd t i ≤ 10000 := h.ht _ (rd_mem h0 h1)
theorem IsMod.rg {X Y Z : Int} {t g r : List Int} (h : IsMod X Y Z t g r) {i : Int} (h0 : 0 ≤ i) (h1 : i < (t.length : Int)) : 0 ≤ rd g i ∧ rd g i ≤ 1000 := h.hg _ (rd_mem h0 (by have := h.lg; omega))
theorem IsMod.rr {X Y Z : Int} {t g r : List Int} (h : IsMod X Y Z t g r) {i : Int} (h0 : 0 ≤ i) (h1 : i < (t.length : Int)) : 0 ≤ rd r i ∧ rd r i ≤ 4 := h.hr _ (rd_mem h0 (by have := h.lr; omega))
theorem IsMod.rm {X Y Z : Int} {t g r : List Int} (h : IsMod X Y Z t g r) {i : Int} (h0 : 0 ≤ i) (h1 : i < (t.length : Int)) : 0 ≤ rd t i * rd g i ∧ rd t i * rd g i ≤ 10000000 :=
  mul_bd (h.rt h0 h1).1 (h.rt h0 h1).2 (h.rg h0 h1).1 (h.rg h0 h1).2
def risF (n : Int) : Int → List Int → Bool
  | _, [] => true
  | p, x :: xs => decide (0 ≤ x ∧ x < n ∧ p < x) && risF n x xs
def risB (n : Int) (l : List Int) : Bool := risF n (-1) l
theorem risF_cons (n p x : Int) (xs : List Int) : risF n p (x :: xs) = (decide (0 ≤ x ∧ x < n ∧ p < x) && risF n x xs) := rfl
theorem risF_mem {n : Int} : ∀ {p : Int} {l : List Int}, risF n p l = true → ∀ x ∈ l, 0 ≤ x ∧ x < n
  | _, [], _, x, hx => by cases hx
  | p, y :: l, h, x, hx => by
    unfold risF at h
    rw [Bool.and_eq_true, decide_eq_true_eq] at h
    rcases List.mem_cons.1 hx with rfl | hx
    · exact ⟨h.1.1, h.1.2.1⟩
    · exact risF_mem h.2 x hx
theorem risF_len {n : Int} : ∀ {p : Int} {l : List Int}, -1 ≤ p → p < n → risF n p l = true → (l.length : Int) + p < n
  | p, [], h0, h1, _ => by simp; omega
  | p, x :: l, h0, h1, h => by
    unfold risF at h
    rw [Bool.and_eq_true, decide_eq_true_eq] at h
    have := risF_len (by omega) h.1.2.1 h.2
    simp only [List.length_cons]
    omega
theorem risB_mem {n : Int} {l : List Int} (h : risB n l = true) : ∀ x ∈ l, 0 ≤ x ∧ x < n := risF_mem h
theorem risB_len {n : Int} {l : List Int} (hn : 0 ≤ n) (h : risB n l = true) : (l.length : Int) ≤ n := by have := risF_len (by omega) (by omega) h; omega
def sumT (t l : List Int) : Int := (l.map (rd t)).sum
def sumM (t g l : List Int) : Int := (l.map fun i => rd t i * rd g i).sum
theorem sum_bd (f : Int → Int) (B : Int) (hB : 0 ≤ B) : ∀ (l : List Int), (∀ x ∈ l, 0 ≤ f x ∧ f x ≤ B) → 0 ≤ (l.map f).sum ∧ (l.map f).sum ≤ B * (l.length : Int)
  | [], _ => by simp
  | x :: l, h => by
    have h1 := h x (by simp)
    have h2 := sum_bd f B hB l (fun y hy => h y (by simp [hy]))
    simp only [List.map_cons, List.sum_cons, List.length_cons]
    have e : B * ((l.length + 1 : Nat) : Int) = B * (l.length : Int) + B := by
      rw [show ((l.length + 1 : Nat) : Int) = (l.length : Int) + 1 by omega, Int.mul_add, Int.mul_one]
    omega
def filtI (p : Int → Bool) : List Int → Nat → List Int
  | [], _ => []
  | x :: l, i => if p x = true then (i : Int) :: filtI p l (i + 1) else filtI p l (i + 1)
theorem filtI_pos {p : Int → Bool} {x : Int} {l : List Int} {i : Nat} (h : p x = true) : filtI p (x :: l) i = (i : Int) :: filtI p l (i + 1) := by rw [filtI, if_pos h]
theorem filtI_neg {p : Int → Bool} {x : Int} {l : List Int} {i : Nat} (h : ¬ p x = true) : filtI p (x :: l) i = filtI p l (i + 1) := by rw [filtI, if_neg h]
theorem filtI_len (p : Int → Bool) : ∀ (l : List Int) (i : Nat), (filtI p l i).length ≤ l.length
  | [], _ => by simp [filtI]
  | x :: l, i => by
    have := filtI_len p l (i + 1)
    unfold filtI
    split <;> simp <;> omega
theorem W0 : wrap64 (0 + 1) = 1 := w64 (by decide) (by decide)
theorem W1 : wrap64 (1 + 1) = 2 := w64 (by decide) (by decide)
theorem W2 : wrap64 (2 + 1) = 3 := w64 (by decide) (by decide)
theorem W3 : wrap64 (3 + 1) = 4 := w64 (by decide) (by decide)
theorem laws_eqPart_v (a b : Int) : laws_eqPart.f a b a b = some true := by simp [laws_eqPart.f]
theorem laws_eqPartS_l (l : List S53) (hn : l.length ≤ 1152921504606846976) : ∀ (d k i : Nat), i + d = l.length → d < k →
    laws_eqPartS.l0 k l l (i : Int) = some true := by
  intro d
  induction d with
  | zero =>
    intro k i hi hk
    obtain ⟨k, rfl⟩ := k_succ (by omega : 0 < k)
    simp only [laws_eqPartS.l0]
    rw [if_neg (by omega)]
  | succ d ih =>
    intro k i hi hk
    obtain ⟨k, rfl⟩ := k_succ (by omega : 0 < k)
    simp only [laws_eqPartS.l0]
    rw [if_pos (by omega), if_pos (by omega), if_pos (by omega), w64_succ (by omega), laws_eqPart_v, Option.bind_some, if_pos rfl, ih k (i + 1) (by omega) (by omega)]
theorem laws_eqPartS_v (l : List S53) (hn : l.length ≤ 1048576) {k : Nat} (hk : 1048576 < k) : laws_eqPartS.f k l l = some true := by
  unfold laws_eqPartS.f
  rw [if_pos rfl]
  exact laws_eqPartS_l l (by omega) l.length k 0 (by omega) (by omega)
def toP (p : S55) : S53 := ⟨p.f0, p.f1⟩
theorem toP_map_len (l : List S55) : (l.map toP).length = l.length := by simp
theorem laws_toPartS_l (l : List S55) (hn : l.length ≤ 1152921504606846976) : ∀ (d k i : Nat) (y : List S53), i + d = l.length → d < k → y.length = l.length → (∀ j, j < i → y[j]? = (l.map toP)[j]?) →
    laws_toPartS.l0 k l y (i : Int) = some (l.map toP) := by
  intro d
  induction d with
  | zero =>
    intro k i y hi hk hy hj
    obtain ⟨k, rfl⟩ := k_succ (by omega : 0 < k)
    simp only [laws_toPartS.l0]
    rw [if_neg (by omega)]
    congr 1
    refine List.ext_getElem? fun j => ?_
    by_cases h : j < i
    · exact hj j h
    · rw [List.getElem?_eq_none (by omega), List.getElem?_eq_none (by rw [toP_map_len]; omega)]
  | succ d ih =>
    intro k i y hi hk hy hj
    obtain ⟨k, rfl⟩ := k_succ (by omega : 0 < k)
    simp only [laws_toPartS.l0, laws_toPart.f, Option.bind_some]
    rw [if_pos (by omega), if_pos (by omega), if_pos (by omega), w64_succ (by omega)]
    refine ih k (i + 1) _ (by omega) (by omega) (by simpa using hy) (fun j hj' => ?_)
    rw [show ((i : Int) : Int).toNat = i by omega]
    by_cases h : j = i
    · subst h
      rw [List.getElem?_set_self (by omega), List.getElem?_map, List.getElem?_eq_getElem (by omega)]
      simp only [rd_T55, Option.map_some, toP]
      rw [List.getD_eq_getElem?_getD, show ((j : Int) : Int).toNat = j by omega, List.getElem?_eq_getElem (by omega)]
      rfl
    · rw [List.getElem?_set_ne (by omega)]
      exact hj j (by omega)
theorem laws_toPartS_v (l : List S55) (hn : l.length ≤ 1048576) {k : Nat} (hk : 1048576 < k) : laws_toPartS.f k l = some (l.map toP) := by
  unfold laws_toPartS.f
  rw [if_pos (by omega), if_pos (by omega)]
  exact laws_toPartS_l l (by omega) l.length k 0 _ (by omega) (by omega) (by simp) (fun j hj => by omega)
theorem laws_szPartS_v (l : List S55) (a : Int) (ha : 0 ≤ a) (ha' : a ≤ 1048576) (hm : l.length ≤ maxLen) : ∃ s, laws_szPartS.f l a = some s ∧ (s < 0 ∨ (0 ≤ s ∧ s = a - (l.length : Int))) := by
  have : (maxLen : Nat) ≤ 9223372036854775807 := by decide
  unfold laws_szPartS.f
  rw [w64 (by omega) (by omega)]
  by_cases h : a - (l.length : Int) < 0
  · rw [if_pos h]; exact ⟨_, rfl, .inl (by decide)⟩
  · rw [if_neg h]; exact ⟨_, rfl, .inr ⟨by omega, rfl⟩⟩
def marksR (n : Nat) (a : Int) : List S53 := (List.range n).map fun i : Nat => ⟨a + 2 * (i : Int), a + 2 * (i : Int) + 1⟩
theorem marksR_length (n : Nat) (a : Int) : (marksR n a).length = n := by simp [marksR]
theorem rdR_set {l : List S53} {i : Nat} {v : S53} (hi : i < l.length) : rd_T53 (l.set i v) (i : Int) = v := by
  unfold rd_T53
  rw [List.getD_eq_getElem?_getD, show ((i : Int)).toNat = i by omega, List.getElem?_set_self hi]; rfl
theorem marksR_rd {n : Nat} {a : Int} {i : Nat} (h : i < n) : rd_T53 (marksR n a) (i : Int) = ⟨a + 2 * (i : Int), a + 2 * (i : Int) + 1⟩ := by
  unfold rd_T53
  rw [List.getD_eq_getElem?_getD, show ((i : Int)).toNat = i by omega]
  simp [marksR, h]
theorem laws_markPartS_l (n : Nat) (a : Int) (ha : 0 ≤ a) (ha' : a ≤ 4194304) (hn : n ≤ 1048576) : ∀ (d k i : Nat) (y : List S53), i + d = n → d < k → y.length = n → (∀ j, j < i → y[j]? = (marksR n a)[j]?) →
    laws_markPartS.l0 k y (a + 2 * (i : Int)) (i : Int) = some (a + 2 * (n : Int), marksR n a) := by
  intro d
  induction d with
  | zero =>
    intro k i y hi hk hy hj
    obtain ⟨k, rfl⟩ := k_succ (by omega : 0 < k)
    simp only [laws_markPartS.l0]
    rw [if_neg (by omega)]
    have e : y = marksR n a := by
      refine List.ext_getElem? fun j => ?_
      by_cases h : j < n
      · exact hj j (by omega)
      · rw [List.getElem?_eq_none (by omega), List.getElem?_eq_none (by rw [marksR_length]; omega)]
    rw [e, show i = n by omega]
  | succ d ih =>
    intro k i y hi hk hy hj
    obtain ⟨k, rfl⟩ := k_succ (by omega : 0 < k)
    simp only [laws_markPartS.l0]
    rw [if_pos (by omega), if_pos (by omega), w64_succ (by omega)]
    simp only [Option.bind_some]
    rw [show ((i : Int)).toNat = i by omega, w64 (by omega) (by omega) (x := a + 2 * (i : Int) + 1), w64 (by omega) (by omega) (x := a + 2 * (i : Int) + 1 + 1), show a + 2 * (i : Int) + 1 + 1 = a + 2 * ((i + 1 : Nat) : Int) by omega]
    rw [rdR_set (by first | omega | (simp only [List.length_set]; omega))]
    refine ih k (i + 1) _ (by omega) (by omega) (by simpa using hy) (fun j hj' => ?_)
    by_cases h : j = i
    · subst h
      rw [List.getElem?_set_self (by simp; omega)]
      simp only [marksR, List.getElem?_map]
      rw [List.getElem?_range (by omega)]
      simp
    · rw [List.getElem?_set_ne (by omega), List.getElem?_set_ne (by omega)]
      exact hj j (by omega)
theorem laws_markPartS_v (l : List S53) (a : Int) (ha : 0 ≤ a) (ha' : a ≤ 4194304) (hn : l.length ≤ 1048576) {k : Nat} (hk : 1048576 < k) : laws_markPartS.f k l a = some (a + 2 * (l.length : Int), marksR l.length a) := by
  unfold laws_markPartS.f
  have := laws_markPartS_l l.length a ha ha' hn l.length k 0 l (by omega) (by omega) rfl (fun j hj => by omega)
  simpa using this
theorem laws_heldPartS_l (n : Nat) (a : Int) (ha : 0 ≤ a) (ha' : a ≤ 1048576) (hn : n ≤ 1048576) : ∀ (d k i : Nat), i + d = n → d < k →
    laws_heldPartS.l0 k (marksR n a) (a + 2 * (i : Int)) (i : Int) = some (a + 2 * (n : Int)) := by
  intro d
  induction d with
  | zero =>
    intro k i hi hk
    obtain ⟨k, rfl⟩ := k_succ (by omega : 0 < k)
    simp only [laws_heldPartS.l0, marksR_length]
    rw [if_neg (by omega), show i = n by omega]
  | succ d ih =>
    intro k i hi hk
    obtain ⟨k, rfl⟩ := k_succ (by omega : 0 < k)
    simp only [laws_heldPartS.l0, marksR_length]
    rw [if_pos (by omega), if_pos (by omega), marksR_rd (by omega)]
    simp only
    rw [if_pos (by simp), w64 (by omega) (by omega) (x := a + 2 * (i : Int) + 1), if_pos (by simp), w64 (by omega) (by omega) (x := a + 2 * (i : Int) + 1 + 1), w64_succ (by omega), show a + 2 * (i : Int) + 1 + 1 = a + 2 * ((i + 1 : Nat) : Int) by omega]
    exact ih k (i + 1) (by omega) (by omega)
theorem laws_heldPartS_v (n : Nat) (hn : n ≤ 1048576) {k : Nat} (hk : 1048576 < k) : laws_heldPartS.f k (marksR n 1) 1 = some (1 + 2 * (n : Int)) := by
  unfold laws_heldPartS.f
  have := laws_heldPartS_l n 1 (by omega) (by omega) hn n k 0 (by omega) (by omega)
  simpa using this
abbrev Pt := S53
inductive T where
  | lf (k v : Int) | n2 (k : Int) (a b : T) | n4 (k : Int) (a b c d : T)
def T.size : T → Nat
  | .lf _ _ => 1
  | .n2 _ a b => a.size + b.size + 1
  | .n4 _ a b c d => a.size + b.size + c.size + d.size + 1
def T.enc : T → List Pt
  | .lf k v => [⟨k, v⟩]
  | .n2 k a b => a.enc ++ (b.enc ++ [⟨k, 0⟩])
  | .n4 k a b c d => a.enc ++ (b.enc ++ (c.enc ++ (d.enc ++ [⟨k, 0⟩])))
def T.depth : T → Int
  | .lf _ _ => 1
  | .n2 _ a b => max (max 0 a.depth) b.depth + 1
  | .n4 _ a b c d => max (max (max (max 0 a.depth) b.depth) c.depth) d.depth + 1
def T.ok : T → Prop
  | .lf k v => (k = 0 ∧ 0 ≤ v ∧ v ≤ 1000000) ∨ (k = 1 ∧ 0 ≤ v ∧ v ≤ 4)
  | .n2 k a b => 2 ≤ k ∧ k ≤ 5 ∧ a.ok ∧ b.ok
  | .n4 k a b c d => 6 ≤ k ∧ k ≤ 8 ∧ a.ok ∧ b.ok ∧ c.ok ∧ d.ok
def T.top : T → Pt
  | .lf k v => ⟨k, v⟩
  | .n2 k _ _ => ⟨k, 0⟩
  | .n4 k _ _ _ _ => ⟨k, 0⟩
def T.root (t : T) (o : Nat) : Int := (o : Int) + (t.size : Int) - 1
def T.kids : T → Nat → List Int
  | .lf _ _, _ => []
  | .n2 _ a b, o => [a.root o, b.root (o + a.size)]
  | .n4 _ a b c d, o => [a.root o, b.root (o + a.size), c.root (o + a.size + b.size), d.root (o + a.size + b.size + c.size)]
def T.trees : T → Nat → List (List Int)
  | .lf k v, o => [T.kids (.lf k v) o]
  | .n2 k a b, o => a.trees o ++ (b.trees (o + a.size) ++ [T.kids (.n2 k a b) o])
  | .n4 k a b c d, o => a.trees o ++ (b.trees (o + a.size) ++ (c.trees (o + a.size + b.size) ++ (d.trees (o + a.size + b.size + c.size) ++ [T.kids (.n4 k a b c d) o])))
theorem T.size_pos (t : T) : 1 ≤ t.size := by cases t <;> simp only [T.size] <;> omega
theorem T.enc_len : ∀ t : T, t.enc.length = t.size := by
  intro t
  induction t with
  | lf k v => rfl
  | n2 k a b ha hb => simp [T.enc, T.size, ha, hb]; omega
  | n4 k a b c d ha hb hc hd => simp [T.enc, T.size, ha, hb, hc, hd]; omega
theorem T.trees_len : ∀ (t : T) (o : Nat), (t.trees o).length = t.size := by
  intro t
  induction t with
  | lf k v => intro o; rfl
  | n2 k a b ha hb => intro o; simp [T.trees, T.size, ha, hb]; omega
  | n4 k a b c d ha hb hc hd => intro o; simp [T.trees, T.size, ha, hb, hc, hd]; omega
theorem T.enc_top (t : T) : ∃ e, t.enc = e ++ [t.top] ∧ e.length + 1 = t.size := by
  cases t with
  | lf k v => exact ⟨[], rfl, rfl⟩
  | n2 k a b => exact ⟨a.enc ++ b.enc, by simp [T.enc, T.top], by simp [T.size, T.enc_len]⟩
  | n4 k a b c d => exact ⟨a.enc ++ b.enc ++ c.enc ++ d.enc, by simp [T.enc, T.top], by simp [T.size, T.enc_len]; omega⟩
theorem T.trees_top (t : T) (o : Nat) : ∃ e, t.trees o = e ++ [t.kids o] ∧ e.length + 1 = t.size := by
  cases t with
  | lf k v => exact ⟨[], rfl, rfl⟩
  | n2 k a b => exact ⟨a.trees o ++ b.trees (o + a.size), by simp [T.trees], by simp [T.size, T.trees_len]⟩
  | n4 k a b c d => exact ⟨a.trees o ++ b.trees (o + a.size) ++ c.trees (o + a.size + b.size) ++ d.trees (o + a.size + b.size + c.size), by simp [T.trees], by simp [T.size, T.trees_len]; omega⟩
theorem T.depth_pos : ∀ t : T, 1 ≤ t.depth := by
  intro t
  cases t <;> simp only [T.depth] <;> omega
theorem T.depth_le : ∀ t : T, t.depth ≤ (t.size : Int) := by
  intro t
  induction t with
  | lf k v => simp [T.depth, T.size]
  | n2 k a b ha hb => simp only [T.depth, T.size]; have := a.size_pos; have := b.size_pos; omega
  | n4 k a b c d ha hb hc hd => simp only [T.depth, T.size]; have := a.size_pos; have := b.size_pos; have := c.size_pos; have := d.size_pos; omega
theorem getD_mid {α : Type} (u v : List α) (x z : α) {i : Nat} (h : i = u.length) : (u ++ x :: v).getD i z = x := by
  subst h; simp
/-- the tree's parts stand in the list from 'o' on -/
def At (L : List Pt) (o : Nat) (t : T) : Prop := ∃ p q, L = p ++ (t.enc ++ q) ∧ p.length = o
def TA (R : List (List Int)) (o : Nat) (t : T) : Prop := ∃ p q, R = p ++ (t.trees o ++ q) ∧ p.length = o
theorem At.self (t : T) : At t.enc 0 t := ⟨[], [], by simp, rfl⟩
theorem TA.self (t : T) : TA (t.trees 0) 0 t := ⟨[], [], by simp, rfl⟩
theorem At.le {L o t} (h : At L o t) : o + t.size ≤ L.length := by
  obtain ⟨p, q, rfl, rfl⟩ := h
  simp only [List.length_append, T.enc_len]; omega
theorem TA.le {L o t} (h : TA L o t) : o + t.size ≤ L.length := by
  obtain ⟨p, q, rfl, rfl⟩ := h
  simp only [List.length_append, T.trees_len]; omega
theorem At.top {L o t} (h : At L o t) : rd_T53 L (t.root o) = t.top := by
  obtain ⟨p, q, rfl, rfl⟩ := h
  obtain ⟨e, he, hl⟩ := t.enc_top
  unfold rd_T53 T.root
  rw [he, show p ++ ((e ++ [t.top]) ++ q) = (p ++ e) ++ t.top :: q by simp]
  exact getD_mid _ _ _ _ (by simp; omega)
theorem TA.kids {L o t} (h : TA L o t) : rd_L3 L (t.root o) = t.kids o := by
  obtain ⟨p, q, rfl, rfl⟩ := h
  obtain ⟨e, he, hl⟩ := t.trees_top p.length
  unfold rd_L3 T.root
  rw [he, show p ++ ((e ++ [t.kids p.length]) ++ q) = (p ++ e) ++ t.kids p.length :: q by simp]
  exact getD_mid _ _ _ _ (by simp; omega)
theorem At.n2 {L o k a b} (h : At L o (.n2 k a b)) : At L o a ∧ At L (o + a.size) b := by
  obtain ⟨p, q, rfl, rfl⟩ := h
  exact ⟨⟨p, b.enc ++ ([⟨k, 0⟩] ++ q), by simp [T.enc], rfl⟩, ⟨p ++ a.enc, [⟨k, 0⟩] ++ q, by simp [T.enc], by simp [T.enc_len]⟩⟩
theorem TA.n2 {L o k a b} (h : TA L o (.n2 k a b)) : TA L o a ∧ TA L (o + a.size) b := by
  obtain ⟨p, q, rfl, rfl⟩ := h
  exact ⟨⟨p, b.trees (p.length + a.size) ++ ([T.kids (.n2 k a b) p.length] ++ q), by simp [T.trees], rfl⟩, ⟨p ++ a.trees p.length, [T.kids (.n2 k a b) p.length] ++ q, by simp [T.trees], by simp [T.trees_len]⟩⟩
theorem At.n4 {L o k a b c d} (h : At L o (.n4 k a b c d)) : At L o a ∧ At L (o + a.size) b ∧ At L (o + a.size + b.size) c ∧ At L (o + a.size + b.size + c.size) d := by
  obtain ⟨p, q, rfl, rfl⟩ := h
  exact ⟨⟨p, b.enc ++ (c.enc ++ (d.enc ++ ([⟨k, 0⟩] ++ q))), by simp [T.enc], rfl⟩, ⟨p ++ a.enc, c.enc ++ (d.enc ++ ([⟨k, 0⟩] ++ q)), by simp [T.enc], by simp [T.enc_len]⟩,
    ⟨p ++ (a.enc ++ b.enc), d.enc ++ ([⟨k, 0⟩] ++ q), by simp [T.enc], by simp [T.enc_len]; omega⟩, ⟨p ++ (a.enc ++ (b.enc ++ c.enc)), [⟨k, 0⟩] ++ q, by simp [T.enc], by simp [T.enc_len]; omega⟩⟩
theorem TA.n4 {L o k a b c d} (h : TA L o (.n4 k a b c d)) : TA L o a ∧ TA L (o + a.size) b ∧ TA L (o + a.size + b.size) c ∧ TA L (o + a.size + b.size + c.size) d := by
  obtain ⟨p, q, rfl, rfl⟩ := h
  exact ⟨⟨p, b.trees (p.length + a.size) ++ (c.trees (p.length + a.size + b.size) ++ (d.trees (p.length + a.size + b.size + c.size) ++ ([T.kids (.n4 k a b c d) p.length] ++ q))), by simp [T.trees], rfl⟩,
    ⟨p ++ a.trees p.length, c.trees (p.length + a.size + b.size) ++ (d.trees (p.length + a.size + b.size + c.size) ++ ([T.kids (.n4 k a b c d) p.length] ++ q)), by simp [T.trees], by simp [T.trees_len]⟩,
    ⟨p ++ (a.trees p.length ++ b.trees (p.length + a.size)), d.trees (p.length + a.size + b.size + c.size) ++ ([T.kids (.n4 k a b c d) p.length] ++ q), by simp [T.trees], by simp [T.trees_len]; omega⟩,
    ⟨p ++ (a.trees p.length ++ (b.trees (p.length + a.size) ++ c.trees (p.length + a.size + b.size))), [T.kids (.n4 k a b c d) p.length] ++ q, by simp [T.trees], by simp [T.trees_len]; omega⟩⟩
theorem At.seg {L o t} (h : At L o t) : (L.take (o + t.size)).drop o = t.enc := by
  obtain ⟨p, q, rfl, rfl⟩ := h
  rw [← List.append_assoc, List.take_left' (by simp [T.enc_len]), List.drop_left]
theorem take_stp {l : List Pt} {i : Nat} (h : i < l.length) : l.take (i + 1) = l.take i ++ [rd_T53 l (i : Int)] := by
  have hp : rd_T53 l (i : Int) = l.getD i z53 := by unfold rd_T53; rw [Int.toNat_natCast]
  rw [List.take_add_one, List.getElem?_eq_getElem h, hp, List.getD_eq_getElem?_getD, List.getElem?_eq_getElem h]; rfl
/-! one step of the stack, top first -/
def stp (ts : List T) (p : Pt) : Option (List T) :=
  if (p.f0 = 0 ∧ 0 ≤ p.f1 ∧ p.f1 ≤ 1000000) ∨ (p.f0 = 1 ∧ 0 ≤ p.f1 ∧ p.f1 ≤ 4) then some (.lf p.f0 p.f1 :: ts)
  else if 2 ≤ p.f0 ∧ p.f0 ≤ 5 ∧ p.f1 = 0 then (match ts with | b :: a :: r => some (.n2 p.f0 a b :: r) | _ => none)
  else if 6 ≤ p.f0 ∧ p.f0 ≤ 8 ∧ p.f1 = 0 then (match ts with | d :: c :: b :: a :: r => some (.n4 p.f0 a b c d :: r) | _ => none)
  else none
def run : List T → List Pt → Option (List T)
  | ts, [] => some ts
  | ts, p :: ps => (stp ts p).bind fun ts' => run ts' ps
def encS : List T → List Pt
  | [] => []
  | t :: ts => encS ts ++ t.enc
def lenS : List T → Nat
  | [] => 0
  | t :: ts => lenS ts + t.size
def treS : List T → List (List Int)
  | [] => []
  | t :: ts => treS ts ++ t.trees (lenS ts)
def rootS : List T → List Int
  | [] => []
  | t :: ts => rootS ts ++ [t.root (lenS ts)]
def depS : List T → List Int
  | [] => []
  | t :: ts => depS ts ++ [t.depth]
def okS (ts : List T) : Prop := ∀ t ∈ ts, t.ok
theorem encS_len : ∀ ts, (encS ts).length = lenS ts
  | [] => rfl
  | t :: ts => by simp [encS, lenS, encS_len ts, T.enc_len]
theorem treS_len : ∀ ts, (treS ts).length = lenS ts
  | [] => rfl
  | t :: ts => by simp [treS, lenS, treS_len ts, T.trees_len]
theorem rootS_len : ∀ ts, (rootS ts).length = ts.length
  | [] => rfl
  | t :: ts => by simp [rootS, rootS_len ts]
theorem depS_len : ∀ ts, (depS ts).length = ts.length
  | [] => rfl
  | t :: ts => by simp [depS, depS_len ts]
theorem len_le_lenS : ∀ ts : List T, ts.length ≤ lenS ts
  | [] => Nat.le_refl _
  | t :: ts => by have := len_le_lenS ts; have := t.size_pos; simp only [lenS, List.length_cons]; omega
/-- the cases of one step -/
theorem stp_cases (ts : List T) (p : Pt) :
    (((p.f0 = 0 ∧ 0 ≤ p.f1 ∧ p.f1 ≤ 1000000) ∨ (p.f0 = 1 ∧ 0 ≤ p.f1 ∧ p.f1 ≤ 4)) ∧ stp ts p = some (.lf p.f0 p.f1 :: ts)) ∨
    (2 ≤ p.f0 ∧ p.f0 ≤ 5 ∧ p.f1 = 0 ∧ ∃ a b r, ts = b :: a :: r ∧ stp ts p = some (.n2 p.f0 a b :: r)) ∨
    (6 ≤ p.f0 ∧ p.f0 ≤ 8 ∧ p.f1 = 0 ∧ ∃ a b c d r, ts = d :: c :: b :: a :: r ∧ stp ts p = some (.n4 p.f0 a b c d :: r)) ∨
    (2 ≤ p.f0 ∧ p.f0 ≤ 5 ∧ p.f1 = 0 ∧ ts.length < 2 ∧ stp ts p = none) ∨
    (6 ≤ p.f0 ∧ p.f0 ≤ 8 ∧ p.f1 = 0 ∧ ts.length < 4 ∧ stp ts p = none) ∨
    (¬ ((p.f0 = 0 ∧ 0 ≤ p.f1 ∧ p.f1 ≤ 1000000) ∨ (p.f0 = 1 ∧ 0 ≤ p.f1 ∧ p.f1 ≤ 4)) ∧ ¬ (2 ≤ p.f0 ∧ p.f0 ≤ 8 ∧ p.f1 = 0) ∧ stp ts p = none) := by
  by_cases h1 : (p.f0 = 0 ∧ 0 ≤ p.f1 ∧ p.f1 ≤ 1000000) ∨ (p.f0 = 1 ∧ 0 ≤ p.f1 ∧ p.f1 ≤ 4)
  · exact .inl ⟨h1, by unfold stp; rw [if_pos h1]⟩
  · by_cases h2 : 2 ≤ p.f0 ∧ p.f0 ≤ 5 ∧ p.f1 = 0
    · match ts with
      | [] => exact .inr (.inr (.inr (.inl ⟨h2.1, h2.2.1, h2.2.2, by simp, by unfold stp; rw [if_neg h1, if_pos h2]⟩)))
      | [_] => exact .inr (.inr (.inr (.inl ⟨h2.1, h2.2.1, h2.2.2, by simp, by unfold stp; rw [if_neg h1, if_pos h2]⟩)))
      | b :: a :: r => exact .inr (.inl ⟨h2.1, h2.2.1, h2.2.2, a, b, r, rfl, by unfold stp; rw [if_neg h1, if_pos h2]⟩)
    · by_cases h3 : 6 ≤ p.f0 ∧ p.f0 ≤ 8 ∧ p.f1 = 0
      · match ts with
        | [] => exact .inr (.inr (.inr (.inr (.inl ⟨h3.1, h3.2.1, h3.2.2, by simp, by unfold stp; rw [if_neg h1, if_neg h2, if_pos h3]⟩))))
        | [_] => exact .inr (.inr (.inr (.inr (.inl ⟨h3.1, h3.2.1, h3.2.2, by simp, by unfold stp; rw [if_neg h1, if_neg h2, if_pos h3]⟩))))
        | [_, _] => exact .inr (.inr (.inr (.inr (.inl ⟨h3.1, h3.2.1, h3.2.2, by simp, by unfold stp; rw [if_neg h1, if_neg h2, if_pos h3]⟩))))
        | [_, _, _] => exact .inr (.inr (.inr (.inr (.inl ⟨h3.1, h3.2.1, h3.2.2, by simp, by unfold stp; rw [if_neg h1, if_neg h2, if_pos h3]⟩))))
        | d :: c :: b :: a :: r => exact .inr (.inr (.inl ⟨h3.1, h3.2.1, h3.2.2, a, b, c, d, r, rfl, by unfold stp; rw [if_neg h1, if_neg h2, if_pos h3]⟩))
      · exact .inr (.inr (.inr (.inr (.inr ⟨h1, by omega, by unfold stp; rw [if_neg h1, if_neg h2, if_neg h3]⟩))))
theorem Pt.eta0 {p : Pt} (h : p.f1 = 0) : p = ⟨p.f0, 0⟩ := by cases p; simp_all
theorem stp_enc {ts ts' : List T} {p : Pt} (h : stp ts p = some ts') (ho : okS ts) : encS ts' = encS ts ++ [p] ∧ okS ts' := by
  rcases stp_cases ts p with ⟨h1, e⟩ | ⟨h1, h2, h3, a, b, r, rfl, e⟩ | ⟨h1, h2, h3, a, b, c, d, r, rfl, e⟩ | ⟨_, _, _, _, e⟩ | ⟨_, _, _, _, e⟩ | ⟨_, _, e⟩
  · rw [h] at e; cases e
    exact ⟨by simp [encS, T.enc], fun t ht => by
      rcases List.mem_cons.mp ht with rfl | ht
      · exact h1
      · exact ho t ht⟩
  · rw [h] at e; cases e
    refine ⟨by rw [Pt.eta0 h3]; simp [encS, T.enc], fun t ht => ?_⟩
    rcases List.mem_cons.mp ht with rfl | ht
    · exact ⟨h1, h2, ho _ (by simp), ho _ (by simp)⟩
    · exact ho t (by simp [ht])
  · rw [h] at e; cases e
    refine ⟨by rw [Pt.eta0 h3]; simp [encS, T.enc], fun t ht => ?_⟩
    rcases List.mem_cons.mp ht with rfl | ht
    · exact ⟨h1, h2, ho _ (by simp), ho _ (by simp), ho _ (by simp), ho _ (by simp)⟩
    · exact ho t (by simp [ht])
  · rw [h] at e; cases e
  · rw [h] at e; cases e
  · rw [h] at e; cases e
theorem run_enc : ∀ (ps : List Pt) (ts ts' : List T), run ts ps = some ts' → okS ts → encS ts' = encS ts ++ ps ∧ okS ts'
  | [], ts, ts', h, ho => by cases h; simp [ho]
  | p :: ps, ts, ts', h, ho => by
    simp only [run, Option.bind_eq_some_iff] at h
    obtain ⟨u, hu, h⟩ := h
    obtain ⟨e1, o1⟩ := stp_enc hu ho
    obtain ⟨e2, o2⟩ := run_enc ps u ts' h o1
    exact ⟨by rw [e2, e1]; simp, o2⟩
theorem run_app (ps qs : List Pt) : ∀ ts, run ts (ps ++ qs) = (run ts ps).bind fun u => run u qs := by
  induction ps with
  | nil => intro ts; rfl
  | cons p ps ih =>
    intro ts
    simp only [List.cons_append, run]
    cases h : stp ts p with
    | none => rfl
    | some u => simp only [Option.bind_some]; exact ih u
theorem run_t : ∀ (t : T), t.ok → ∀ ts, run ts t.enc = some (t :: ts) := by
  intro t
  induction t with
  | lf k v =>
    intro ho ts
    simp only [T.enc, run, stp]
    simp only [T.ok] at ho
    rw [if_pos ho]; rfl
  | n2 k a b ha hb =>
    intro ho ts
    obtain ⟨h1, h2, oa, ob⟩ := ho
    have e1 : ¬ ((k = 0 ∧ (0 : Int) ≤ 0 ∧ (0 : Int) ≤ 1000000) ∨ (k = 1 ∧ (0 : Int) ≤ 0 ∧ (0 : Int) ≤ 4)) := by omega
    have e2 : 2 ≤ k ∧ k ≤ 5 ∧ True := ⟨h1, h2, trivial⟩
    simp only [T.enc, run_app, ha oa, hb ob, Option.bind_some, run, stp]
    rw [if_neg e1, if_pos e2]; rfl
  | n4 k a b c d ha hb hc hd =>
    intro ho ts
    obtain ⟨h1, h2, oa, ob, oc, od⟩ := ho
    have e1 : ¬ ((k = 0 ∧ (0 : Int) ≤ 0 ∧ (0 : Int) ≤ 1000000) ∨ (k = 1 ∧ (0 : Int) ≤ 0 ∧ (0 : Int) ≤ 4)) := by omega
    have e0 : ¬ (2 ≤ k ∧ k ≤ 5 ∧ True) := by omega
    have e2 : 6 ≤ k ∧ k ≤ 8 ∧ True := ⟨h1, h2, trivial⟩
    simp only [T.enc, run_app, ha oa, hb ob, hc oc, hd od, Option.bind_some, run, stp]
    rw [if_neg e1, if_neg e0, if_pos e2]; rfl
def goodT (l : List Pt) : Option T :=
  if 1 ≤ l.length ∧ l.length ≤ 39 then (match run [] l with | some [t] => if t.depth ≤ 12 then some t else none | _ => none) else none
theorem goodT_t {l : List Pt} {t : T} (h : goodT l = some t) : l = t.enc ∧ t.ok ∧ t.size ≤ 39 ∧ t.depth ≤ 12 := by
  unfold goodT at h
  split at h
  · rename_i hl
    split at h
    · rename_i u hr
      split at h
      · rename_i hd
        cases h
        obtain ⟨e, o⟩ := run_enc l [] [t] hr (fun t ht => by simp at ht)
        simp only [encS, List.nil_append] at e
        exact ⟨e.symm, o t (by simp), by rw [← T.enc_len, e]; exact hl.2, hd⟩
      · exact absurd h (by simp)
    · exact absurd h (by simp)
  · exact absurd h (by simp)
theorem spec_ruPart_v (a b : Int) : spec_ruPart.f a b = some (decide ((a = 0 ∧ 0 ≤ b ∧ b ≤ 1000000) ∨ (a = 1 ∧ 0 ≤ b ∧ b ≤ 4) ∨ (2 ≤ a ∧ a ≤ 8 ∧ b = 0))) := by
  unfold spec_ruPart.f
  by_cases h0 : a = 0
  · rw [if_pos h0, spec_l1In_v, Option.bind_some]; congr 1; rw [decide_eq_decide]; omega
  · rw [if_neg h0]
    by_cases h1 : a = 1
    · rw [if_pos h1, spec_l1In_v, Option.bind_some]; congr 1; rw [decide_eq_decide]; omega
    · rw [if_neg h1, spec_l1In_v, Option.bind_some]
      by_cases h2 : 2 ≤ a ∧ a ≤ 8
      · rw [if_pos (by simpa using h2)]; congr 1
        have : ((b == 0) : Bool) = decide (b = 0) := rfl
        rw [this, decide_eq_decide]; omega
      · rw [if_neg (by simpa using h2)]; congr 1; symm; rw [decide_eq_false_iff_not]; omega
theorem spec_ruNeeds_v0 {a : Int} (h : a ≤ 1) : spec_ruNeeds.f a = some 0 := by unfold spec_ruNeeds.f; rw [if_pos h]
theorem spec_ruNeeds_v2 {a : Int} (h : 2 ≤ a) (h' : a ≤ 5) : spec_ruNeeds.f a = some 2 := by unfold spec_ruNeeds.f; rw [if_neg (by omega), if_pos h']
theorem spec_ruNeeds_v4 {a : Int} (h : 6 ≤ a) : spec_ruNeeds.f a = some 4 := by unfold spec_ruNeeds.f; rw [if_neg (by omega), if_neg (by omega)]
theorem spec_l1Own_v {l : List Int} (h : l.length < 17592186044416) : spec_l1Own.f l = some l := by
  unfold spec_l1Own.f
  simp only [Option.bind_some, List.length_nil, Nat.zero_add, List.nil_append]
  rw [if_pos h]
def treeR (o : Option (List T)) : List (List Int) × Bool := match o with | none => ([], false) | some ts => (treS ts, ts.length == 1)
theorem spec_ruTree_l (l : List Pt) (hn : l.length ≤ 1048576) : ∀ (d i k : Nat) (ts : List T), i + d = l.length → lenS ts = i → 2 * d < k →
    spec_ruTree.l0 k (treS ts) (rootS ts) l (l.length : Int) (i : Int) = some (treeR (run ts (l.drop i))) := by
  intro d
  induction d with
  | zero =>
    intro i k ts hi hl hk
    obtain ⟨k, rfl⟩ := k_succ (by omega : 0 < k)
    simp only [spec_ruTree.l0]
    rw [if_neg (by omega), List.drop_eq_nil_of_le (by omega)]
    simp only [run, treeR, rootS_len]
    congr 2
    rw [Bool.eq_iff_iff]; simp; omega
  | succ d ih =>
    intro i k ts hi hl hk
    obtain ⟨k, rfl⟩ : ∃ m, k = m + 2 := ⟨k - 2, by omega⟩
    have hle := len_le_lenS ts
    have hp : rd_T53 l (i : Int) = l.getD i z53 := by unfold rd_T53; rw [Int.toNat_natCast]
    have hd : l.drop i = rd_T53 l (i : Int) :: l.drop (i + 1) := by
      rw [hp, List.drop_eq_getElem_cons (by omega), List.getD_eq_getElem?_getD, List.getElem?_eq_getElem (by omega)]; rfl
    simp only [spec_ruTree.l0]
    rw [if_pos (by omega), if_pos (by omega), if_pos (by omega), hd]
    generalize rd_T53 l (i : Int) = p
    rw [spec_ruPart_v, Option.bind_some]
    simp only [run, decide_eq_true_eq]
    rcases stp_cases ts p with ⟨h1, e⟩ | ⟨h1, h2, h3, a, b, r, rfl, e⟩ | ⟨h1, h2, h3, a, b, c, d', r, rfl, e⟩ | ⟨h1, h2, h3, h4, e⟩ | ⟨h1, h2, h3, h4, e⟩ | ⟨h1, h2, e⟩
    · rw [if_pos (by omega), spec_ruNeeds_v0 (by omega), Option.bind_some, e, Option.bind_some]
      simp only [spec_ruTree.j1, decide_eq_true_eq, rootS_len]
      rw [if_neg (by omega), spec_ruNeeds_v0 (by omega), Option.bind_some, w64 (by omega) (by omega)]
      rw [if_pos (by omega), if_pos (by omega), show ((ts.length : Int) - 0).toNat = ts.length by omega, List.drop_eq_nil_of_le (by rw [rootS_len]; omega), List.take_of_length_le (by rw [rootS_len]; omega)]
      rw [spec_l1Own_v (by simp), Option.bind_some, treS_len, if_pos (by omega), spec_l1Own_v (by rw [rootS_len]; omega), Option.bind_some, rootS_len, if_pos (by omega), w64_succ (by omega)]
      have := ih (i + 1) k (.lf p.f0 p.f1 :: ts) (by omega) (by simp only [lenS, T.size]; omega) (by omega)
      simp only [treS, rootS, T.trees, T.kids, T.root, T.size] at this
      rw [← this, hl]
      congr 3; omega
    · rw [if_pos (by omega), spec_ruNeeds_v2 (by omega) (by omega), Option.bind_some, e, Option.bind_some]
      simp only [List.length_cons] at hle
      simp only [lenS] at hl
      have ha := a.size_pos; have hb := b.size_pos; have hr := len_le_lenS r
      simp only [spec_ruTree.j1, decide_eq_true_eq, rootS_len, List.length_cons]
      rw [if_neg (by omega), spec_ruNeeds_v2 (by omega) (by omega), Option.bind_some, w64 (by omega) (by omega)]
      rw [if_pos (by omega), if_pos (by omega), show (((r.length + 1 + 1 : Nat) : Int) - 2).toNat = (rootS r).length by rw [rootS_len]; omega]
      simp only [rootS, List.append_assoc, List.drop_left, List.take_left, List.cons_append, List.nil_append]
      rw [spec_l1Own_v (by simp), Option.bind_some, treS_len, if_pos (by simp only [lenS]; omega), spec_l1Own_v (by rw [rootS_len]; omega), Option.bind_some, rootS_len, if_pos (by omega), w64_succ (by omega)]
      have := ih (i + 1) k (.n2 p.f0 a b :: r) (by omega) (by simp only [lenS, T.size]; omega) (by omega)
      simp only [treS, rootS, T.trees, T.kids, T.root, T.size] at this
      rw [← this]
      simp only [treS, T.root, lenS, List.append_assoc]
      congr 3; omega
    · rw [if_pos (by omega), spec_ruNeeds_v4 (by omega), Option.bind_some, e, Option.bind_some]
      simp only [List.length_cons] at hle
      simp only [lenS] at hl
      have ha := a.size_pos; have hb := b.size_pos; have hc := c.size_pos; have hd' := d'.size_pos; have hr := len_le_lenS r
      simp only [spec_ruTree.j1, decide_eq_true_eq, rootS_len, List.length_cons]
      rw [if_neg (by omega), spec_ruNeeds_v4 (by omega), Option.bind_some, w64 (by omega) (by omega)]
      rw [if_pos (by omega), if_pos (by omega), show (((r.length + 1 + 1 + 1 + 1 : Nat) : Int) - 4).toNat = (rootS r).length by rw [rootS_len]; omega]
      simp only [rootS, List.append_assoc, List.drop_left, List.take_left, List.cons_append, List.nil_append]
      rw [spec_l1Own_v (by simp), Option.bind_some, treS_len, if_pos (by simp only [lenS]; omega), spec_l1Own_v (by rw [rootS_len]; omega), Option.bind_some, rootS_len, if_pos (by omega), w64_succ (by omega)]
      have := ih (i + 1) k (.n4 p.f0 a b c d' :: r) (by omega) (by simp only [lenS, T.size]; omega) (by omega)
      simp only [treS, rootS, T.trees, T.kids, T.root, T.size] at this
      rw [← this]
      simp only [treS, T.root, lenS, List.append_assoc]
      congr 3; omega
    · rw [if_pos (by omega), spec_ruNeeds_v2 (by omega) (by omega), Option.bind_some, e, Option.bind_none]
      simp only [spec_ruTree.j1, decide_eq_true_eq, rootS_len]
      rw [if_pos (by omega)]; rfl
    · rw [if_pos (by omega), spec_ruNeeds_v4 (by omega), Option.bind_some, e, Option.bind_none]
      simp only [spec_ruTree.j1, decide_eq_true_eq, rootS_len]
      rw [if_pos (by omega)]; rfl
    · rw [if_neg (by omega), e, Option.bind_none]
      simp only [spec_ruTree.j1, if_true]; rfl
theorem spec_ruTree_v (l : List Pt) (hn : l.length ≤ 1048576) {k : Nat} (hk : 2 * l.length < k) : spec_ruTree.f k l = some (treeR (run [] l)) := by
  unfold spec_ruTree.f
  simpa [treS, rootS] using spec_ruTree_l l hn l.length 0 k [] (by omega) rfl hk
theorem spec_ruTree_t {t : T} (h : t.ok) (hn : t.size ≤ 39) {k : Nat} (hk : 100 < k) : spec_ruTree.f k t.enc = some (t.trees 0, true) := by
  rw [spec_ruTree_v _ (by rw [T.enc_len]; omega) (by rw [T.enc_len]; omega), run_t t h]
  simp [treeR, treS, lenS]
theorem spec_l1Most_v (a b : Int) : spec_l1Most.f a b = some (max a b) := by
  unfold spec_l1Most.f
  split <;> (congr 1; omega)
def T.deps : T → List Int
  | .lf _ _ => [1]
  | .n2 k a b => a.deps ++ (b.deps ++ [(T.n2 k a b).depth])
  | .n4 k a b c d => a.deps ++ (b.deps ++ (c.deps ++ (d.deps ++ [(T.n4 k a b c d).depth])))
def T.cost : T → Nat
  | .lf _ _ => 2
  | .n2 _ a b => a.cost + b.cost + 4
  | .n4 _ a b c d => a.cost + b.cost + c.cost + d.cost + 6
theorem T.cost_le : ∀ t : T, t.cost ≤ 6 * t.size := by
  intro t
  induction t with
  | lf k v => simp [T.cost, T.size]
  | n2 k a b ha hb => simp only [T.cost, T.size]; omega
  | n4 k a b c d ha hb hc hd => simp only [T.cost, T.size]; omega
theorem T.deps_len : ∀ t : T, t.deps.length = t.size := by
  intro t
  induction t with
  | lf k v => rfl
  | n2 k a b ha hb => simp [T.deps, T.size, ha, hb]; omega
  | n4 k a b c d ha hb hc hd => simp [T.deps, T.size, ha, hb, hc, hd]; omega
theorem T.deps_top (t : T) : ∃ e, t.deps = e ++ [t.depth] ∧ e.length + 1 = t.size := by
  cases t with
  | lf k v => exact ⟨[], rfl, rfl⟩
  | n2 k a b => exact ⟨a.deps ++ b.deps, by simp [T.deps], by simp [T.size, T.deps_len]⟩
  | n4 k a b c d => exact ⟨a.deps ++ b.deps ++ c.deps ++ d.deps, by simp [T.deps], by simp [T.size, T.deps_len]; omega⟩
theorem T.rd_dep (t : T) (p q : List Int) (o : Nat) (h : p.length = o) : rd (p ++ (t.deps ++ q)) (t.root o) = t.depth := by
  obtain ⟨e, he, hl⟩ := t.deps_top
  unfold rd T.root
  rw [he, show p ++ ((e ++ [t.depth]) ++ q) = (p ++ e) ++ t.depth :: q by simp]
  exact getD_mid _ _ _ _ (by simp; omega)
theorem root_in {t : T} {o n : Nat} (h : o + t.size ≤ n) : 0 ≤ t.root o ∧ t.root o < (n : Int) := by
  have := t.size_pos; unfold T.root; omega
theorem spec_ruDepths_t (R : List (List Int)) (hn : R.length ≤ 1048576) : ∀ (t : T) (o k : Nat) (x : List Int), TA R o t → x.length = o →
    spec_ruDepths.l0 (k + t.cost) x R (R.length : Int) (o : Int) = spec_ruDepths.l0 k (x ++ t.deps) R (R.length : Int) ((o + t.size : Nat) : Int) := by
  intro t
  induction t with
  | lf kk v =>
    intro o k x h hx
    have hle := h.le
    have hk := h.kids
    simp only [T.size, T.root, T.kids] at hle hk
    rw [show (o : Int) + ((1 : Nat) : Int) - 1 = (o : Int) by omega] at hk
    simp only [T.cost, T.deps, T.size]
    simp only [spec_ruDepths.l0]
    rw [if_pos (by omega), if_pos (by omega), if_pos (by omega), hk]
    simp only [spec_ruDepths.l1, List.length_nil]
    rw [if_neg (by omega), if_pos (by omega), w64_succ (by omega), W0]
  | n2 kk a b ha hb =>
    intro o k x h hx
    have hle := h.le
    have hk := h.kids
    obtain ⟨h1, h2⟩ := h.n2
    have e := ha o (k + 4 + b.cost) x h1 hx
    have e2 := hb (o + a.size) (k + 4) (x ++ a.deps) h2 (by simp [hx, T.deps_len])
    simp only [T.size] at hle
    rw [show k + (T.n2 kk a b).cost = k + 4 + b.cost + a.cost by simp only [T.cost]; omega, e, e2]
    have ri : T.root (.n2 kk a b) o = ((o + a.size + b.size : Nat) : Int) := by simp only [T.root, T.size]; omega
    rw [ri] at hk
    have s1 := a.size_pos; have s2 := b.size_pos
    have q1 := root_in (t := a) (o := o) (n := o + a.size + b.size) (by omega)
    have q2 := root_in (t := b) (o := o + a.size) (n := o + a.size + b.size) (by omega)
    have r1 := T.rd_dep a x b.deps o hx
    have r2 := T.rd_dep b (x ++ a.deps) [] (o + a.size) (by simp [hx, T.deps_len])
    have lx : (x ++ a.deps ++ b.deps).length = o + a.size + b.size := by simp [hx, T.deps_len]; omega
    rw [List.append_nil] at r2
    rw [← List.append_assoc] at r1
    generalize hy : x ++ a.deps ++ b.deps = y at *
    simp only [spec_ruDepths.l0]
    rw [if_pos (by omega), if_pos (by omega), if_pos (by omega), hk]
    simp only [T.kids]
    simp only [spec_ruDepths.l1, List.length_cons, List.length_nil]
    rw [if_pos (by omega), if_pos (by omega), if_pos (by omega), show rd [a.root o, b.root (o + a.size)] 0 = a.root o from rfl, if_pos q1.1, if_pos (by omega), spec_l1Most_v, Option.bind_some, r1]
    rw [W0, if_pos (by omega), if_pos (by omega), if_pos (by omega), show rd [a.root o, b.root (o + a.size)] 1 = b.root (o + a.size) from rfl, if_pos q2.1, if_pos (by omega), spec_l1Most_v, Option.bind_some, r2]
    have d1 := T.depth_le a; have d2 := T.depth_le b
    rw [W1, if_neg (by omega), if_pos (by omega), w64_succ (by omega), w64 (by omega) (by omega)]
    congr 1
    · rw [← hy]; simp [T.deps, T.depth]
    · simp only [T.size]; omega
  | n4 kk a b c d ha hb hc hd =>
    intro o k x h hx
    have hle := h.le
    have hk := h.kids
    obtain ⟨h1, h2, h3, h4⟩ := h.n4
    have e := ha o (k + 6 + d.cost + c.cost + b.cost) x h1 hx
    have e2 := hb (o + a.size) (k + 6 + d.cost + c.cost) (x ++ a.deps) h2 (by simp [hx, T.deps_len])
    have e3 := hc (o + a.size + b.size) (k + 6 + d.cost) (x ++ a.deps ++ b.deps) h3 (by simp [hx, T.deps_len]; omega)
    have e4 := hd (o + a.size + b.size + c.size) (k + 6) (x ++ a.deps ++ b.deps ++ c.deps) h4 (by simp [hx, T.deps_len]; omega)
    simp only [T.size] at hle
    rw [show k + (T.n4 kk a b c d).cost = k + 6 + d.cost + c.cost + b.cost + a.cost by simp only [T.cost]; omega, e, e2, e3, e4]
    have ri : T.root (.n4 kk a b c d) o = ((o + a.size + b.size + c.size + d.size : Nat) : Int) := by simp only [T.root, T.size]; omega
    rw [ri] at hk
    have s1 := a.size_pos; have s2 := b.size_pos; have s3 := c.size_pos; have s4 := d.size_pos
    have q1 := root_in (t := a) (o := o) (n := o + a.size + b.size + c.size + d.size) (by omega)
    have q2 := root_in (t := b) (o := o + a.size) (n := o + a.size + b.size + c.size + d.size) (by omega)
    have q3 := root_in (t := c) (o := o + a.size + b.size) (n := o + a.size + b.size + c.size + d.size) (by omega)
    have q4 := root_in (t := d) (o := o + a.size + b.size + c.size) (n := o + a.size + b.size + c.size + d.size) (by omega)
    have r1 := T.rd_dep a x (b.deps ++ c.deps ++ d.deps) o hx
    have r2 := T.rd_dep b (x ++ a.deps) (c.deps ++ d.deps) (o + a.size) (by simp [hx, T.deps_len])
    have r3 := T.rd_dep c (x ++ a.deps ++ b.deps) d.deps (o + a.size + b.size) (by simp [hx, T.deps_len]; omega)
    have r4 := T.rd_dep d (x ++ a.deps ++ b.deps ++ c.deps) [] (o + a.size + b.size + c.size) (by simp [hx, T.deps_len]; omega)
    have lx : (x ++ a.deps ++ b.deps ++ c.deps ++ d.deps).length = o + a.size + b.size + c.size + d.size := by simp [hx, T.deps_len]; omega
    have hy : ∃ y, x ++ a.deps ++ b.deps ++ c.deps ++ d.deps = y := ⟨_, rfl⟩
    obtain ⟨y, hy⟩ := hy
    rw [show x ++ (a.deps ++ (b.deps ++ c.deps ++ d.deps)) = y by rw [← hy]; simp] at r1
    rw [show x ++ a.deps ++ (b.deps ++ (c.deps ++ d.deps)) = y by rw [← hy]; simp] at r2
    rw [show x ++ a.deps ++ b.deps ++ (c.deps ++ d.deps) = y by rw [← hy]; simp] at r3
    rw [show x ++ a.deps ++ b.deps ++ c.deps ++ (d.deps ++ []) = y by rw [← hy]; simp] at r4
    rw [hy] at lx ⊢
    have d1 := T.depth_le a; have d2 := T.depth_le b; have d3 := T.depth_le c; have d4 := T.depth_le d
    simp only [spec_ruDepths.l0]
    rw [if_pos (by omega), if_pos (by omega), if_pos (by omega), hk]
    simp only [T.kids]
    simp only [spec_ruDepths.l1, List.length_cons, List.length_nil]
    rw [if_pos (by omega), if_pos (by omega), if_pos (by omega), show rd [a.root o, b.root (o + a.size), c.root (o + a.size + b.size), d.root (o + a.size + b.size + c.size)] 0 = a.root o from rfl, if_pos q1.1, if_pos (by omega), spec_l1Most_v, Option.bind_some, r1]
    rw [W0, if_pos (by omega), if_pos (by omega), if_pos (by omega), show rd [a.root o, b.root (o + a.size), c.root (o + a.size + b.size), d.root (o + a.size + b.size + c.size)] 1 = b.root (o + a.size) from rfl, if_pos q2.1, if_pos (by omega), spec_l1Most_v, Option.bind_some, r2]
    rw [W1, if_pos (by omega), if_pos (by omega), if_pos (by omega), show rd [a.root o, b.root (o + a.size), c.root (o + a.size + b.size), d.root (o + a.size + b.size + c.size)] 2 = c.root (o + a.size + b.size) from rfl, if_pos q3.1, if_pos (by omega), spec_l1Most_v, Option.bind_some, r3]
    rw [W2, if_pos (by omega), if_pos (by omega), if_pos (by omega), show rd [a.root o, b.root (o + a.size), c.root (o + a.size + b.size), d.root (o + a.size + b.size + c.size)] 3 = d.root (o + a.size + b.size + c.size) from rfl, if_pos q4.1, if_pos (by omega), spec_l1Most_v, Option.bind_some, r4]
    rw [W3, if_neg (by omega), if_pos (by omega), w64_succ (by omega), w64 (by omega) (by omega)]
    congr 1
    · rw [← hy]; simp [T.deps, T.depth]
    · simp only [T.size]; omega
theorem spec_ruDepths_v {t : T} (hn : t.size ≤ 39) {k : Nat} (hk : 300 < k) : spec_ruDepths.f k (t.trees 0) = some t.deps := by
  unfold spec_ruDepths.f
  have := t.cost_le
  have e := spec_ruDepths_t (t.trees 0) (by rw [T.trees_len]; omega) t 0 (k - t.cost) [] (TA.self t) rfl
  rw [show k - t.cost + t.cost = k by omega] at e
  rw [show (0 : Int) = ((0 : Nat) : Int) from rfl, e]
  obtain ⟨j, hj⟩ : ∃ j, k - t.cost = j + 1 := ⟨k - t.cost - 1, by omega⟩
  rw [hj]
  simp only [spec_ruDepths.l0, T.trees_len]
  rw [if_neg (by omega)]; rfl
theorem deps_last {t : T} : rd t.deps ((t.size : Int) - 1) = t.depth := by
  have := T.rd_dep t [] [] 0 rfl
  simpa [T.root] using this
theorem spec_ruGood_v (l : List Pt) (hn : l.length ≤ 1048576) {k : Nat} (hk : 300 < k) : spec_ruGood.f k l = some (goodT l).isSome := by
  unfold spec_ruGood.f goodT
  rw [spec_l1In_v, Option.bind_some]
  by_cases h : 1 ≤ l.length ∧ l.length ≤ 39
  · rw [if_pos (by simp; omega), if_pos h, spec_ruTree_v l (by omega) (by omega), Option.bind_some]
    cases hr : run [] l with
    | none => rfl
    | some ts =>
      obtain ⟨e, o⟩ := run_enc l [] ts hr (fun t ht => by simp at ht)
      match ts with
      | [] => simp [encS] at e; subst e; simp at h
      | [t] =>
        simp only [encS, List.nil_append] at e
        have hz : t.size = l.length := by rw [← e, T.enc_len]
        have hp := t.size_pos
        have hT : treeR (some [t]) = (t.trees 0, true) := by simp [treeR, treS, lenS]
        rw [hT]
        simp only [if_true]
        rw [spec_ruDepths_v (by omega) hk, Option.bind_some, w64 (by omega) (by omega), if_pos (by omega), if_pos (by rw [T.deps_len]; omega), ← hz, deps_last]
        by_cases hd : t.depth ≤ 12
        · simp [hd]
        · simp [hd]
      | a :: b :: r => simp [treeR]
  · rw [if_neg (by simp; omega), if_neg h]; rfl
theorem impl_needsOf_v0 {a : Int} (h : a = 0 ∨ a = 1) {k : Nat} (hk : 2 ≤ k) : impl_needsOf.f k a = some 0 := by
  obtain ⟨k, rfl⟩ : ∃ m, k = m + 2 := ⟨k - 2, by omega⟩
  rcases h with rfl | rfl <;> simp [impl_needsOf.f, impl_needsOf.j0]
theorem impl_needsOf_v2 {a : Int} (h : 2 ≤ a) (h' : a ≤ 5) {k : Nat} (hk : 2 ≤ k) : impl_needsOf.f k a = some 2 := by
  obtain ⟨k, rfl⟩ : ∃ m, k = m + 2 := ⟨k - 2, by omega⟩
  have h1 : ¬ a = 0 := by omega
  have h2 : ¬ a = 1 := by omega
  simp [impl_needsOf.f, impl_needsOf.j0, impl_needsOf.j1, h, h', h1, h2]
theorem impl_needsOf_v4 {a : Int} (h : 6 ≤ a) (h' : a ≤ 8) {k : Nat} (hk : 2 ≤ k) : impl_needsOf.f k a = some 4 := by
  obtain ⟨k, rfl⟩ : ∃ m, k = m + 2 := ⟨k - 2, by omega⟩
  have h1 : ¬ a = 0 := by omega
  have h2 : ¬ a = 1 := by omega
  have h3 : ¬ a ≤ 5 := by omega
  have h4 : 2 ≤ a := by omega
  simp [impl_needsOf.f, impl_needsOf.j0, impl_needsOf.j1, h, h', h1, h2, h3, h4]
theorem impl_needsOf_vx {a : Int} (h : a < 0 ∨ 8 < a) {k : Nat} (hk : 2 ≤ k) : impl_needsOf.f k a = some (-1) := by
  obtain ⟨k, rfl⟩ : ∃ m, k = m + 2 := ⟨k - 2, by omega⟩
  have h1 : ¬ a = 0 := by omega
  have h2 : ¬ a = 1 := by omega
  unfold impl_needsOf.f
  rw [if_neg h1]
  simp only [impl_needsOf.j0, impl_needsOf.j1]
  rw [if_neg (by simp [h2])]
  by_cases h3 : a ≥ 2
  · rw [if_pos h3, if_neg (by simp; omega), if_pos (by omega), if_neg (by omega)]
  · rw [if_neg h3]; simp; omega
def depR (o : Option (List T)) : Int × Bool := match o with | none => (0, false) | some ts => (rd (depS ts) 0, ts.length == 1)
theorem stp_ex {l : List Pt} {i : Nat} (h : i < l.length) : l.drop i = rd_T53 l (i : Int) :: l.drop (i + 1) := by
  have hp : rd_T53 l (i : Int) = l.getD i z53 := by unfold rd_T53; rw [Int.toNat_natCast]
  rw [hp, List.drop_eq_getElem_cons (by omega), List.getD_eq_getElem?_getD, List.getElem?_eq_getElem (by omega)]; rfl
theorem mx_max (a b : Int) : mx a b = max a b := by unfold mx; split <;> omega
theorem depS_bd : ∀ ts : List T, ∀ x ∈ depS ts, x ≤ (lenS ts : Int)
  | [], x, h => by simp [depS] at h
  | t :: ts, x, h => by
    simp only [depS, List.mem_append, List.mem_singleton] at h
    simp only [lenS]
    rcases h with h | rfl
    · have := depS_bd ts x h; omega
    · have := t.depth_le; omega
theorem impl_ruleDepth_s0 (l : List Pt) (n : Int) (i k : Nat) (ts : List T) (v w : Int) (hl : lenS ts = i) (hi : i ≤ 39) :
    impl_ruleDepth.j2 (k + 7) (depS ts) 0 l n (i : Int) false = impl_ruleDepth.l0 (k + 5) (depS (.lf v w :: ts)) l n ((i + 1 : Nat) : Int) := by
  have hle := len_le_lenS ts
  simp only [impl_ruleDepth.j2, depS_len]
  rw [if_neg (by simp), w64 (by omega) (by omega), if_pos (by omega), if_pos (by omega), show ((ts.length : Int) - 0).toNat = ts.length by omega, List.drop_eq_nil_of_le (by rw [depS_len]; omega)]
  rw [Option.bind_some, impl_ruleDepth.l1, if_neg (by simp), depS_len, w64 (by omega) (by omega), if_pos (by omega), if_pos (by omega), show ((ts.length : Int) - 0).toNat = ts.length by omega, List.take_of_length_le (by rw [depS_len]; omega), Option.bind_some, depS_len, if_pos (by omega), w64_succ (by omega), W0]
  simp only [depS, T.depth]
theorem impl_ruleDepth_s2 (l : List Pt) (n : Int) (i k : Nat) (a b : T) (r : List T) (v : Int) (hl : lenS (b :: a :: r) = i) (hi : i ≤ 39) :
    impl_ruleDepth.j2 (k + 7) (depS (b :: a :: r)) 2 l n (i : Int) false = impl_ruleDepth.l0 (k + 3) (depS (.n2 v a b :: r)) l n ((i + 1 : Nat) : Int) := by
  simp only [lenS] at hl
  have s1 := a.size_pos; have s2 := b.size_pos; have sr := len_le_lenS r
  have d1 := a.depth_le; have d2 := b.depth_le
  have p1 := a.depth_pos; have p2 := b.depth_pos
  have e : depS (b :: a :: r) = depS r ++ [a.depth, b.depth] := by simp [depS]
  have e2 : depS (.n2 v a b :: r) = depS r ++ [max (max 0 a.depth) b.depth + 1] := by simp [depS, T.depth]
  have lr := depS_len r
  rw [e, e2]
  generalize depS r = q at *
  have hq : (q ++ [a.depth, b.depth]).length = q.length + 2 := by simp
  simp only [impl_ruleDepth.j2, hq]
  rw [if_neg (by simp), w64 (by omega) (by omega), if_pos (by omega), if_pos (by omega), show (((q.length + 2 : Nat) : Int) - 2).toNat = q.length by omega, List.drop_left, Option.bind_some]
  simp only [impl_ruleDepth.l1, List.length_cons, List.length_nil, hq]
  rw [if_pos (by omega), if_pos (by omega), if_pos (by omega), W0, if_pos (by omega), if_pos (by omega), if_pos (by omega), W1, if_neg (by omega)]
  rw [w64 (by omega) (by omega), if_pos (by omega), if_pos (by omega), show (((q.length + 2 : Nat) : Int) - 2).toNat = q.length by omega, List.take_left, Option.bind_some, if_pos (by omega), w64_succ (by omega)]
  rw [mx_max, mx_max, show rd [a.depth, b.depth] 0 = a.depth from rfl, show rd [a.depth, b.depth] 1 = b.depth from rfl, w64 (by omega) (by omega)]
theorem impl_ruleDepth_s4 (l : List Pt) (n : Int) (i k : Nat) (a b c d : T) (r : List T) (v : Int) (hl : lenS (d :: c :: b :: a :: r) = i) (hi : i ≤ 39) :
    impl_ruleDepth.j2 (k + 7) (depS (d :: c :: b :: a :: r)) 4 l n (i : Int) false = impl_ruleDepth.l0 (k + 1) (depS (.n4 v a b c d :: r)) l n ((i + 1 : Nat) : Int) := by
  simp only [lenS] at hl
  have s1 := a.size_pos; have s2 := b.size_pos; have s3 := c.size_pos; have s4 := d.size_pos; have sr := len_le_lenS r
  have d1 := a.depth_le; have d2 := b.depth_le; have d3 := c.depth_le; have d4 := d.depth_le
  have p1 := a.depth_pos; have p2 := b.depth_pos
  have e : depS (d :: c :: b :: a :: r) = depS r ++ [a.depth, b.depth, c.depth, d.depth] := by simp [depS]
  have e2 : depS (.n4 v a b c d :: r) = depS r ++ [max (max (max (max 0 a.depth) b.depth) c.depth) d.depth + 1] := by simp [depS, T.depth]
  have lr := depS_len r
  rw [e, e2]
  generalize depS r = q at *
  have hq : (q ++ [a.depth, b.depth, c.depth, d.depth]).length = q.length + 4 := by simp
  simp only [impl_ruleDepth.j2, hq]
  rw [if_neg (by simp), w64 (by omega) (by omega), if_pos (by omega), if_pos (by omega), show (((q.length + 4 : Nat) : Int) - 4).toNat = q.length by omega, List.drop_left, Option.bind_some]
  simp only [impl_ruleDepth.l1, List.length_cons, List.length_nil, hq]
  rw [if_pos (by omega), if_pos (by omega), if_pos (by omega), W0, if_pos (by omega), if_pos (by omega), if_pos (by omega), W1, if_pos (by omega), if_pos (by omega), if_pos (by omega), W2, if_pos (by omega), if_pos (by omega), if_pos (by omega), W3, if_neg (by omega)]
  rw [w64 (by omega) (by omega), if_pos (by omega), if_pos (by omega), show (((q.length + 4 : Nat) : Int) - 4).toNat = q.length by omega, List.take_left, Option.bind_some, if_pos (by omega), w64_succ (by omega)]
  rw [mx_max, mx_max, mx_max, mx_max, show rd [a.depth, b.depth, c.depth, d.depth] 0 = a.depth from rfl, show rd [a.depth, b.depth, c.depth, d.depth] 1 = b.depth from rfl, show rd [a.depth, b.depth, c.depth, d.depth] 2 = c.depth from rfl, show rd [a.depth, b.depth, c.depth, d.depth] 3 = d.depth from rfl, w64 (by omega) (by omega)]
theorem impl_ruleDepth_l (l : List Pt) (hn : l.length ≤ 39) (hn1 : 1 ≤ l.length) : ∀ (d i k : Nat) (ts : List T), i + d = l.length → lenS ts = i → 8 * d + 10 < k →
    impl_ruleDepth.l0 k (depS ts) l (l.length : Int) (i : Int) = some (depR (run ts (l.drop i))) := by
  intro d
  induction d with
  | zero =>
    intro i k ts hi hl hk
    obtain ⟨k, rfl⟩ := k_succ (by omega : 0 < k)
    simp only [impl_ruleDepth.l0]
    have : ts ≠ [] := by rintro rfl; simp [lenS] at hl; omega
    have := List.length_pos_iff.mpr this
    rw [if_neg (by omega), List.drop_eq_nil_of_le (by omega), depS_len, if_pos (by omega)]
    simp only [run, depR]
    congr 2
    rw [Bool.eq_iff_iff]; simp; omega
  | succ d ih =>
    intro i k ts hi hl hk
    obtain ⟨k, rfl⟩ : ∃ m, k = m + 8 := ⟨k - 8, by omega⟩
    have hle := len_le_lenS ts
    simp only [impl_ruleDepth.l0]
    rw [if_pos (by omega), if_pos (by omega), if_pos (by omega), stp_ex (by omega : i < l.length)]
    generalize rd_T53 l (i : Int) = p
    simp only [run, depS_len]
    rcases stp_cases ts p with ⟨h1, e⟩ | ⟨h1, h2, h3, a, b, r, rfl, e⟩ | ⟨h1, h2, h3, a, b, c, d', r, rfl, e⟩ | ⟨h1, h2, h3, h4, e⟩ | ⟨h1, h2, h3, h4, e⟩ | ⟨h1, h2, e⟩
    · rw [impl_needsOf_v0 (by omega) (by omega), Option.bind_some, e, Option.bind_some, if_neg (by omega), if_neg (by omega), if_neg (by omega), if_neg (by omega)]
      have key : impl_ruleDepth.j2 (k + 7) (depS ts) 0 l (l.length : Int) (i : Int) false = some (depR (run (.lf p.f0 p.f1 :: ts) (l.drop (i + 1)))) := by
        rw [impl_ruleDepth_s0 l _ i k ts p.f0 p.f1 hl (by omega)]
        exact ih (i + 1) (k + 5) (.lf p.f0 p.f1 :: ts) (by omega) (by simp only [lenS, T.size]; omega) (by omega)
      rcases h1 with h1 | h1
      · rw [if_pos h1.1, if_neg (by omega), if_neg (by omega)]; exact key
      · rw [if_neg (by omega), if_pos h1.1, decide_eq_false (by omega)]; exact key
    · rw [impl_needsOf_v2 h1 h2 (by omega), Option.bind_some, e, Option.bind_some]
      simp only [List.length_cons] at hle ⊢
      simp only [lenS] at hl
      have s1 := a.size_pos; have s2 := b.size_pos; have sr := len_le_lenS r
      have p1 := a.depth_pos; have p2 := b.depth_pos
      rw [if_neg (by omega), if_neg (by omega), if_neg (by omega), if_pos (by omega), if_pos h3, if_neg (by omega), if_neg (by omega)]
      rw [impl_ruleDepth_s2 l _ i k a b r p.f0 (by simp only [lenS]; omega) (by omega)]
      exact ih (i + 1) (k + 3) (.n2 p.f0 a b :: r) (by omega) (by simp only [lenS, T.size]; omega) (by omega)
    · rw [impl_needsOf_v4 h1 h2 (by omega), Option.bind_some, e, Option.bind_some]
      simp only [List.length_cons] at hle ⊢
      simp only [lenS] at hl
      have s1 := a.size_pos; have s2 := b.size_pos; have s3 := c.size_pos; have s4 := d'.size_pos; have sr := len_le_lenS r
      have p1 := a.depth_pos; have p2 := b.depth_pos
      rw [if_neg (by omega), if_neg (by omega), if_neg (by omega), if_pos (by omega), if_pos h3, if_neg (by omega), if_neg (by omega)]
      rw [impl_ruleDepth_s4 l _ i k a b c d' r p.f0 (by simp only [lenS]; omega) (by omega)]
      exact ih (i + 1) (k + 1) (.n4 p.f0 a b c d' :: r) (by omega) (by simp only [lenS, T.size]; omega) (by omega)
    · rw [impl_needsOf_v2 h1 h2 (by omega), Option.bind_some, e, Option.bind_none, if_neg (by omega), if_pos (by omega)]
      simp only [impl_ruleDepth.j2, if_true]; rfl
    · rw [impl_needsOf_v4 h1 h2 (by omega), Option.bind_some, e, Option.bind_none, if_neg (by omega), if_pos (by omega)]
      simp only [impl_ruleDepth.j2, if_true]; rfl
    · rw [e, Option.bind_none]
      have hT : ∀ n, impl_ruleDepth.j2 (k + 7) (depS ts) n l (l.length : Int) (i : Int) true = some (depR none) := fun n => by simp only [impl_ruleDepth.j2, if_true]; rfl
      by_cases hb : p.f0 < 0 ∨ 8 < p.f0
      · rw [impl_needsOf_vx hb (by omega), Option.bind_some, if_pos (by omega)]; exact hT _
      · by_cases hv : p.f1 < 0
        · by_cases h0 : p.f0 = 0 ∨ p.f0 = 1
          · rw [impl_needsOf_v0 h0 (by omega), Option.bind_some, if_neg (by omega), if_neg (by omega), if_pos hv]; exact hT _
          · by_cases h2' : p.f0 ≤ 5
            · rw [impl_needsOf_v2 (by omega) h2' (by omega), Option.bind_some, if_neg (by omega)]
              by_cases q : (2 : Int) > (ts.length : Int)
              · rw [if_pos q]; exact hT _
              · rw [if_neg q, if_pos hv]; exact hT _
            · rw [impl_needsOf_v4 (by omega) (by omega) (by omega), Option.bind_some, if_neg (by omega)]
              by_cases q : (4 : Int) > (ts.length : Int)
              · rw [if_pos q]; exact hT _
              · rw [if_neg q, if_pos hv]; exact hT _
        · by_cases h0 : p.f0 = 0
          · rw [impl_needsOf_v0 (.inl h0) (by omega), Option.bind_some, if_neg (by omega), if_neg (by omega), if_neg hv, if_neg (by omega), if_pos h0, if_pos (by omega)]; exact hT _
          · by_cases h1' : p.f0 = 1
            · rw [impl_needsOf_v0 (.inr h1') (by omega), Option.bind_some, if_neg (by omega), if_neg (by omega), if_neg hv, if_neg (by omega), if_neg h0, if_pos h1', decide_eq_true (by omega)]; exact hT _
            · by_cases h2' : p.f0 ≤ 5
              · rw [impl_needsOf_v2 (by omega) h2' (by omega), Option.bind_some, if_neg (by omega)]
                by_cases q : (2 : Int) > (ts.length : Int)
                · rw [if_pos q]; exact hT _
                · rw [if_neg q, if_neg hv, if_pos (by omega), if_neg (by omega)]; exact hT _
              · rw [impl_needsOf_v4 (by omega) (by omega) (by omega), Option.bind_some, if_neg (by omega)]
                by_cases q : (4 : Int) > (ts.length : Int)
                · rw [if_pos q]; exact hT _
                · rw [if_neg q, if_neg hv, if_pos (by omega), if_neg (by omega)]; exact hT _
theorem impl_ruleDepth_v (l : List Pt) (hn : 1 ≤ l.length ∧ l.length ≤ 39) {k : Nat} (hk : 400 < k) : impl_ruleDepth.f k l = some (depR (run [] l)) := by
  obtain ⟨k, rfl⟩ := k_succ (by omega : 0 < k)
  unfold impl_ruleDepth.f
  rw [if_neg (by omega), decide_eq_false (by omega)]
  simp only [impl_ruleDepth.j0]
  rw [if_neg (by simp)]
  simpa [depS] using impl_ruleDepth_l l hn.2 hn.1 l.length 0 k [] (by omega) rfl (by omega)
theorem impl_isRule_v (l : List Pt) (hn : l.length ≤ 9223372036854775807) {k : Nat} (hk : 400 < k) : impl_isRule.f k l = some (goodT l).isSome := by
  unfold impl_isRule.f goodT
  by_cases h : 1 ≤ l.length ∧ l.length ≤ 39
  · rw [impl_ruleDepth_v l h hk, Option.bind_some, if_pos h]
    cases hr : run [] l with
    | none => rfl
    | some ts =>
      match ts with
      | [] => obtain ⟨e, o⟩ := run_enc l [] [] hr (fun t ht => by simp at ht); simp [encS] at e; subst e; simp at h
      | [t] =>
        have hD : depR (some [t]) = (t.depth, true) := rfl
        rw [hD]
        simp only [if_true]
        by_cases hd : t.depth ≤ 12 <;> simp [hd]
      | a :: b :: r => simp [depR]
  · obtain ⟨k, rfl⟩ := k_succ (by omega : 0 < k)
    rw [if_neg h]
    unfold impl_ruleDepth.f
    by_cases h1 : (l.length : Int) < 1
    · rw [if_pos h1]; simp [impl_ruleDepth.j0]
    · rw [if_neg h1, decide_eq_true (by omega)]; simp [impl_ruleDepth.j0]
theorem T.needs_v {t : T} (h : t.ok) {k : Nat} (hk : 2 ≤ k) : impl_needsOf.f k t.top.f0 = some (match t with | .lf _ _ => 0 | .n2 _ _ _ => 2 | .n4 _ _ _ _ _ => 4) := by
  cases t with
  | lf a v => simp only [T.ok] at h; exact impl_needsOf_v0 (by simp only [T.top]; omega) hk
  | n2 a _ _ => obtain ⟨h1, h2, _⟩ := h; exact impl_needsOf_v2 h1 h2 hk
  | n4 a _ _ _ _ => obtain ⟨h1, h2, _⟩ := h; exact impl_needsOf_v4 h1 h2 hk
theorem impl_partSize_v {L : List Pt} (hn : L.length ≤ 1048576) : ∀ (t : T), t.ok → ∀ (o k : Nat), At L o t → 12 * t.size < k → impl_partSize.f k L (t.root o) = some (t.size : Int) := by
  intro t
  induction t with
  | lf a v =>
    intro ho o k h hk
    have hr := root_in h.le
    simp only [T.size] at hk
    have hnd := T.needs_v ho (k := k - 1) (by omega)
    obtain ⟨k, rfl⟩ : ∃ m, k = m + 8 := ⟨k - 8, by omega⟩
    simp only [impl_partSize.f]
    rw [show k + 8 - 1 = k + 7 by omega] at hnd
    rw [if_pos hr.1, if_pos hr.2, h.top, hnd, Option.bind_some]
    simp only [impl_partSize.l0]
    rw [if_neg (by omega)]; rfl
  | n2 a x y hx hy =>
    intro ho o k h hk
    have hr := root_in h.le
    have htop := h.top
    have hle := h.le
    have ho' := ho
    obtain ⟨_, _, ox, oy⟩ := ho
    obtain ⟨h1, h2⟩ := h.n2
    simp only [T.size] at hk hle
    have hnd := T.needs_v ho' (k := k - 1) (by omega)
    have sx := x.size_pos; have sy := y.size_pos
    obtain ⟨k, rfl⟩ : ∃ m, k = m + 8 := ⟨k - 8, by omega⟩
    rw [show k + 8 - 1 = k + 7 by omega] at hnd
    have ey : T.root (.n2 a x y) o - 1 = y.root (o + x.size) := by simp only [T.root, T.size]; omega
    have ex : T.root (.n2 a x y) o - (1 + (y.size : Int)) = x.root o := by simp only [T.root, T.size]; omega
    have b1 : T.root (.n2 a x y) o ≤ 1048576 := by omega
    simp only [impl_partSize.f]
    rw [if_pos hr.1, if_pos hr.2, htop, hnd, Option.bind_some]
    simp only [impl_partSize.l0]
    rw [if_pos (by omega), w64 (by omega) (by omega) (x := T.root (.n2 a x y) o - 1), ey, hy oy _ (k + 6) h2 (by omega), Option.bind_some, w64 (by omega) (by omega) (x := 1 + (y.size : Int)), show wrap64 (2 - 1) = 1 from w64 (by decide) (by decide), if_pos (by omega), w64 (by omega) (by omega) (x := T.root (.n2 a x y) o - (1 + (y.size : Int))), ex, hx ox _ (k + 5) h1 (by omega), Option.bind_some, show wrap64 (1 - 1) = 0 from w64 (by decide) (by decide), if_neg (by omega), w64 (by omega) (by omega)]
    simp only [T.size]; congr 1; omega
  | n4 a x y z u hx hy hz hu =>
    intro ho o k h hk
    have hr := root_in h.le
    have htop := h.top
    have hle := h.le
    have ho' := ho
    obtain ⟨_, _, ox, oy, oz, ou⟩ := ho
    obtain ⟨h1, h2, h3, h4⟩ := h.n4
    simp only [T.size] at hk hle
    have hnd := T.needs_v ho' (k := k - 1) (by omega)
    have sx := x.size_pos; have sy := y.size_pos; have sz := z.size_pos; have su := u.size_pos
    obtain ⟨k, rfl⟩ : ∃ m, k = m + 8 := ⟨k - 8, by omega⟩
    rw [show k + 8 - 1 = k + 7 by omega] at hnd
    have eu : T.root (.n4 a x y z u) o - 1 = u.root (o + x.size + y.size + z.size) := by simp only [T.root, T.size]; omega
    have ez : T.root (.n4 a x y z u) o - (1 + (u.size : Int)) = z.root (o + x.size + y.size) := by simp only [T.root, T.size]; omega
    have ey : T.root (.n4 a x y z u) o - (1 + (u.size : Int) + (z.size : Int)) = y.root (o + x.size) := by simp only [T.root, T.size]; omega
    have ex : T.root (.n4 a x y z u) o - (1 + (u.size : Int) + (z.size : Int) + (y.size : Int)) = x.root o := by simp only [T.root, T.size]; omega
    have b1 : T.root (.n4 a x y z u) o ≤ 1048576 := by omega
    simp only [impl_partSize.f]
    rw [if_pos hr.1, if_pos hr.2, htop, hnd, Option.bind_some]
    simp only [impl_partSize.l0]
    rw [if_pos (by omega), w64 (by omega) (by omega) (x := T.root (.n4 a x y z u) o - 1), eu, hu ou _ (k + 6) h4 (by omega), Option.bind_some, w64 (by omega) (by omega) (x := 1 + (u.size : Int)), show wrap64 (4 - 1) = 3 from w64 (by decide) (by decide)]
    rw [if_pos (by omega), w64 (by omega) (by omega) (x := T.root (.n4 a x y z u) o - (1 + (u.size : Int))), ez, hz oz _ (k + 5) h3 (by omega), Option.bind_some, w64 (by omega) (by omega) (x := 1 + (u.size : Int) + (z.size : Int)), show wrap64 (3 - 1) = 2 from w64 (by decide) (by decide)]
    rw [if_pos (by omega), w64 (by omega) (by omega) (x := T.root (.n4 a x y z u) o - (1 + (u.size : Int) + (z.size : Int))), ey, hy oy _ (k + 4) h2 (by omega), Option.bind_some, w64 (by omega) (by omega) (x := 1 + (u.size : Int) + (z.size : Int) + (y.size : Int)), show wrap64 (2 - 1) = 1 from w64 (by decide) (by decide)]
    rw [if_pos (by omega), w64 (by omega) (by omega) (x := T.root (.n4 a x y z u) o - (1 + (u.size : Int) + (z.size : Int) + (y.size : Int))), ex, hx ox _ (k + 3) h1 (by omega), Option.bind_some, show wrap64 (1 - 1) = 0 from w64 (by decide) (by decide)]
    rw [if_neg (by omega), w64 (by omega) (by omega)]
    simp only [T.size]; congr 1; omega
theorem spec_ruSize_v {R : List (List Int)} (hn : R.length ≤ 1048576) : ∀ (t : T) (o k : Nat), TA R o t → 12 * t.size < k → spec_ruSize.f k R (t.root o) = some (t.size : Int) := by
  intro t
  induction t with
  | lf a v =>
    intro o k h hk
    have hr := root_in h.le
    simp only [T.size] at hk
    obtain ⟨k, rfl⟩ : ∃ m, k = m + 8 := ⟨k - 8, by omega⟩
    simp only [spec_ruSize.f]
    rw [if_pos hr.1, if_pos hr.2, h.kids]
    simp only [T.kids, List.length_nil]
    simp only [spec_ruSize.l0]
    rw [if_neg (by omega)]; rfl
  | n2 a x y hx hy =>
    intro o k h hk
    have hr := root_in h.le
    have hle := h.le
    obtain ⟨h1, h2⟩ := h.n2
    simp only [T.size] at hk hle
    have sx := x.size_pos; have sy := y.size_pos
    obtain ⟨k, rfl⟩ : ∃ m, k = m + 8 := ⟨k - 8, by omega⟩
    simp only [spec_ruSize.f]
    rw [if_pos hr.1, if_pos hr.2, h.kids]
    simp only [T.kids, List.length_cons, List.length_nil]
    simp only [spec_ruSize.l0, List.length_cons, List.length_nil]
    (repeat rw [if_pos (by omega)]); rw [show rd [x.root o, y.root (o + x.size)] 0 = x.root o from rfl, hx _ _ h1 (by omega), Option.bind_some, W0, w64 (by omega) (by omega) (x := 1 + (x.size : Int))]
    (repeat rw [if_pos (by omega)]); rw [show rd [x.root o, y.root (o + x.size)] 1 = y.root (o + x.size) from rfl, hy _ _ h2 (by omega), Option.bind_some, W1, w64 (by omega) (by omega) (x := 1 + (x.size : Int) + (y.size : Int))]
    rw [if_neg (by omega)]
    simp only [T.size]; congr 1; omega
  | n4 a x y z u hx hy hz hu =>
    intro o k h hk
    have hr := root_in h.le
    have hle := h.le
    obtain ⟨h1, h2, h3, h4⟩ := h.n4
    simp only [T.size] at hk hle
    have sx := x.size_pos; have sy := y.size_pos; have sz := z.size_pos; have su := u.size_pos
    obtain ⟨k, rfl⟩ : ∃ m, k = m + 8 := ⟨k - 8, by omega⟩
    simp only [spec_ruSize.f]
    rw [if_pos hr.1, if_pos hr.2, h.kids]
    simp only [T.kids, List.length_cons, List.length_nil]
    simp only [spec_ruSize.l0, List.length_cons, List.length_nil]
    (repeat rw [if_pos (by omega)]); rw [show rd [x.root o, y.root (o + x.size), z.root (o + x.size + y.size), u.root (o + x.size + y.size + z.size)] 0 = x.root o from rfl, hx _ _ h1 (by omega), Option.bind_some, W0, w64 (by omega) (by omega) (x := 1 + (x.size : Int))]
    (repeat rw [if_pos (by omega)]); rw [show rd [x.root o, y.root (o + x.size), z.root (o + x.size + y.size), u.root (o + x.size + y.size + z.size)] 1 = y.root (o + x.size) from rfl, hy _ _ h2 (by omega), Option.bind_some, W1, w64 (by omega) (by omega) (x := 1 + (x.size : Int) + (y.size : Int))]
    (repeat rw [if_pos (by omega)]); rw [show rd [x.root o, y.root (o + x.size), z.root (o + x.size + y.size), u.root (o + x.size + y.size + z.size)] 2 = z.root (o + x.size + y.size) from rfl, hz _ _ h3 (by omega), Option.bind_some, W2, w64 (by omega) (by omega) (x := 1 + (x.size : Int) + (y.size : Int) + (z.size : Int))]
    (repeat rw [if_pos (by omega)]); rw [show rd [x.root o, y.root (o + x.size), z.root (o + x.size + y.size), u.root (o + x.size + y.size + z.size)] 3 = u.root (o + x.size + y.size + z.size) from rfl, hu _ _ h4 (by omega), Option.bind_some, W3, w64 (by omega) (by omega) (x := 1 + (x.size : Int) + (y.size : Int) + (z.size : Int) + (u.size : Int))]
    rw [if_neg (by omega)]
    simp only [T.size]; congr 1; omega
theorem set0_2 (a b : Int) : ([a, b] : List Int).set ((1 : Int)).toNat b = [a, b] := rfl
theorem impl_partNeeds_v {L : List Pt} (hn : L.length ≤ 1048576) (t : T) (ho : t.ok) (o k : Nat) (h : At L o t) (hk : 12 * t.size + 8 < k) : impl_partNeeds.f k L (t.root o) = some (t.kids o) := by
  have hr := root_in h.le
  have hle := h.le
  have hnd := T.needs_v ho (k := k) (by omega)
  obtain ⟨k, rfl⟩ : ∃ m, k = m + 8 := ⟨k - 8, by omega⟩
  unfold impl_partNeeds.f
  rw [if_pos hr.1, if_pos hr.2, h.top, hnd, Option.bind_some]
  cases t with
  | lf a v =>
    dsimp only
    rw [if_pos (by omega), if_pos (by decide), Option.bind_some]
    show impl_partNeeds.l0 (k + 8) L [] _ (wrap64 (((([] : List Int).length : Nat) : Int) - 1)) = _
    simp only [List.length_nil]
    rw [w64 (by omega) (by omega) (x := ((0 : Nat) : Int) - 1)]
    simp only [impl_partNeeds.l0]
    rw [if_neg (by omega)]; rfl
  | n2 a x y =>
    dsimp only
    obtain ⟨_, _, ox, oy⟩ := ho
    obtain ⟨h1, h2⟩ := h.n2
    simp only [T.size] at hk hle
    have sx := x.size_pos; have sy := y.size_pos
    have ey : T.root (.n2 a x y) o - 1 = y.root (o + x.size) := by simp only [T.root, T.size]; omega
    have ex : y.root (o + x.size) - (y.size : Int) = x.root o := by simp only [T.root]; omega
    have ry := root_in h2.le
    have rx := root_in h1.le
    rw [if_pos (by omega), if_pos (by decide), Option.bind_some]
    show impl_partNeeds.l0 (k + 8) L [0, 0] _ (wrap64 (((([0, 0] : List Int).length : Nat) : Int) - 1)) = _
    rw [show wrap64 (((([0, 0] : List Int).length : Nat) : Int) - 1) = 1 from w64 (by decide) (by decide), w64 (by omega) (by omega) (x := T.root (.n2 a x y) o - 1), ey]
    simp only [impl_partNeeds.l0]
    rw [if_pos (by omega), if_pos (by omega), if_pos (by simp), impl_partSize_v hn y oy _ _ h2 (by omega), Option.bind_some, w64 (by omega) (by omega) (x := y.root (o + x.size) - (y.size : Int)), ex, show wrap64 (1 - 1) = 0 from w64 (by decide) (by decide)]
    rw [if_pos (by omega), if_pos (by omega), if_pos (by simp), impl_partSize_v hn x ox _ _ h1 (by omega), Option.bind_some, show wrap64 (0 - 1) = -1 from w64 (by decide) (by decide)]
    rw [if_neg (by omega)]
    rfl
  | n4 a x y z u =>
    dsimp only
    obtain ⟨_, _, ox, oy, oz, ou⟩ := ho
    obtain ⟨h1, h2, h3, h4⟩ := h.n4
    simp only [T.size] at hk hle
    have sx := x.size_pos; have sy := y.size_pos; have sz := z.size_pos; have su := u.size_pos
    have eu : T.root (.n4 a x y z u) o - 1 = u.root (o + x.size + y.size + z.size) := by simp only [T.root, T.size]; omega
    have ez : u.root (o + x.size + y.size + z.size) - (u.size : Int) = z.root (o + x.size + y.size) := by simp only [T.root]; omega
    have ey : z.root (o + x.size + y.size) - (z.size : Int) = y.root (o + x.size) := by simp only [T.root]; omega
    have ex : y.root (o + x.size) - (y.size : Int) = x.root o := by simp only [T.root]; omega
    have ru := root_in h4.le
    have rz := root_in h3.le
    have ry := root_in h2.le
    have rx := root_in h1.le
    rw [if_pos (by omega), if_pos (by decide), Option.bind_some]
    show impl_partNeeds.l0 (k + 8) L [0, 0, 0, 0] _ (wrap64 (((([0, 0, 0, 0] : List Int).length : Nat) : Int) - 1)) = _
    rw [show wrap64 (((([0, 0, 0, 0] : List Int).length : Nat) : Int) - 1) = 3 from w64 (by decide) (by decide), w64 (by omega) (by omega) (x := T.root (.n4 a x y z u) o - 1), eu]
    simp only [impl_partNeeds.l0]
    rw [if_pos (by omega), if_pos (by omega), if_pos (by simp), impl_partSize_v hn u ou _ _ h4 (by omega), Option.bind_some, w64 (by omega) (by omega) (x := u.root (o + x.size + y.size + z.size) - (u.size : Int)), ez, show wrap64 (3 - 1) = 2 from w64 (by decide) (by decide)]
    rw [if_pos (by omega), if_pos (by omega), if_pos (by simp), impl_partSize_v hn z oz _ _ h3 (by omega), Option.bind_some, w64 (by omega) (by omega) (x := z.root (o + x.size + y.size) - (z.size : Int)), ey, show wrap64 (2 - 1) = 1 from w64 (by decide) (by decide)]
    rw [if_pos (by omega), if_pos (by omega), if_pos (by simp), impl_partSize_v hn y oy _ _ h2 (by omega), Option.bind_some, w64 (by omega) (by omega) (x := y.root (o + x.size) - (y.size : Int)), ex, show wrap64 (1 - 1) = 0 from w64 (by decide) (by decide)]
    rw [if_pos (by omega), if_pos (by omega), if_pos (by simp), impl_partSize_v hn x ox _ _ h1 (by omega), Option.bind_some, show wrap64 (0 - 1) = -1 from w64 (by decide) (by decide)]
    rw [if_neg (by omega)]
    rfl
def lim (z : Int) : Option Int := if -1000000000 ≤ z ∧ z ≤ 1000000000 then some z else none
def fdv (x y : Int) : Int := if Int.tmod x y = 0 then Int.tdiv x y else if (decide (x < 0) != decide (y < 0)) = true then Int.tdiv x y - 1 else Int.tdiv x y
def opv (k x y : Int) : Option Int := if k = 2 then lim (x + y) else if k = 3 then lim (x - y) else if k = 4 then lim (x * y) else if y = 0 then none else lim (fdv x y)
def cnd (k x y : Int) : Bool := decide ((k = 6 ∧ x < y) ∨ (k = 7 ∧ x = y) ∨ (k = 8 ∧ x > y))
def ev (v : List Int) : T → Option Int
  | .lf k x => if k = 0 then some x else some (rd v x)
  | .n2 k a b => match ev v a, ev v b with | some x, some y => opv k x y | _, _ => none
  | .n4 k a b c d => match ev v a, ev v b with | some x, some y => if cnd k x y = true then ev v c else ev v d | _, _ => none
structure Vals (v : List Int) : Prop where
  len : v.length = 5
  bd : ∀ i : Int, 0 ≤ i → i < 5 → 0 ≤ rd v i ∧ rd v i ≤ 10000000
theorem lim_bd {z w : Int} (h : lim z = some w) : w = z ∧ -1000000000 ≤ w ∧ w ≤ 1000000000 := by
  unfold lim at h
  split at h
  · cases h; omega
  · cases h
theorem opv_bd {k x y w : Int} (h : opv k x y = some w) : -1000000000 ≤ w ∧ w ≤ 1000000000 := by
  unfold opv at h
  split at h
  · exact (lim_bd h).2
  · split at h
    · exact (lim_bd h).2
    · split at h
      · exact (lim_bd h).2
      · split at h
        · cases h
        · exact (lim_bd h).2
theorem ev_bd {v : List Int} (hv : Vals v) : ∀ (t : T), t.ok → ∀ w, ev v t = some w → -1000000000 ≤ w ∧ w ≤ 1000000000 := by
  intro t
  induction t with
  | lf k x =>
    intro ho w h
    simp only [T.ok] at ho
    simp only [ev] at h
    split at h
    · cases h; omega
    · cases h
      have := hv.bd x (by omega) (by omega)
      omega
  | n2 k a b ha hb =>
    intro ho w h
    simp only [ev] at h
    split at h
    · exact opv_bd h
    · cases h
  | n4 k a b c d ha hb hc hd =>
    intro ho w h
    obtain ⟨_, _, oa, ob, oc, od⟩ := ho
    simp only [ev] at h
    split at h
    · split at h
      · exact hc oc w h
      · exact hd od w h
    · cases h
theorem tdiv_bd {x y : Int} (hx : -1000000000 ≤ x ∧ x ≤ 1000000000) : -1000000000 ≤ Int.tdiv x y ∧ Int.tdiv x y ≤ 1000000000 := by
  have h1 : (Int.tdiv x y).natAbs ≤ x.natAbs := by rw [Int.natAbs_tdiv]; exact Nat.div_le_self _ _
  omega
theorem fdv_bd {x y : Int} (hx : -1000000000 ≤ x ∧ x ≤ 1000000000) : -1000000001 ≤ fdv x y ∧ fdv x y ≤ 1000000000 := by
  have := tdiv_bd (y := y) hx
  unfold fdv
  split
  · omega
  · split <;> omega
theorem impl_abs_w {a : Int} (h : -9000000000000000000 ≤ a ∧ a ≤ 9000000000000000000) : impl_abs.f a = some (max a (-a)) := by
  unfold impl_abs.f
  rw [w64 (by omega) (by omega), mx_max]
theorem spec_l1Abs_w {a : Int} (h : -9000000000000000000 ≤ a ∧ a ≤ 9000000000000000000) : spec_l1Abs.f a = some (max a (-a)) := by
  unfold spec_l1Abs.f
  rw [w64 (by omega) (by omega), spec_l1Most_v, Option.bind_some]
theorem spec_ruDown_v {x y : Int} (hx : -1000000000 ≤ x ∧ x ≤ 1000000000) (hy : y ≠ 0) : spec_ruDown.f x y = some (fdv x y) := by
  have := tdiv_bd (y := y) hx
  unfold spec_ruDown.f fdv
  rw [if_neg hy, w64 (by omega) (by omega) (x := Int.tdiv x y), w64 (by omega) (by omega)]
  split
  · rfl
  · split <;> rfl
theorem impl_floorDiv_v {x y : Int} (hx : -1000000000 ≤ x ∧ x ≤ 1000000000) (hy : 0 < y) : impl_floorDiv.f x y = some (fdv x y) := by
  have := tdiv_bd (y := y) hx
  unfold impl_floorDiv.f fdv
  rw [if_neg (by omega), w64 (by omega) (by omega) (x := Int.tdiv x y), w64 (by omega) (by omega)]
  have hs : decide (y < 0) = false := by rw [decide_eq_false_iff_not]; omega
  rw [hs]
  by_cases h0 : Int.tmod x y = 0
  · rw [if_pos h0, if_neg (by omega)]
  · rw [if_neg h0]
    by_cases hx0 : x < 0
    · have : Int.tmod x y ≤ 0 := by
        have := Int.tmod_nonneg y (show 0 ≤ -x by omega)
        rw [Int.neg_tmod] at this; omega
      rw [if_pos (by omega), if_pos (by simp [hx0])]
    · have := Int.tmod_nonneg y (show 0 ≤ x by omega)
      rw [if_neg (by omega), if_neg (by simp [hx0])]
theorem fdv_neg {x y : Int} (hy : y < 0) : fdv (-x) (-y) = fdv x y := by
  unfold fdv
  rw [Int.neg_tmod, Int.tmod_neg, Int.neg_tdiv, Int.tdiv_neg, Int.neg_neg]
  by_cases h0 : Int.tmod x y = 0
  · rw [if_pos (by omega), if_pos h0]
  · rw [if_neg (by omega), if_neg h0]
    have e : (decide (-x < 0) != decide (-y < 0)) = (decide (x < 0) != decide (y < 0)) := by
      have hx : x ≠ 0 := by rintro rfl; simp at h0
      by_cases c : x < 0
      · rw [decide_eq_false (by omega : ¬ -x < 0), decide_eq_false (by omega : ¬ -y < 0), decide_eq_true c, decide_eq_true hy]; rfl
      · rw [decide_eq_true (by omega : -x < 0), decide_eq_false (by omega : ¬ -y < 0), decide_eq_false c, decide_eq_true hy]; rfl
    rw [e]
def evR (o : Option Int) : Int × Bool := match o with | some x => (x, true) | none => (0, false)
theorem abs_lim {z : Int} : lim z = if max z (-z) > 1000000000 then none else some z := by
  unfold lim
  by_cases h : -1000000000 ≤ z ∧ z ≤ 1000000000
  · rw [if_pos h, if_neg (by omega)]
  · rw [if_neg h, if_pos (by omega)]
theorem evR_if {c : Prop} [Decidable c] {z : Int} : (if c then some ((0 : Int), false) else some (z, true)) = some (evR (if c then none else some z)) := by split <;> rfl
theorem impl_op_v {k : Nat} (L v nd : List Int) (l : List Pt) (x y kd vv : Int) (hx : -1000000000 ≤ x ∧ x ≤ 1000000000) (hy : -1000000000 ≤ y ∧ y ≤ 1000000000) (h2 : 2 ≤ kd) (h5 : kd ≤ 5) (hk : 3 < k) :
    impl_evalPart.j0 k l v nd x y false kd vv = some (evR (opv kd x y)) := by
  obtain ⟨k, rfl⟩ : ∃ m, k = m + 3 := ⟨k - 3, by omega⟩
  simp only [impl_evalPart.j0]
  rw [if_neg (by simp)]
  unfold opv
  by_cases c2 : kd = 2
  · rw [if_pos c2, if_pos c2, w64 (by omega) (by omega), impl_abs_w (by omega), Option.bind_some, abs_lim]
    exact evR_if
  · rw [if_neg c2, if_neg c2]
    by_cases c3 : kd = 3
    · rw [if_pos c3, if_pos c3, w64 (by omega) (by omega), impl_abs_w (by omega), Option.bind_some, abs_lim]
      exact evR_if
    · rw [if_neg c3, if_neg c3]
      by_cases c4 : kd = 4
      · have hm : -1000000000000000000 ≤ x * y ∧ x * y ≤ 1000000000000000000 := by
          have h1 : (x * y).natAbs ≤ 1000000000 * 1000000000 := by rw [Int.natAbs_mul]; exact Nat.mul_le_mul (by omega) (by omega)
          omega
        rw [if_pos c4, if_pos c4, w64 (by omega) (by omega), impl_abs_w (by omega), Option.bind_some, abs_lim]
        exact evR_if
      · rw [if_neg c4, if_neg c4, if_pos (by omega)]
        by_cases c0 : y = 0
        · rw [if_pos c0, if_pos c0]; rfl
        · rw [if_neg c0, if_neg c0]
          have hb := fdv_bd (y := y) hx
          by_cases cn : y < 0
          · rw [if_pos cn, w64 (by omega) (by omega), w64 (by omega) (by omega)]
            simp only [impl_evalPart.j1]
            rw [impl_floorDiv_v (by omega) (by omega), Option.bind_some, fdv_neg cn, impl_abs_w (by omega), Option.bind_some, abs_lim]
            exact evR_if
          · rw [if_neg cn]
            simp only [impl_evalPart.j1]
            rw [impl_floorDiv_v (by omega) (by omega), Option.bind_some, impl_abs_w (by omega), Option.bind_some, abs_lim]
            exact evR_if
theorem impl_cnd_v {k : Nat} (v nd : List Int) (l : List Pt) (x y kd vv : Int) (h6 : 6 ≤ kd) (h8 : kd ≤ 8) :
    impl_evalPart.j0 (k + 1) l v nd x y false kd vv = impl_evalPart.j2 k l v nd (cnd kd x y) := by
  simp only [impl_evalPart.j0]
  rw [if_neg (by simp), if_neg (by omega), if_neg (by omega), if_neg (by omega), if_neg (by omega)]
  unfold cnd
  by_cases c6 : kd = 6
  · rw [if_pos c6]
    by_cases q : x < y
    · rw [if_pos q, decide_eq_true (by omega)]
    · rw [if_neg q, if_neg (by omega), if_neg (by omega), decide_eq_false (by omega)]
  · rw [if_neg c6]
    by_cases c7 : kd = 7
    · rw [if_pos c7]
      by_cases q : x = y
      · rw [if_pos q, decide_eq_true (by omega)]
      · rw [if_neg q, if_neg (by omega), decide_eq_false (by omega)]
    · rw [if_neg c7, if_pos (by omega)]
      congr 1
      rw [decide_eq_decide]; omega
theorem impl_bad_v {k : Nat} (v nd : List Int) (l : List Pt) (x y kd vv : Int) : impl_evalPart.j0 (k + 1) l v nd x y true kd vv = some (0, false) := by
  simp only [impl_evalPart.j0, if_true]
theorem impl_evalPart_v {L : List Pt} {v : List Int} (hv : Vals v) (hn : L.length ≤ 1048576) : ∀ (t : T), t.ok → ∀ (o k : Nat), At L o t → 20 * t.size < k → impl_evalPart.f k L (t.root o) v = some (evR (ev v t)) := by
  intro t
  induction t with
  | lf a x =>
    intro ho o k h hk
    have hr := root_in h.le
    have hl := hv.len
    obtain ⟨k, rfl⟩ : ∃ m, k = m + 8 := ⟨k - 8, by simp only [T.size] at hk; omega⟩
    have hf0 : (rd_T53 L ((T.lf a x).root o)).f0 = a := by rw [h.top]; rfl
    have hf1 : (rd_T53 L ((T.lf a x).root o)).f1 = x := by rw [h.top]; rfl
    rw [impl_evalPart.f, if_pos hr.1, if_pos hr.2, hf0, hf1]
    simp only [T.ok] at ho
    simp only [ev]
    by_cases c : a = 0
    · rw [if_pos c, if_pos c]; rfl
    · rw [if_neg c, if_neg c, if_pos (by omega), if_pos (by omega), if_pos (by omega)]; rfl
  | n2 a x y hx hy =>
    intro ho o k h hk
    have hr := root_in h.le
    have hnd : ∀ k', 12 * (T.n2 a x y).size + 8 < k' → impl_partNeeds.f k' L (T.root (.n2 a x y) o) = some ((T.n2 a x y).kids o) := fun k' hk' => impl_partNeeds_v hn _ ho o k' h hk'
    have htop := h.top
    have oo := ho
    obtain ⟨a2, a5, ox, oy⟩ := ho
    obtain ⟨h1, h2⟩ := h.n2
    have sx := x.size_pos; have sy := y.size_pos
    simp only [T.size] at hk hnd
    obtain ⟨k, rfl⟩ : ∃ m, k = m + 8 := ⟨k - 8, by omega⟩
    have hf0 : (rd_T53 L ((T.n2 a x y).root o)).f0 = a := by rw [htop]; rfl
    have hf1 : (rd_T53 L ((T.n2 a x y).root o)).f1 = 0 := by rw [htop]; rfl
    have hl : ((T.n2 a x y).kids o).length = 2 := rfl
    rw [impl_evalPart.f, if_pos hr.1, if_pos hr.2, hf0, hf1, if_neg (by omega), if_neg (by omega), hnd _ (by omega), Option.bind_some]
    rw [if_pos (by omega), show rd ((T.n2 a x y).kids o) 0 = x.root o from rfl, hx ox _ _ h1 (by omega), Option.bind_some, if_pos (by omega), show rd ((T.n2 a x y).kids o) 1 = y.root (o + x.size) from rfl, hy oy _ _ h2 (by omega), Option.bind_some]
    simp only [ev]
    cases e1 : ev v x with
    | none =>
      rw [if_neg (by simp [evR]), impl_bad_v]; rfl
    | some p =>
      have b1 := ev_bd hv x ox p e1
      cases e2 : ev v y with
      | none => simp only [evR, Bool.not_false, if_true]; rw [impl_bad_v]
      | some q =>
        have b2 := ev_bd hv y oy q e2
        simp only [evR, Bool.not_true, if_true]
        rw [impl_op_v [] v _ L p q a 0 b1 b2 a2 a5 (by omega)]
        rfl
  | n4 a x y z u hx hy hz hu =>
    intro ho o k h hk
    have hr := root_in h.le
    have hnd : ∀ k', 12 * (T.n4 a x y z u).size + 8 < k' → impl_partNeeds.f k' L (T.root (.n4 a x y z u) o) = some ((T.n4 a x y z u).kids o) := fun k' hk' => impl_partNeeds_v hn _ ho o k' h hk'
    have htop := h.top
    obtain ⟨a2, a5, ox, oy, oz, ou⟩ := ho
    obtain ⟨h1, h2, h3, h4⟩ := h.n4
    have sx := x.size_pos; have sy := y.size_pos; have sz := z.size_pos; have su := u.size_pos
    simp only [T.size] at hk hnd
    obtain ⟨k, rfl⟩ : ∃ m, k = m + 8 := ⟨k - 8, by omega⟩
    have hf0 : (rd_T53 L ((T.n4 a x y z u).root o)).f0 = a := by rw [htop]; rfl
    have hf1 : (rd_T53 L ((T.n4 a x y z u).root o)).f1 = 0 := by rw [htop]; rfl
    have hl : ((T.n4 a x y z u).kids o).length = 4 := rfl
    rw [impl_evalPart.f, if_pos hr.1, if_pos hr.2, hf0, hf1, if_neg (by omega), if_neg (by omega), hnd _ (by omega), Option.bind_some]
    rw [if_pos (by omega), show rd ((T.n4 a x y z u).kids o) 0 = x.root o from rfl, hx ox _ _ h1 (by omega), Option.bind_some, if_pos (by omega), show rd ((T.n4 a x y z u).kids o) 1 = y.root (o + x.size) from rfl, hy oy _ _ h2 (by omega), Option.bind_some]
    simp only [ev]
    cases e1 : ev v x with
    | none =>
      rw [if_neg (by simp [evR]), impl_bad_v]; rfl
    | some p =>
      have b1 := ev_bd hv x ox p e1
      cases e2 : ev v y with
      | none => simp only [evR, Bool.not_false, if_true]; rw [impl_bad_v]
      | some q =>
        simp only [evR, Bool.not_true, if_true]
        rw [impl_cnd_v _ _ _ _ _ _ _ a2 a5]
        simp only [impl_evalPart.j2]
        cases e3 : cnd a p q with
        | true =>
          rw [if_pos rfl, if_pos (by omega), show rd ((T.n4 a x y z u).kids o) 2 = z.root (o + x.size + y.size) from rfl, hz oz _ _ h3 (by omega), Option.bind_some]
          cases ev v z <;> rfl
        | false =>
          rw [if_neg (by simp), if_pos (by omega), show rd ((T.n4 a x y z u).kids o) 3 = u.root (o + x.size + y.size + z.size) from rfl, hu ou _ _ h4 (by omega), Option.bind_some]
          cases ev v u <;> rfl
/-- what the written order's value says: the same, but for what it holds where it fails -/
def EvS (r : Int × Bool) (o : Option Int) : Prop := r.2 = o.isSome ∧ ∀ x, o = some x → r.1 = x
theorem lim_S (z : Int) : EvS (z, decide (max z (-z) ≤ 1000000000)) (lim z) := by
  rw [abs_lim]
  by_cases h : max z (-z) > 1000000000
  · rw [if_pos h, decide_eq_false (by omega)]; exact ⟨rfl, fun x hx => by cases hx⟩
  · rw [if_neg h, decide_eq_true (by omega)]; exact ⟨rfl, fun x hx => by cases hx; rfl⟩
theorem spec_op_v {k : Nat} (R : List (List Int)) (v nd : List Int) (l : List Pt) (x y kd vv : Int) (hx : -1000000000 ≤ x ∧ x ≤ 1000000000) (hy : -1000000000 ≤ y ∧ y ≤ 1000000000) (h2 : 2 ≤ kd) (h5 : kd ≤ 5) :
    ∃ r, spec_ruValue.j0 (k + 1) l R v nd x y false kd vv = some r ∧ EvS r (opv kd x y) := by
  simp only [spec_ruValue.j0]
  rw [if_neg (by simp)]
  unfold opv
  by_cases c2 : kd = 2
  · rw [if_pos c2, if_pos c2, w64 (by omega) (by omega), spec_l1Abs_w (by omega), Option.bind_some]
    exact ⟨_, rfl, lim_S _⟩
  · rw [if_neg c2, if_neg c2]
    by_cases c3 : kd = 3
    · rw [if_pos c3, if_pos c3, w64 (by omega) (by omega), spec_l1Abs_w (by omega), Option.bind_some]
      exact ⟨_, rfl, lim_S _⟩
    · rw [if_neg c3, if_neg c3]
      by_cases c4 : kd = 4
      · have hm : -1000000000000000000 ≤ x * y ∧ x * y ≤ 1000000000000000000 := by
          have h1 : (x * y).natAbs ≤ 1000000000 * 1000000000 := by rw [Int.natAbs_mul]; exact Nat.mul_le_mul (by omega) (by omega)
          omega
        rw [if_pos c4, if_pos c4, w64 (by omega) (by omega), spec_l1Abs_w (by omega), Option.bind_some]
        exact ⟨_, rfl, lim_S _⟩
      · rw [if_neg c4, if_neg c4, if_pos (by omega)]
        by_cases c0 : y = 0
        · rw [if_pos c0, if_pos c0]; exact ⟨_, rfl, rfl, fun x hx => by cases hx⟩
        · rw [if_neg c0, if_neg c0]
          have hb := fdv_bd (y := y) hx
          rw [spec_ruDown_v hx c0, Option.bind_some, spec_l1Abs_w (by omega), Option.bind_some]
          exact ⟨_, rfl, lim_S _⟩
theorem spec_l1Sign_v (a : Int) : spec_l1Sign.f a = some (if a > 0 then 1 else if a < 0 then -1 else 0) := by
  unfold spec_l1Sign.f
  split
  · rfl
  · split <;> rfl
theorem spec_bad_v {k : Nat} (R : List (List Int)) (v nd : List Int) (l : List Pt) (x y kd vv : Int) : spec_ruValue.j0 (k + 1) l R v nd x y true kd vv = some (0, false) := by
  simp only [spec_ruValue.j0, if_true]
theorem spec_cnd_v {k : Nat} (R : List (List Int)) (v nd : List Int) (l : List Pt) (x y kd vv : Int) (hx : -1000000000 ≤ x ∧ x ≤ 1000000000) (hy : -1000000000 ≤ y ∧ y ≤ 1000000000) (h6 : 6 ≤ kd) (h8 : kd ≤ 8) (hnd : nd.length = 4) :
    spec_ruValue.j0 (k + 1) l R v nd x y false kd vv = if cnd kd x y = true then (spec_ruValue.f k l R (rd nd 2) v).bind fun b => some (b.1, b.2) else (spec_ruValue.f k l R (rd nd 3) v).bind fun b => some (b.1, b.2) := by
  simp only [spec_ruValue.j0]
  rw [if_neg (by simp), if_neg (by omega), if_neg (by omega), if_neg (by omega), if_neg (by omega), if_pos (by omega), w64 (by omega) (by omega) (x := x - y), spec_l1Sign_v, Option.bind_some, w64 (by omega) (by omega) (x := kd - 7)]
  have e : ((if x - y > 0 then 1 else if x - y < 0 then -1 else 0) = kd - 7) ↔ cnd kd x y = true := by
    unfold cnd
    rw [decide_eq_true_eq]
    split
    · omega
    · split <;> omega
  by_cases c : cnd kd x y = true
  · rw [if_pos (e.mpr c), if_pos c, if_pos (by omega)]
  · rw [if_neg (fun h => c (e.mp h)), if_neg c]
theorem spec_ruValue_v {L : List Pt} {R : List (List Int)} {v : List Int} (hv : Vals v) : ∀ (t : T), t.ok → ∀ (o k : Nat), At L o t → TA R o t → 20 * t.size < k → ∃ r, spec_ruValue.f k L R (t.root o) v = some r ∧ EvS r (ev v t) := by
  intro t
  induction t with
  | lf a x =>
    intro ho o k h h' hk
    have hr := root_in h.le
    have hr' := root_in h'.le
    have hl := hv.len
    obtain ⟨k, rfl⟩ : ∃ m, k = m + 8 := ⟨k - 8, by simp only [T.size] at hk; omega⟩
    have hf0 : (rd_T53 L ((T.lf a x).root o)).f0 = a := by rw [h.top]; rfl
    have hf1 : (rd_T53 L ((T.lf a x).root o)).f1 = x := by rw [h.top]; rfl
    rw [spec_ruValue.f, if_pos hr.1, if_pos hr.2, if_pos hr'.2, hf0, hf1]
    simp only [T.ok] at ho
    simp only [ev]
    by_cases c : a = 0
    · rw [if_pos c, if_pos c]; exact ⟨_, rfl, rfl, fun x hx => by cases hx; rfl⟩
    · rw [if_neg c, if_neg c, if_pos (by omega), if_pos (by omega), if_pos (by omega)]; exact ⟨_, rfl, rfl, fun x hx => by cases hx; rfl⟩
  | n2 a x y hx hy =>
    intro ho o k h h' hk
    have hr := root_in h.le
    have hr' := root_in h'.le
    have htop := h.top
    have hkd := h'.kids
    obtain ⟨a2, a5, ox, oy⟩ := ho
    obtain ⟨h1, h2⟩ := h.n2
    obtain ⟨h1', h2'⟩ := h'.n2
    have sx := x.size_pos; have sy := y.size_pos
    simp only [T.size] at hk
    obtain ⟨k, rfl⟩ : ∃ m, k = m + 8 := ⟨k - 8, by omega⟩
    have hf0 : (rd_T53 L ((T.n2 a x y).root o)).f0 = a := by rw [htop]; rfl
    have hf1 : (rd_T53 L ((T.n2 a x y).root o)).f1 = 0 := by rw [htop]; rfl
    rw [spec_ruValue.f, if_pos hr.1, if_pos hr.2, if_pos hr'.2, hf0, hf1, hkd]
    obtain ⟨r1, q1, s1, t1⟩ := hx ox o (k + 7) h1 h1' (by omega)
    obtain ⟨r2, q2, s2, t2⟩ := hy oy _ (k + 7) h2 h2' (by omega)
    rw [if_neg (by omega), if_neg (by omega)]
    have hl : ((T.n2 a x y).kids o).length = 2 := rfl
    rw [if_pos (by omega), show rd ((T.n2 a x y).kids o) 0 = x.root o from rfl, q1, Option.bind_some, if_pos (by omega), show rd ((T.n2 a x y).kids o) 1 = y.root (o + x.size) from rfl, q2, Option.bind_some]
    simp only [ev]
    cases e1 : ev v x with
    | none =>
      rw [e1] at s1
      rw [if_neg (by rw [s1]; simp), spec_bad_v]
      exact ⟨_, rfl, rfl, fun x hx => by cases hx⟩
    | some p =>
      have b1 := ev_bd hv x ox p e1
      rw [e1] at s1
      rw [if_pos (by rw [s1]; rfl), t1 p e1]
      cases e2 : ev v y with
      | none =>
        rw [e2] at s2
        rw [s2]
        simp only [Option.isSome_none, Bool.not_false]
        rw [spec_bad_v]
        exact ⟨_, rfl, rfl, fun x hx => by cases hx⟩
      | some q =>
        have b2 := ev_bd hv y oy q e2
        rw [e2] at s2
        rw [s2, t2 q e2]
        exact spec_op_v R v _ L p q a 0 b1 b2 a2 a5
  | n4 a x y z u hx hy hz hu =>
    intro ho o k h h' hk
    have hr := root_in h.le
    have hr' := root_in h'.le
    have htop := h.top
    have hkd := h'.kids
    obtain ⟨a2, a5, ox, oy, oz, ou⟩ := ho
    obtain ⟨h1, h2, h3, h4⟩ := h.n4
    obtain ⟨h1', h2', h3', h4'⟩ := h'.n4
    have sx := x.size_pos; have sy := y.size_pos; have sz := z.size_pos; have su := u.size_pos
    simp only [T.size] at hk
    obtain ⟨k, rfl⟩ : ∃ m, k = m + 8 := ⟨k - 8, by omega⟩
    have hf0 : (rd_T53 L ((T.n4 a x y z u).root o)).f0 = a := by rw [htop]; rfl
    have hf1 : (rd_T53 L ((T.n4 a x y z u).root o)).f1 = 0 := by rw [htop]; rfl
    rw [spec_ruValue.f, if_pos hr.1, if_pos hr.2, if_pos hr'.2, hf0, hf1, hkd]
    obtain ⟨r1, q1, s1, t1⟩ := hx ox o (k + 7) h1 h1' (by omega)
    obtain ⟨r2, q2, s2, t2⟩ := hy oy _ (k + 7) h2 h2' (by omega)
    rw [if_neg (by omega), if_neg (by omega)]
    have hl : ((T.n4 a x y z u).kids o).length = 4 := rfl
    rw [if_pos (by omega), show rd ((T.n4 a x y z u).kids o) 0 = x.root o from rfl, q1, Option.bind_some, if_pos (by omega), show rd ((T.n4 a x y z u).kids o) 1 = y.root (o + x.size) from rfl, q2, Option.bind_some]
    simp only [ev]
    cases e1 : ev v x with
    | none =>
      rw [e1] at s1
      rw [if_neg (by rw [s1]; simp), spec_bad_v]
      exact ⟨_, rfl, rfl, fun x hx => by cases hx⟩
    | some p =>
      have b1 := ev_bd hv x ox p e1
      rw [e1] at s1
      rw [if_pos (by rw [s1]; rfl), t1 p e1]
      cases e2 : ev v y with
      | none =>
        rw [e2] at s2
        rw [s2]
        simp only [Option.isSome_none, Bool.not_false]
        rw [spec_bad_v]
        exact ⟨_, rfl, rfl, fun x hx => by cases hx⟩
      | some q =>
        have b2 := ev_bd hv y oy q e2
        rw [e2] at s2
        rw [s2, t2 q e2]
        simp only [Option.isSome_some, Bool.not_true]
        rw [spec_cnd_v R v _ L p q a 0 b1 b2 a2 a5 hl]
        cases e3 : cnd a p q with
        | true =>
          obtain ⟨r3, q3, s3⟩ := hz oz _ (k + 6) h3 h3' (by omega)
          rw [if_pos rfl, show rd ((T.n4 a x y z u).kids o) 2 = z.root (o + x.size + y.size) from rfl, q3, Option.bind_some]
          exact ⟨_, rfl, by simpa using s3⟩
        | false =>
          obtain ⟨r3, q3, s3⟩ := hu ou _ (k + 6) h4 h4' (by omega)
          rw [if_neg (by simp), show rd ((T.n4 a x y z u).kids o) 3 = u.root (o + x.size + y.size + z.size) from rfl, q3, Option.bind_some]
          exact ⟨_, rfl, by simpa using s3⟩
theorem spec_ruEval_v {t : T} (ho : t.ok) (hs : t.size ≤ 39) {v : List Int} (hv : Vals v) {k : Nat} (hk : 900 < k) : spec_ruEval.f k t.enc v = some (evR (ev v t)) := by
  have hp := t.size_pos
  unfold spec_ruEval.f
  obtain ⟨r, q, s, u⟩ := spec_ruValue_v hv t ho 0 k (At.self t) (TA.self t) (by omega)
  rw [spec_ruTree_t ho hs (by omega), Option.bind_some, T.enc_len, w64 (by omega) (by omega), show (t.size : Int) - 1 = t.root 0 by simp only [T.root]; omega, q, Option.bind_some, s]
  cases e : ev v t with
  | none => rfl
  | some x => rw [u x e]; rfl
def noF (l : List Pt) : Bool := l.all fun p => p.f0 != 1
def zs5 : List Int := List.replicate 5 0
theorem zs5_vals : Vals zs5 := ⟨by simp [zs5], fun i h0 h5 => by
  have : i = 0 ∨ i = 1 ∨ i = 2 ∨ i = 3 ∨ i = 4 := by omega
  rcases this with rfl | rfl | rfl | rfl | rfl <;> decide⟩
def fold1 (t : T) (rest : List Pt) : List Pt := if noF t.enc = true then (match ev zs5 t with | some v => if 0 ≤ v ∧ v ≤ 1000000 then [⟨0, v⟩] else rest | none => rest) else rest
def foldT : T → List Pt
  | .lf k v => fold1 (.lf k v) [⟨k, v⟩]
  | .n2 k a b => fold1 (.n2 k a b) (foldT a ++ foldT b ++ [⟨k, 0⟩])
  | .n4 k a b c d => fold1 (.n4 k a b c d) (foldT a ++ foldT b ++ foldT c ++ foldT d ++ [⟨k, 0⟩])
theorem fold1_len (t : T) (rest : List Pt) (h : 1 ≤ t.size) (h' : rest.length ≤ t.size) : (fold1 t rest).length ≤ t.size := by
  unfold fold1
  split
  · split
    · split
      · simpa using h
      · exact h'
    · exact h'
  · exact h'
theorem foldT_len : ∀ t : T, (foldT t).length ≤ t.size := by
  intro t
  induction t with
  | lf k v => exact fold1_len _ _ (by simp [T.size]) (by simp [T.size])
  | n2 k a b ha hb => exact fold1_len _ _ (T.size_pos _) (by simp [T.size]; omega)
  | n4 k a b c d ha hb hc hd => exact fold1_len _ _ (T.size_pos _) (by simp [T.size]; omega)
/-- the loop that looks for a field -/
theorem spec_without_l (l : List Pt) (hl : l.length ≤ 39) : ∀ (d i k : Nat), i + d = l.length → d < k → spec_ruWithout.l0 k l (l.length : Int) (i : Int) = some (noF (l.drop i)) := by
  intro d
  induction d with
  | zero =>
    intro i k hi hk
    obtain ⟨k, rfl⟩ := k_succ (by omega : 0 < k)
    simp only [spec_ruWithout.l0]
    rw [if_neg (by omega), List.drop_eq_nil_of_le (by omega)]; rfl
  | succ d ih =>
    intro i k hi hk
    obtain ⟨k, rfl⟩ := k_succ (by omega : 0 < k)
    simp only [spec_ruWithout.l0]
    rw [if_pos (by omega), if_pos (by omega), if_pos (by omega), w64_succ (by omega), ih (i + 1) k (by omega) (by omega), stp_ex (by omega : i < l.length)]
    generalize rd_T53 l (i : Int) = p
    unfold noF
    rw [List.all_cons]
    by_cases c : p.f0 = 1
    · rw [if_pos c]; simp [c]
    · rw [if_neg c]; simp [c]
theorem spec_ruWithout_v (l : List Pt) (hl : l.length ≤ 39) {k : Nat} (hk : 40 < k) : spec_ruWithout.f k l = some (noF l) := by
  unfold spec_ruWithout.f
  simpa using spec_without_l l hl l.length 0 k (by omega) (by omega)
theorem impl_fold_l0 (L : List Pt) (i0 : Int) (l : List Pt) (hl : l.length ≤ 39) (r : Option (List Pt)) : ∀ (d i k : Nat) (b : Bool), i + d = l.length → d < k →
    impl_foldPart.l0 k L i0 b l (l.length : Int) (i : Int) = impl_foldPart.l0 (k - d) L i0 (b && noF (l.drop i)) l (l.length : Int) (l.length : Int) := by
  intro d
  induction d with
  | zero =>
    intro i k b hi hk
    rw [List.drop_eq_nil_of_le (by omega), show i = l.length by omega]
    simp [noF]
  | succ d ih =>
    intro i k b hi hk
    obtain ⟨k, rfl⟩ := k_succ (by omega : 0 < k)
    rw [show k + 1 - (d + 1) = k - d by omega]
    conv => lhs; rw [impl_foldPart.l0]
    rw [if_pos (by omega), if_pos (by omega), if_pos (by omega), w64_succ (by omega), stp_ex (by omega : i < l.length)]
    generalize rd_T53 l (i : Int) = p
    have e : noF (p :: l.drop (i + 1)) = (p.f0 != 1 && noF (l.drop (i + 1))) := by simp [noF]
    rw [e]
    cases b with
    | true => rw [if_pos rfl, ih (i + 1) k _ (by omega) (by omega), Bool.true_and]
    | false => rw [if_neg (by simp), ih (i + 1) k _ (by omega) (by omega), Bool.false_and, Bool.false_and]
theorem impl_foldPart_v {L : List Pt} (hn : L.length ≤ 39) : ∀ (t : T), t.ok → ∀ (o k : Nat), At L o t → 70 * t.size < k → impl_foldPart.f k L (t.root o) = some (foldT t) := by
  have core : ∀ (t : T), t.ok → ∀ (o k : Nat) (rest : List Pt), At L o t → 70 * t.size < k → (∀ k', 69 * t.size ≤ k' + 20 → impl_foldPart.j1 k' L (t.root o) = some rest) → impl_foldPart.f k L (t.root o) = some (fold1 t rest) := by
    intro t ho o k rest h hk hj
    have hr := root_in h.le
    have hle := h.le
    have hp := t.size_pos
    have hseg := h.seg
    obtain ⟨k, rfl⟩ := k_succ (by omega : 0 < k)
    have ea : wrap64 (t.root o + 1) = ((o + t.size : Nat) : Int) := by rw [w64 (by omega) (by omega)]; simp only [T.root]; omega
    have eb : wrap64 (((o + t.size : Nat) : Int) - (t.size : Int)) = (o : Int) := by rw [w64 (by omega) (by omega)]; omega
    have lt := t.enc_len
    rw [impl_foldPart.f, impl_partSize_v (by omega) t ho o k h (by omega), Option.bind_some, ea, eb, if_pos (by omega), if_pos (by omega), if_pos (by omega), Option.bind_some, show (((o + t.size : Nat) : Int)).toNat = o + t.size by omega, show ((o : Int)).toNat = o by omega, hseg]
    have := impl_fold_l0 L (t.root o) t.enc (by omega) none t.enc.length 0 k true (by omega) (by omega)
    rw [show ((0 : Nat) : Int) = 0 from rfl] at this
    rw [this, List.drop_zero, Bool.true_and]
    obtain ⟨j, hj'⟩ : ∃ j, k - t.enc.length = j + 1 := ⟨k - t.enc.length - 1, by omega⟩
    rw [hj', impl_foldPart.l0, if_neg (by omega)]
    unfold fold1
    cases e : noF t.enc with
    | false => rw [if_neg (by simp), if_neg (by simp)]; exact hj j (by omega)
    | true =>
      rw [if_pos rfl, if_pos rfl, if_pos (by omega)]
      have hev := impl_evalPart_v zs5_vals (by omega) t ho o j h (by omega)
      unfold zs5 at hev
      rw [hev, Option.bind_some]
      unfold zs5
      cases ev (List.replicate 5 0) t with
      | none => rw [if_neg (by simp [evR])]; exact hj j (by omega)
      | some v =>
        rw [if_pos (show (evR (some v)).2 = true from rfl), show (evR (some v)).1 = v from rfl]
        dsimp only
        by_cases c : 0 ≤ v ∧ v ≤ 1000000
        · rw [if_pos (by omega), if_pos (by omega), if_pos c]
        · rw [if_neg c]
          by_cases c0 : v ≥ 0
          · rw [if_pos c0, if_neg (by omega)]; exact hj j (by omega)
          · rw [if_neg c0]; exact hj j (by omega)
  intro t
  induction t with
  | lf a v =>
    intro ho o k h hk
    refine core _ ho o k _ h hk fun k' hk' => ?_
    have hr := root_in h.le
    simp only [T.size] at hk'
    obtain ⟨k', rfl⟩ : ∃ m, k' = m + 2 := ⟨k' - 2, by omega⟩
    have hf0 : rd_T53 L ((T.lf a v).root o) = ⟨a, v⟩ := h.top
    rw [impl_foldPart.j1, impl_partNeeds_v (by omega) _ ho o _ h (by simp only [T.size]; omega), Option.bind_some, show (T.lf a v).kids o = [] from rfl]
    rw [impl_foldPart.l1]
    rw [if_neg (by simp), if_pos hr.1, if_pos hr.2, if_pos (by decide), hf0]
    rfl
  | n2 a x y hx hy =>
    intro ho o k h hk
    refine core _ ho o k _ h hk fun k' hk' => ?_
    have hr := root_in h.le
    have hle := h.le
    have oo := ho
    obtain ⟨_, _, ox, oy⟩ := ho
    obtain ⟨h1, h2⟩ := h.n2
    have sx := x.size_pos; have sy := y.size_pos
    simp only [T.size] at hk' hle
    have fx := foldT_len x; have fy := foldT_len y
    obtain ⟨k', rfl⟩ : ∃ m, k' = m + 8 := ⟨k' - 8, by omega⟩
    have hf0 : rd_T53 L ((T.n2 a x y).root o) = ⟨a, 0⟩ := h.top
    have hl : ((T.n2 a x y).kids o).length = 2 := rfl
    rw [impl_foldPart.j1, impl_partNeeds_v (by omega) _ oo o _ h (by simp only [T.size]; omega), Option.bind_some]
    rw [impl_foldPart.l1, if_pos (by omega), if_pos (by omega), if_pos (by omega), show rd ((T.n2 a x y).kids o) 0 = x.root o from rfl, hx ox o _ h1 (by omega), Option.bind_some, if_pos (by simp only [List.length_nil]; omega), W0, List.nil_append]
    rw [impl_foldPart.l1, if_pos (by omega), if_pos (by omega), if_pos (by omega), show rd ((T.n2 a x y).kids o) 1 = y.root (o + x.size) from rfl, hy oy _ _ h2 (by omega), Option.bind_some, if_pos (by omega), W1]
    rw [impl_foldPart.l1, if_neg (by omega), if_pos hr.1, if_pos hr.2, if_pos (by rw [List.length_append]; omega), hf0]
  | n4 a x y z u hx hy hz hu =>
    intro ho o k h hk
    refine core _ ho o k _ h hk fun k' hk' => ?_
    have hr := root_in h.le
    have hle := h.le
    have oo := ho
    obtain ⟨_, _, ox, oy, oz, ou⟩ := ho
    obtain ⟨h1, h2, h3, h4⟩ := h.n4
    have sx := x.size_pos; have sy := y.size_pos; have sz := z.size_pos; have su := u.size_pos
    simp only [T.size] at hk' hle
    have fx := foldT_len x; have fy := foldT_len y; have fz := foldT_len z; have fu := foldT_len u
    obtain ⟨k', rfl⟩ : ∃ m, k' = m + 8 := ⟨k' - 8, by omega⟩
    have hf0 : rd_T53 L ((T.n4 a x y z u).root o) = ⟨a, 0⟩ := h.top
    have hl : ((T.n4 a x y z u).kids o).length = 4 := rfl
    rw [impl_foldPart.j1, impl_partNeeds_v (by omega) _ oo o _ h (by simp only [T.size]; omega), Option.bind_some]
    rw [impl_foldPart.l1, if_pos (by omega), if_pos (by omega), if_pos (by omega), show rd ((T.n4 a x y z u).kids o) 0 = x.root o from rfl, hx ox o _ h1 (by omega), Option.bind_some, if_pos (by simp only [List.length_nil]; omega), W0, List.nil_append]
    rw [impl_foldPart.l1, if_pos (by omega), if_pos (by omega), if_pos (by omega), show rd ((T.n4 a x y z u).kids o) 1 = y.root (o + x.size) from rfl, hy oy _ _ h2 (by omega), Option.bind_some, if_pos (by omega), W1]
    rw [impl_foldPart.l1, if_pos (by omega), if_pos (by omega), if_pos (by omega), show rd ((T.n4 a x y z u).kids o) 2 = z.root (o + x.size + y.size) from rfl, hz oz _ _ h3 (by omega), Option.bind_some, if_pos (by rw [List.length_append]; omega), W2]
    rw [impl_foldPart.l1, if_pos (by omega), if_pos (by omega), if_pos (by omega), show rd ((T.n4 a x y z u).kids o) 3 = u.root (o + x.size + y.size + z.size) from rfl, hu ou _ _ h4 (by omega), Option.bind_some, if_pos (by rw [List.length_append, List.length_append]; omega), W3]
    rw [impl_foldPart.l1, if_neg (by omega), if_pos hr.1, if_pos hr.2, if_pos (by rw [List.length_append, List.length_append, List.length_append]; omega), hf0]
theorem spec_ruFold_v {L : List Pt} {R : List (List Int)} (hn : L.length ≤ 39) (hR : R.length = L.length) : ∀ (t : T), t.ok → ∀ (o k : Nat), At L o t → TA R o t → 70 * t.size + 900 < k → spec_ruFold.f k L R (t.root o) = some (foldT t) := by
  have core : ∀ (t : T), t.ok → ∀ (o k : Nat) (rest : List Pt), At L o t → TA R o t → 70 * t.size + 900 < k → spec_ruFold.j0 (k - 1) L R (t.root o) = some rest → spec_ruFold.f k L R (t.root o) = some (fold1 t rest) := by
    intro t ho o k rest h h' hk hj
    have hr := root_in h.le
    have hle := h.le
    have hp := t.size_pos
    have hseg := h.seg
    obtain ⟨k, rfl⟩ := k_succ (by omega : 0 < k)
    have ea : wrap64 (t.root o + 1) = ((o + t.size : Nat) : Int) := by rw [w64 (by omega) (by omega)]; simp only [T.root]; omega
    have eb : wrap64 (((o + t.size : Nat) : Int) - (t.size : Int)) = (o : Int) := by rw [w64 (by omega) (by omega)]; omega
    have lt := t.enc_len
    rw [show k + 1 - 1 = k by omega] at hj
    rw [spec_ruFold.f, spec_ruSize_v (by omega) t o k h' (by omega), Option.bind_some, ea, eb, if_pos (by omega), if_pos (by omega), if_pos (by omega), Option.bind_some, show (((o + t.size : Nat) : Int)).toNat = o + t.size by omega, show ((o : Int)).toNat = o by omega, hseg, spec_ruWithout_v _ (by omega) (by omega), Option.bind_some]
    unfold fold1
    cases e : noF t.enc with
    | false => rw [if_neg (by simp), if_neg (by simp)]; exact hj
    | true =>
      rw [if_pos rfl, if_pos rfl, if_pos (by omega)]
      have hev := spec_ruEval_v ho (by omega) zs5_vals (k := k) (by omega)
      unfold zs5 at hev
      rw [hev, Option.bind_some]
      unfold zs5
      cases ev (List.replicate 5 0) t with
      | none => rw [if_neg (by simp [evR])]; exact hj
      | some v =>
        rw [if_pos (show (evR (some v)).2 = true from rfl), show (evR (some v)).1 = v from rfl, spec_l1In_v, Option.bind_some]
        dsimp only
        by_cases c : 0 ≤ v ∧ v ≤ 1000000
        · rw [if_pos (by simpa using c), if_pos c]
        · rw [if_neg c, if_neg (by simpa using c)]; exact hj
  intro t
  induction t with
  | lf a v =>
    intro ho o k h h' hk
    refine core _ ho o k _ h h' hk ?_
    have hr := root_in h.le
    have hr' := root_in h'.le
    obtain ⟨k', hk'⟩ : ∃ m, k - 1 = m + 2 := ⟨k - 1 - 2, by omega⟩
    have hf0 : rd_T53 L ((T.lf a v).root o) = ⟨a, v⟩ := h.top
    rw [hk', spec_ruFold.j0, if_pos hr'.1, if_pos hr'.2, h'.kids, show (T.lf a v).kids o = [] from rfl]
    rw [spec_ruFold.l0, if_neg (by simp), if_pos hr.1, if_pos hr.2, if_pos (by decide), hf0]
    rfl
  | n2 a x y hx hy =>
    intro ho o k h h' hk
    refine core _ ho o k _ h h' hk ?_
    have hr := root_in h.le
    have hr' := root_in h'.le
    have hle := h.le
    obtain ⟨_, _, ox, oy⟩ := ho
    obtain ⟨h1, h2⟩ := h.n2
    obtain ⟨h1', h2'⟩ := h'.n2
    have sx := x.size_pos; have sy := y.size_pos
    simp only [T.size] at hk hle
    have fx := foldT_len x; have fy := foldT_len y
    obtain ⟨k', hk'⟩ : ∃ m, k - 1 = m + 8 := ⟨k - 1 - 8, by omega⟩
    have hf0 : rd_T53 L ((T.n2 a x y).root o) = ⟨a, 0⟩ := h.top
    have hl : ((T.n2 a x y).kids o).length = 2 := rfl
    rw [hk', spec_ruFold.j0, if_pos hr'.1, if_pos hr'.2, h'.kids]
    rw [spec_ruFold.l0, if_pos (by omega), if_pos (by omega), if_pos (by omega), show rd ((T.n2 a x y).kids o) 0 = x.root o from rfl, hx ox o _ h1 h1' (by omega), Option.bind_some, if_pos (by simp only [List.length_nil]; omega), W0, List.nil_append]
    rw [spec_ruFold.l0, if_pos (by omega), if_pos (by omega), if_pos (by omega), show rd ((T.n2 a x y).kids o) 1 = y.root (o + x.size) from rfl, hy oy _ _ h2 h2' (by omega), Option.bind_some, if_pos (by omega), W1]
    rw [spec_ruFold.l0, if_neg (by omega), if_pos hr.1, if_pos hr.2, if_pos (by rw [List.length_append]; omega), hf0]
  | n4 a x y z u hx hy hz hu =>
    intro ho o k h h' hk
    refine core _ ho o k _ h h' hk ?_
    have hr := root_in h.le
    have hr' := root_in h'.le
    have hle := h.le
    obtain ⟨_, _, ox, oy, oz, ou⟩ := ho
    obtain ⟨h1, h2, h3, h4⟩ := h.n4
    obtain ⟨h1', h2', h3', h4'⟩ := h'.n4
    have sx := x.size_pos; have sy := y.size_pos; have sz := z.size_pos; have su := u.size_pos
    simp only [T.size] at hk hle
    have fx := foldT_len x; have fy := foldT_len y; have fz := foldT_len z; have fu := foldT_len u
    obtain ⟨k', hk'⟩ : ∃ m, k - 1 = m + 8 := ⟨k - 1 - 8, by omega⟩
    have hf0 : rd_T53 L ((T.n4 a x y z u).root o) = ⟨a, 0⟩ := h.top
    have hl : ((T.n4 a x y z u).kids o).length = 4 := rfl
    rw [hk', spec_ruFold.j0, if_pos hr'.1, if_pos hr'.2, h'.kids]
    rw [spec_ruFold.l0, if_pos (by omega), if_pos (by omega), if_pos (by omega), show rd ((T.n4 a x y z u).kids o) 0 = x.root o from rfl, hx ox o _ h1 h1' (by omega), Option.bind_some, if_pos (by simp only [List.length_nil]; omega), W0, List.nil_append]
    rw [spec_ruFold.l0, if_pos (by omega), if_pos (by omega), if_pos (by omega), show rd ((T.n4 a x y z u).kids o) 1 = y.root (o + x.size) from rfl, hy oy _ _ h2 h2' (by omega), Option.bind_some, if_pos (by omega), W1]
    rw [spec_ruFold.l0, if_pos (by omega), if_pos (by omega), if_pos (by omega), show rd ((T.n4 a x y z u).kids o) 2 = z.root (o + x.size + y.size) from rfl, hz oz _ _ h3 h3' (by omega), Option.bind_some, if_pos (by rw [List.length_append]; omega), W2]
    rw [spec_ruFold.l0, if_pos (by omega), if_pos (by omega), if_pos (by omega), show rd ((T.n4 a x y z u).kids o) 3 = u.root (o + x.size + y.size + z.size) from rfl, hu ou _ _ h4 h4' (by omega), Option.bind_some, if_pos (by rw [List.length_append, List.length_append]; omega), W3]
    rw [spec_ruFold.l0, if_neg (by omega), if_pos hr.1, if_pos hr.2, if_pos (by rw [List.length_append, List.length_append, List.length_append]; omega), hf0]
def foldR (l : List Pt) : List Pt × Bool := match goodT l with | none => ([], false) | some t => (foldT t, true)
theorem foldR_len (l : List Pt) : (foldR l).1.length ≤ 39 := by
  unfold foldR
  cases h : goodT l with
  | none => simp
  | some t =>
    obtain ⟨_, _, hs, _⟩ := goodT_t h
    have := foldT_len t
    dsimp only; omega
theorem spec_FoldRule_v (l : List Pt) (hn : l.length ≤ 1048576) {k : Nat} (hk : 5000 < k) : spec_FoldRule.f k l = some (foldR l) := by
  unfold spec_FoldRule.f foldR
  rw [spec_ruGood_v l hn (by omega), Option.bind_some]
  cases h : goodT l with
  | none => rfl
  | some t =>
    obtain ⟨rfl, ho, hs, hd⟩ := goodT_t h
    have hp := t.size_pos
    rw [if_pos (by rfl), spec_ruTree_t ho hs (by omega), Option.bind_some, T.enc_len, w64 (by omega) (by omega), show (t.size : Int) - 1 = t.root 0 by simp only [T.root]; omega, spec_ruFold_v (by rw [T.enc_len]; omega) (by rw [T.enc_len, T.trees_len]) t ho 0 k (At.self t) (TA.self t) (by omega), Option.bind_some]
theorem impl_FoldRule_v (l : List Pt) (hn : l.length ≤ 1048576) {k : Nat} (hk : 5000 < k) : impl_FoldRule.f k l = some (foldR l) := by
  unfold impl_FoldRule.f foldR
  rw [impl_isRule_v l (by omega) (by omega), Option.bind_some]
  cases h : goodT l with
  | none => rfl
  | some t =>
    obtain ⟨rfl, ho, hs, hd⟩ := goodT_t h
    have hp := t.size_pos
    rw [if_pos (by rfl), T.enc_len, w64 (by omega) (by omega), show (t.size : Int) - 1 = t.root 0 by simp only [T.root]; omega, impl_foldPart_v (by rw [T.enc_len]; omega) t ho 0 k (At.self t) (by omega), Option.bind_some]
theorem pure_FnExactFoldRule (l : List S55) (hm : l.length ≤ maxLen) (hw : ∀ x ∈ l, (Lit.int .i64 x.f0).wf = true ∧ (Lit.int .i64 x.f1).wf = true) : ∃ k, laws_FnExactFoldRule.f k l = some true := by
  obtain ⟨K, hK⟩ : ∃ K : Nat, 1048576 < K := ⟨_, Nat.lt_succ_self _⟩
  refine ⟨K + 6, ?_⟩
  unfold laws_FnExactFoldRule.f
  obtain ⟨s, hs, h | ⟨h, h'⟩⟩ := laws_szPartS_v l 1048576 (by omega) (by omega) hm
  · rw [hs, Option.bind_some, if_pos h]
  · rw [hs, Option.bind_some, if_neg (by omega)]
    have e1 := toP_map_len l
    have e3 := foldR_len (l.map toP)
    simp (disch := omega) only [laws_toPartS_v, Option.bind_some, spec_FoldRule_v, impl_FoldRule_v, laws_eqPartS_v, if_true]
    simp (disch := omega) only [laws_FnExactFoldRule.j0, laws_toPartS_v, Option.bind_some, laws_eqPartS_v, laws_markPartS_v, if_true]
    rw [if_neg (by simp), if_neg (by omega)]
    simp (disch := omega) only [laws_FnExactFoldRule.j1, laws_toPartS_v, Option.bind_some, laws_eqPartS_v, laws_markPartS_v, laws_heldPartS_v, impl_FoldRule_v, if_true]
    rw [if_neg (by simp), if_neg (by omega)]
    simp (disch := omega) only [laws_FnExactFoldRule.j2, laws_heldPartS_v, Option.bind_some, if_true]
    rw [if_neg (by simp), if_neg (by omega)]

end Go.Proofs.Ythakfnnbamiklaa.Pure
