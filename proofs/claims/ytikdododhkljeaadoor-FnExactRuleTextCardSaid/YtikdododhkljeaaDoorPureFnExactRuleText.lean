/- What the printed Lean functions behind FnExactRuleText come to, and from that the pure statement of FnExactRuleText: it answers true. No condition beyond those that the given statement itself has. -/
import Derived.Test.YtikdododhkljeaaDoorPFnExactRuleTextx8
import Derived.Lib.SmallJoins
namespace Go.Proofs.YtikdododhkljeaaDoor.Pure
open Go.RowKit Go.Proofs.YtikdododhkljeaaDoor.PFnExactRuleText Go.Proofs.YtikdododhkljeaaDoorW.PrintWords Go.Proofs.YtikdododhkljeaaDoorW.PrintLast Go.Proofs.YtikdododhkljeaaDoorW.PrintMore
set_option linter.unusedVariables false
set_option linter.unusedSimpArgs false

theorem w64 {x : Int} (h1 : -9223372036854775808 ≤ x) (h2 : x ≤ 9223372036854775807) : wrap64 x = x := by unfold wrap64; omega
theorem wf_i64 {x : Int} (h : (Lit.int .i64 x).wf = true) : -9223372036854775808 ≤ x ∧ x ≤ 9223372036854775807 := Go.Joins.in64_of_wf h
theorem mul_bd {a b A B : Int} (ha : 0 ≤ a) (hA : a ≤ A) (hb : 0 ≤ b) (hB : b ≤ B) : 0 ≤ a * b ∧ a * b ≤ A * B :=
  ⟨Int.mul_nonneg ha hb, Int.mul_le_mul hA hB hb (by omega)⟩
theorem rd_nat (l : List Int) (i : Nat) : rd l (i : Int) = l.getD i 0 := by simp [rd]
theorem rd_get {l : List Int} {i : Nat} (h : i < l.length) : rd l (i : Int) = l[i] := by rw [rd_nat, List.getD_eq_getElem?_getD, List.getElem?_eq_getElem h]; rfl
theorem rd_set {l : List Int} {i : Nat} {v : Int} (j : Int) (h0 : 0 ≤ j) (hi : i < l.length) : rd (l.set i v) j = if j = (i : Int) then v else rd l j := by
  unfold rd
  rw [List.getD_eq_getElem?_getD, List.getD_eq_getElem?_getD]
  by_cases h : j = (i : Int)
  · rw [if_pos h, show j.toNat = i by omega, List.getElem?_set_self hi]; rfl
  · rw [if_neg h, List.getElem?_set_ne (by omega)]
theorem drop_rd {l : List Int} {i : Nat} (h : i < l.length) : l.drop i = rd l (i : Int) :: l.drop (i + 1) := by
  rw [rd_get h]; exact List.drop_eq_getElem_cons h
theorem w64_succ {i : Nat} (h : i < 9223372036854775807) : wrap64 ((i : Int) + 1) = ((i + 1 : Nat) : Int) := by rw [w64 (by omega) (by omega)]; omega
theorem k_succ {k : Nat} (h : 0 < k) : ∃ m, k = m + 1 := ⟨k - 1, by omega⟩
/-- from some number of rounds on -/
theorem Ev.use {α : Type} {g : Nat → Option α} {r : α} (h : Ev g r) : ∃ K, ∀ k, K ≤ k → g k = some r := h
theorem spec_l1In_v (a lo hi : Int) : spec_l1In.f a lo hi = some (decide (lo ≤ a ∧ a ≤ hi)) := by
  unfold spec_l1In.f
  split
  · congr 1; rw [decide_eq_decide]; omega
  · congr 1; symm; rw [decide_eq_false_iff_not]; omega
def gridB (X Y Z : Int) : Bool := decide (1 ≤ X ∧ X ≤ 8 ∧ 1 ≤ Y ∧ Y ≤ 6 ∧ 1 ≤ Z ∧ Z ≤ 5 ∧ X * Y * Z ≤ 120)
theorem gridB_t {X Y Z : Int} (h : gridB X Y Z = true) : 1 ≤ X ∧ X ≤ 8 ∧ 1 ≤ Y ∧ Y ≤ 6 ∧ 1 ≤ Z ∧ Z ≤ 5 ∧ X * Y * Z ≤ 120 := of_decide_eq_true h
theorem wrapXYZ {X Y Z : Int} (h1 : 1 ≤ X) (h2 : X ≤ 8) (h3 : 1 ≤ Y) (h4 : Y ≤ 6) (h5 : 1 ≤ Z) (h6 : Z ≤ 5) : wrap64 (wrap64 (X * Y) * Z) = X * Y * Z := by
  have a := mul_bd (by omega : 0 ≤ X) h2 (by omega : 0 ≤ Y) h4
  have b := mul_bd a.1 a.2 (by omega : 0 ≤ Z) h6
  rw [w64 (by omega) (by omega) (x := X * Y), w64 (by omega) (by omega)]
theorem grid_pos {X Y Z : Int} (h : gridB X Y Z = true) : 1 ≤ X * Y * Z ∧ X * Y * Z ≤ 120 := by
  obtain ⟨h1, h2, h3, h4, h5, h6, h7⟩ := gridB_t h
  have a : 0 < X * Y := Int.mul_pos (by omega) (by omega)
  have b : 0 < X * Y * Z := Int.mul_pos a (by omega)
  omega
def hasB (X Y Z i : Int) : Bool := gridB X Y Z && decide (0 ≤ i ∧ i < X * Y * Z)
theorem hasB_t {X Y Z i : Int} (h : hasB X Y Z i = true) : gridB X Y Z = true ∧ 0 ≤ i ∧ i < X * Y * Z := by
  unfold hasB at h; rw [Bool.and_eq_true, decide_eq_true_eq] at h; exact h
theorem at_w {X Y x y z : Int} (hX : 0 ≤ X) (hX' : X ≤ 8) (hY : 0 ≤ Y) (hY' : Y ≤ 6) (hx : 0 ≤ x) (hx' : x ≤ 8) (hy : 0 ≤ y) (hy' : y ≤ 6) (hz : 0 ≤ z) (hz' : z ≤ 5) :
    wrap64 (wrap64 (wrap64 (wrap64 (z * Y) + y) * X) + x) = (z * Y + y) * X + x ∧ 0 ≤ (z * Y + y) * X + x := by
  have a := mul_bd hz hz' hY hY'
  have b := mul_bd (by omega : 0 ≤ z * Y + y) (by omega : z * Y + y ≤ 36) hX hX'
  rw [w64 (by omega) (by omega) (x := z * Y), w64 (by omega) (by omega) (x := z * Y + y), w64 (by omega) (by omega) (x := (z * Y + y) * X), w64 (by omega) (by omega)]
  exact ⟨rfl, by omega⟩
def inB (X Y Z x y z : Int) : Bool := decide (0 ≤ x ∧ x < X ∧ 0 ≤ y ∧ y < Y ∧ 0 ≤ z ∧ z < Z)
theorem tdiv_nn {a b : Int} (h : 0 ≤ a) : Int.tdiv a b = a / b := Int.tdiv_eq_ediv_of_nonneg h
theorem tmod_nn {a b : Int} (h : 0 ≤ a) : Int.tmod a b = a % b := Int.tmod_eq_emod_of_nonneg h
theorem place_bd {X Y Z i : Int} (h : hasB X Y Z i = true) : (0 ≤ i % X ∧ i % X < X) ∧ (0 ≤ i / X % Y ∧ i / X % Y < Y) ∧ (0 ≤ i / X / Y ∧ i / X / Y < Z) ∧ 0 ≤ i / X ∧ i / X ≤ i := by
  obtain ⟨hg, hi, hi'⟩ := hasB_t h
  obtain ⟨h1, h2, h3, h4, h5, h6, h7⟩ := gridB_t hg
  have a : 0 ≤ i / X := Int.ediv_nonneg hi (by omega)
  refine ⟨⟨Int.emod_nonneg _ (by omega), Int.emod_lt_of_pos _ (by omega)⟩, ⟨Int.emod_nonneg _ (by omega), Int.emod_lt_of_pos _ (by omega)⟩, ⟨Int.ediv_nonneg a (by omega), ?_⟩, a, Int.ediv_le_self _ hi⟩
  rw [Int.ediv_ediv_of_nonneg (by omega)]
  refine Int.ediv_lt_of_lt_mul (Int.mul_pos (by omega) (by omega)) ?_
  rw [Int.mul_comm Z]
  exact hi'
def coarseV (X Y i : Int) : Int := (i / X / Y * ((Y + 1) / 2) + i / X % Y / 2) * ((X + 1) / 2) + i % X / 2
def absI (n : Int) : Int := if n < 0 then -n else n
theorem absI_sub (a b : Int) : absI (a - b) = absI (b - a) := by unfold absI; repeat' split <;> omega
theorem absI_bd {a : Int} {B : Int} (h : -B ≤ a) (h' : a ≤ B) : 0 ≤ absI a ∧ absI a ≤ B := by unfold absI; split <;> omega
def stepsV (X Y i k : Int) : Int := absI (i % X - k % X) + absI (i / X % Y - k / X % Y) + absI (i / X / Y - k / X / Y)
theorem stepsV_comm (X Y i k : Int) : stepsV X Y i k = stepsV X Y k i := by
  unfold stepsV
  rw [absI_sub (i % X), absI_sub (i / X % Y), absI_sub (i / X / Y)]
theorem steps_bd {X Y Z i k : Int} (h : hasB X Y Z i = true) (h' : hasB X Y Z k = true) : (0 ≤ absI (i % X - k % X) ∧ absI (i % X - k % X) ≤ 8) ∧ (0 ≤ absI (i / X % Y - k / X % Y) ∧ absI (i / X % Y - k / X % Y) ≤ 8) ∧ (0 ≤ absI (i / X / Y - k / X / Y) ∧ absI (i / X / Y - k / X / Y) ≤ 8) := by
  obtain ⟨h1, h2, h3, h4, h5, h6, h7⟩ := gridB_t (hasB_t h).1
  have a := place_bd h
  have b := place_bd h'
  exact ⟨absI_bd (by omega) (by omega), absI_bd (by omega) (by omega), absI_bd (by omega) (by omega)⟩
def filtN (p : Int → Bool) : Nat → Nat → List Int
  | _, 0 => []
  | i, d + 1 => if p (i : Int) = true then (i : Int) :: filtN p (i + 1) d else filtN p (i + 1) d
theorem filtN_pos {p : Int → Bool} {i d : Nat} (h : p (i : Int) = true) : filtN p i (d + 1) = (i : Int) :: filtN p (i + 1) d := by rw [filtN, if_pos h]
theorem filtN_neg {p : Int → Bool} {i d : Nat} (h : ¬ p (i : Int) = true) : filtN p i (d + 1) = filtN p (i + 1) d := by rw [filtN, if_neg h]
theorem filtN_len (p : Int → Bool) : ∀ (d i : Nat), (filtN p i d).length ≤ d
  | 0, i => by simp [filtN]
  | d + 1, i => by
    have := filtN_len p d (i + 1)
    unfold filtN
    split <;> simp <;> omega
theorem filtN_mem (p : Int → Bool) : ∀ (d i : Nat) (x : Int), x ∈ filtN p i d ↔ (i : Int) ≤ x ∧ x < ((i + d : Nat) : Int) ∧ p x = true
  | 0, i, x => by simp [filtN]; omega
  | d + 1, i, x => by
    have ih := filtN_mem p d (i + 1) x
    by_cases h : p (i : Int) = true
    · rw [filtN_pos h, List.mem_cons, ih]
      constructor
      · rintro (rfl | ⟨h1, h2, h3⟩)
        · exact ⟨by omega, by omega, h⟩
        · exact ⟨by omega, by omega, h3⟩
      · rintro ⟨h1, h2, h3⟩
        by_cases e : x = (i : Int)
        · exact .inl e
        · exact .inr ⟨by omega, by omega, h3⟩
    · rw [filtN_neg h, ih]
      constructor
      · rintro ⟨h1, h2, h3⟩; exact ⟨by omega, by omega, h3⟩
      · rintro ⟨h1, h2, h3⟩
        refine ⟨?_, by omega, h3⟩
        by_cases e : x = (i : Int)
        · subst e; exact absurd h3 h
        · omega
theorem hasB_of {X Y Z i : Int} (h : gridB X Y Z = true) (h0 : 0 ≤ i) (h1 : i < X * Y * Z) : hasB X Y Z i = true := by
  unfold hasB; rw [h, Bool.true_and]; exact decide_eq_true ⟨h0, h1⟩
def nearB (X Y i r k : Int) : Bool := decide (absI (i % X - k % X) ≤ r ∧ absI (i / X % Y - k / X % Y) ≤ r ∧ absI (i / X / Y - k / X / Y) ≤ r)
def pieceB (T M R : Int) : Bool := decide (0 ≤ T ∧ T ≤ 10000 ∧ 0 ≤ M ∧ M ≤ 1000 * T ∧ 0 ≤ R ∧ R ≤ 4)
theorem pieceB_t {T M R : Int} (h : pieceB T M R = true) : 0 ≤ T ∧ T ≤ 10000 ∧ 0 ≤ M ∧ M ≤ 1000 * T ∧ 0 ≤ R ∧ R ≤ 4 := of_decide_eq_true h
def gcdI (x y : Int) : Int := (Nat.gcd x.toNat y.toNat : Nat)
theorem gcdI_step {x y : Int} (hx : 0 ≤ x) (hy : 0 ≤ y) : gcdI y (x % y) = gcdI x y := by
  unfold gcdI
  rw [Int.toNat_emod hx hy, Nat.gcd_comm, ← Nat.gcd_rec, Nat.gcd_comm]
theorem gcdI_zero {x : Int} (hx : 0 ≤ x) : gcdI x 0 = x := by
  unfold gcdI
  simp; omega
def modelB (X Y Z : Int) (t g r : List Int) : Bool := gridB X Y Z && decide ((t.length : Int) = X * Y * Z ∧ (g.length : Int) = X * Y * Z ∧ (r.length : Int) = X * Y * Z) && ((t.all fun x => decide (0 ≤ x ∧ x ≤ 10000)) && ((g.all fun x => decide (0 ≤ x ∧ x ≤ 1000)) && (r.all fun x => decide (0 ≤ x ∧ x ≤ 4))))
structure IsMod (X Y Z : Int) (t g r : List Int) : Prop where
  grid : gridB X Y Z = true
  lt : (t.length : Int) = X * Y * Z
  lg : g.length = t.length
  lr : r.length = t.length
  ht : ∀ x ∈ t, 0 ≤ x ∧ x ≤ 10000
  hg : ∀ x ∈ g, 0 ≤ x ∧ x ≤ 1000
  hr : ∀ x ∈ r, 0 ≤ x ∧ x ≤ 4
  pos : 1 ≤ t.length
  le : t.length ≤ 120
theorem modelB_iff {X Y Z : Int} {t g r : List Int} : modelB X Y Z t g r = true ↔ IsMod X Y Z t g r := by
  unfold modelB
  simp only [Bool.and_eq_true, decide_eq_true_eq, List.all_eq_true]
  constructor
  · rintro ⟨⟨h1, h2, h3, h4⟩, h5, h6, h7⟩
    have := grid_pos h1
    exact ⟨h1, h2, by omega, by omega, h5, h6, h7, by omega, by omega⟩
  · intro h
    have h1 := h.lt; have h2 := h.lg; have h3 := h.lr
    exact ⟨⟨h.grid, h1, by omega, by omega⟩, h.ht, h.hg, h.hr⟩
theorem modelB_t {X Y Z : Int} {t g r : List Int} (h : modelB X Y Z t g r = true) : IsMod X Y Z t g r := modelB_iff.1 h
theorem modelB_f {X Y Z : Int} {t g r : List Int} (h : ¬ modelB X Y Z t g r = true) : modelB X Y Z t g r = false := by simpa using h
theorem rd_mem {l : List Int} {i : Int} (h0 : 0 ≤ i) (h : i < (l.length : Int)) : rd l i ∈ l := by
  unfold rd
  rw [List.getD_eq_getElem?_getD, List.getElem?_eq_getElem (by omega)]
  exact List.getElem_mem _
theorem rd_of_getElem? {l : List Int} {i : Nat} {x : Int} (h : l[i]? = some x) : rd l (i : Int) = x := by
  rw [rd_nat, List.getD_eq_getElem?_getD, h]; rfl
theorem IsMod.rt {X Y Z : Int} {t g r : List Int} (h : IsMod X Y Z t g r) {i : Int} (h0 : 0 ≤ i) (h1 : i < (t.length : Int)) : 0 ≤ rd t i ∧ rd t i ≤ 10000 := h.ht _ (rd_mem h0 h1)
theorem IsMod.rg {X Y Z : Int} {t g r : List Int} (h : IsMod X Y Z t g r) {i : Int} (h0 : 0 ≤ i) (h1 : i < (t.length : Int)) : 0 ≤ rd g i ∧ rd g i ≤ 1000 := h.hg _ (rd_mem h0 (by have := h.lg; omega))
theorem IsMod.rr {X Y Z : Int} {t g r : List Int} (h : IsMod X Y Z t g r) {i : Int} (h0 : 0 ≤ i) (h1 : i < (t.length : Int)) : 0 ≤ rd r i ∧ rd r i ≤ 4 := h.hr _ (rd_mem h0 (by have := h.lr; omega))
theorem IsMod.rm {X Y Z : Int} {t g r : List Int} (h : IsMod X Y Z t g r) {i : Int} (h0 : 0 ≤ i) (h1 : i < (t.length : Int)) : 0 ≤ rd t i * rd g i ∧ rd t i * rd g i ≤ 10000000 :=
  mul_bd (h.rt h0 h1).1 (h.rt h0 h1).2 (h.rg h0 h1).1 (h.rg h0 h1).2
def risF (n : Int) : Int → List Int → Bool
  | _, [] => true
  | p, x :: xs => decide (0 ≤ x ∧ x < n ∧ p < x) && risF n x xs
def risB (n : Int) (l : List Int) : Bool := risF n (-1) l
theorem risF_cons (n p x : Int) (xs : List Int) : risF n p (x :: xs) = (decide (0 ≤ x ∧ x < n ∧ p < x) && risF n x xs) := rfl
theorem risF_mem {n : Int} : ∀ {p : Int} {l : List Int}, risF n p l = true → ∀ x ∈ l, 0 ≤ x ∧ x < n
  | _, [], _, x, hx => by cases hx
  | p, y :: l, h, x, hx => by
    unfold risF at h
    rw [Bool.and_eq_true, decide_eq_true_eq] at h
    rcases List.mem_cons.1 hx with rfl | hx
    · exact ⟨h.1.1, h.1.2.1⟩
    · exact risF_mem h.2 x hx
theorem risF_len {n : Int} : ∀ {p : Int} {l : List Int}, -1 ≤ p → p < n → risF n p l = true → (l.length : Int) + p < n
  | p, [], h0, h1, _ => by simp; omega
  | p, x :: l, h0, h1, h => by
    unfold risF at h
    rw [Bool.and_eq_true, decide_eq_true_eq] at h
    have := risF_len (by omega) h.1.2.1 h.2
    simp only [List.length_cons]
    omega
theorem risB_mem {n : Int} {l : List Int} (h : risB n l = true) : ∀ x ∈ l, 0 ≤ x ∧ x < n := risF_mem h
theorem risB_len {n : Int} {l : List Int} (hn : 0 ≤ n) (h : risB n l = true) : (l.length : Int) ≤ n := by have := risF_len (by omega) (by omega) h; omega
def sumT (t l : List Int) : Int := (l.map (rd t)).sum
def sumM (t g l : List Int) : Int := (l.map fun i => rd t i * rd g i).sum
theorem sum_bd (f : Int → Int) (B : Int) (hB : 0 ≤ B) : ∀ (l : List Int), (∀ x ∈ l, 0 ≤ f x ∧ f x ≤ B) → 0 ≤ (l.map f).sum ∧ (l.map f).sum ≤ B * (l.length : Int)
  | [], _ => by simp
  | x :: l, h => by
    have h1 := h x (by simp)
    have h2 := sum_bd f B hB l (fun y hy => h y (by simp [hy]))
    simp only [List.map_cons, List.sum_cons, List.length_cons]
    have e : B * ((l.length + 1 : Nat) : Int) = B * (l.length : Int) + B := by
      rw [show ((l.length + 1 : Nat) : Int) = (l.length : Int) + 1 by omega, Int.mul_add, Int.mul_one]
    omega
def filtI (p : Int → Bool) : List Int → Nat → List Int
  | [], _ => []
  | x :: l, i => if p x = true then (i : Int) :: filtI p l (i + 1) else filtI p l (i + 1)
theorem filtI_pos {p : Int → Bool} {x : Int} {l : List Int} {i : Nat} (h : p x = true) : filtI p (x :: l) i = (i : Int) :: filtI p l (i + 1) := by rw [filtI, if_pos h]
theorem filtI_neg {p : Int → Bool} {x : Int} {l : List Int} {i : Nat} (h : ¬ p x = true) : filtI p (x :: l) i = filtI p l (i + 1) := by rw [filtI, if_neg h]
theorem filtI_len (p : Int → Bool) : ∀ (l : List Int) (i : Nat), (filtI p l i).length ≤ l.length
  | [], _ => by simp [filtI]
  | x :: l, i => by
    have := filtI_len p l (i + 1)
    unfold filtI
    split <;> simp <;> omega
theorem most_d (a b : Int) : ∃ v, spec_l1Most.f a b = some v ∧ (v = a ∨ v = b) := by
  unfold spec_l1Most.f
  split
  · exact ⟨_, rfl, .inl rfl⟩
  · exact ⟨_, rfl, .inr rfl⟩
theorem W0 : wrap64 (0 + 1) = 1 := w64 (by decide) (by decide)
theorem W1 : wrap64 (1 + 1) = 2 := w64 (by decide) (by decide)
theorem W2 : wrap64 (2 + 1) = 3 := w64 (by decide) (by decide)
theorem W3 : wrap64 (3 + 1) = 4 := w64 (by decide) (by decide)
theorem laws_eqPart_v (a b : Int) : laws_eqPart.f a b a b = some true := by simp [laws_eqPart.f]
theorem laws_eqPartS_l (l : List S33) (hn : l.length ≤ 1152921504606846976) : ∀ (d k i : Nat), i + d = l.length → d < k →
    laws_eqPartS.l0 k l l (i : Int) = some true := by
  intro d
  induction d with
  | zero =>
    intro k i hi hk
    obtain ⟨k, rfl⟩ := k_succ (by omega : 0 < k)
    simp only [laws_eqPartS.l0]
    rw [if_neg (by omega)]
  | succ d ih =>
    intro k i hi hk
    obtain ⟨k, rfl⟩ := k_succ (by omega : 0 < k)
    simp only [laws_eqPartS.l0]
    rw [if_pos (by omega), if_pos (by omega), if_pos (by omega), w64_succ (by omega), laws_eqPart_v, Option.bind_some, if_pos rfl, ih k (i + 1) (by omega) (by omega)]
theorem laws_eqPartS_v (l : List S33) (hn : l.length ≤ 1048576) {k : Nat} (hk : 1048576 < k) : laws_eqPartS.f k l l = some true := by
  unfold laws_eqPartS.f
  rw [if_pos rfl]
  exact laws_eqPartS_l l (by omega) l.length k 0 (by omega) (by omega)
def toP (p : S35) : S33 := ⟨p.f0, p.f1⟩
theorem toP_map_len (l : List S35) : (l.map toP).length = l.length := by simp
theorem laws_toPartS_l (l : List S35) (hn : l.length ≤ 1152921504606846976) : ∀ (d k i : Nat) (y : List S33), i + d = l.length → d < k → y.length = l.length → (∀ j, j < i → y[j]? = (l.map toP)[j]?) →
    laws_toPartS.l0 k l y (i : Int) = some (l.map toP) := by
  intro d
  induction d with
  | zero =>
    intro k i y hi hk hy hj
    obtain ⟨k, rfl⟩ := k_succ (by omega : 0 < k)
    simp only [laws_toPartS.l0]
    rw [if_neg (by omega)]
    congr 1
    refine List.ext_getElem? fun j => ?_
    by_cases h : j < i
    · exact hj j h
    · rw [List.getElem?_eq_none (by omega), List.getElem?_eq_none (by rw [toP_map_len]; omega)]
  | succ d ih =>
    intro k i y hi hk hy hj
    obtain ⟨k, rfl⟩ := k_succ (by omega : 0 < k)
    simp only [laws_toPartS.l0, laws_toPart.f, Option.bind_some]
    rw [if_pos (by omega), if_pos (by omega), if_pos (by omega), w64_succ (by omega)]
    refine ih k (i + 1) _ (by omega) (by omega) (by simpa using hy) (fun j hj' => ?_)
    rw [show ((i : Int) : Int).toNat = i by omega]
    by_cases h : j = i
    · subst h
      rw [List.getElem?_set_self (by omega), List.getElem?_map, List.getElem?_eq_getElem (by omega)]
      simp only [rd_T35, Option.map_some, toP]
      rw [List.getD_eq_getElem?_getD, show ((j : Int) : Int).toNat = j by omega, List.getElem?_eq_getElem (by omega)]
      rfl
    · rw [List.getElem?_set_ne (by omega)]
      exact hj j (by omega)
theorem laws_toPartS_v (l : List S35) (hn : l.length ≤ 1048576) {k : Nat} (hk : 1048576 < k) : laws_toPartS.f k l = some (l.map toP) := by
  unfold laws_toPartS.f
  rw [if_pos (by omega), if_pos (by omega)]
  exact laws_toPartS_l l (by omega) l.length k 0 _ (by omega) (by omega) (by simp) (fun j hj => by omega)
theorem laws_szPartS_v (l : List S35) (a : Int) (ha : 0 ≤ a) (ha' : a ≤ 1048576) (hm : l.length ≤ maxLen) : ∃ s, laws_szPartS.f l a = some s ∧ (s < 0 ∨ (0 ≤ s ∧ s = a - (l.length : Int))) := by
  have : (maxLen : Nat) ≤ 9223372036854775807 := by decide
  unfold laws_szPartS.f
  rw [w64 (by omega) (by omega)]
  by_cases h : a - (l.length : Int) < 0
  · rw [if_pos h]; exact ⟨_, rfl, .inl (by decide)⟩
  · rw [if_neg h]; exact ⟨_, rfl, .inr ⟨by omega, rfl⟩⟩
abbrev Pt := S33
inductive T where
  | lf (k v : Int) | n2 (k : Int) (a b : T) | n4 (k : Int) (a b c d : T)
def T.size : T → Nat
  | .lf _ _ => 1
  | .n2 _ a b => a.size + b.size + 1
  | .n4 _ a b c d => a.size + b.size + c.size + d.size + 1
def T.enc : T → List Pt
  | .lf k v => [⟨k, v⟩]
  | .n2 k a b => a.enc ++ (b.enc ++ [⟨k, 0⟩])
  | .n4 k a b c d => a.enc ++ (b.enc ++ (c.enc ++ (d.enc ++ [⟨k, 0⟩])))
def T.depth : T → Int
  | .lf _ _ => 1
  | .n2 _ a b => max (max 0 a.depth) b.depth + 1
  | .n4 _ a b c d => max (max (max (max 0 a.depth) b.depth) c.depth) d.depth + 1
def T.ok : T → Prop
  | .lf k v => (k = 0 ∧ 0 ≤ v ∧ v ≤ 1000000) ∨ (k = 1 ∧ 0 ≤ v ∧ v ≤ 4)
  | .n2 k a b => 2 ≤ k ∧ k ≤ 5 ∧ a.ok ∧ b.ok
  | .n4 k a b c d => 6 ≤ k ∧ k ≤ 8 ∧ a.ok ∧ b.ok ∧ c.ok ∧ d.ok
def T.top : T → Pt
  | .lf k v => ⟨k, v⟩
  | .n2 k _ _ => ⟨k, 0⟩
  | .n4 k _ _ _ _ => ⟨k, 0⟩
def T.root (t : T) (o : Nat) : Int := (o : Int) + (t.size : Int) - 1
def T.kids : T → Nat → List Int
  | .lf _ _, _ => []
  | .n2 _ a b, o => [a.root o, b.root (o + a.size)]
  | .n4 _ a b c d, o => [a.root o, b.root (o + a.size), c.root (o + a.size + b.size), d.root (o + a.size + b.size + c.size)]
def T.trees : T → Nat → List (List Int)
  | .lf k v, o => [T.kids (.lf k v) o]
  | .n2 k a b, o => a.trees o ++ (b.trees (o + a.size) ++ [T.kids (.n2 k a b) o])
  | .n4 k a b c d, o => a.trees o ++ (b.trees (o + a.size) ++ (c.trees (o + a.size + b.size) ++ (d.trees (o + a.size + b.size + c.size) ++ [T.kids (.n4 k a b c d) o])))
theorem T.size_pos (t : T) : 1 ≤ t.size := by cases t <;> simp only [T.size] <;> omega
theorem T.enc_len : ∀ t : T, t.enc.length = t.size := by
  intro t
  induction t with
  | lf k v => rfl
  | n2 k a b ha hb => simp [T.enc, T.size, ha, hb]; omega
  | n4 k a b c d ha hb hc hd => simp [T.enc, T.size, ha, hb, hc, hd]; omega
theorem T.trees_len : ∀ (t : T) (o : Nat), (t.trees o).length = t.size := by
  intro t
  induction t with
  | lf k v => intro o; rfl
  | n2 k a b ha hb => intro o; simp [T.trees, T.size, ha, hb]; omega
  | n4 k a b c d ha hb hc hd => intro o; simp [T.trees, T.size, ha, hb, hc, hd]; omega
theorem T.enc_top (t : T) : ∃ e, t.enc = e ++ [t.top] ∧ e.length + 1 = t.size := by
  cases t with
  | lf k v => exact ⟨[], rfl, rfl⟩
  | n2 k a b => exact ⟨a.enc ++ b.enc, by simp [T.enc, T.top], by simp [T.size, T.enc_len]⟩
  | n4 k a b c d => exact ⟨a.enc ++ b.enc ++ c.enc ++ d.enc, by simp [T.enc, T.top], by simp [T.size, T.enc_len]; omega⟩
theorem T.trees_top (t : T) (o : Nat) : ∃ e, t.trees o = e ++ [t.kids o] ∧ e.length + 1 = t.size := by
  cases t with
  | lf k v => exact ⟨[], rfl, rfl⟩
  | n2 k a b => exact ⟨a.trees o ++ b.trees (o + a.size), by simp [T.trees], by simp [T.size, T.trees_len]⟩
  | n4 k a b c d => exact ⟨a.trees o ++ b.trees (o + a.size) ++ c.trees (o + a.size + b.size) ++ d.trees (o + a.size + b.size + c.size), by simp [T.trees], by simp [T.size, T.trees_len]; omega⟩
theorem T.depth_pos : ∀ t : T, 1 ≤ t.depth := by
  intro t
  cases t <;> simp only [T.depth] <;> omega
theorem T.depth_le : ∀ t : T, t.depth ≤ (t.size : Int) := by
  intro t
  induction t with
  | lf k v => simp [T.depth, T.size]
  | n2 k a b ha hb => simp only [T.depth, T.size]; have := a.size_pos; have := b.size_pos; omega
  | n4 k a b c d ha hb hc hd => simp only [T.depth, T.size]; have := a.size_pos; have := b.size_pos; have := c.size_pos; have := d.size_pos; omega
theorem getD_mid {α : Type} (u v : List α) (x z : α) {i : Nat} (h : i = u.length) : (u ++ x :: v).getD i z = x := by
  subst h; simp
/-- the tree's parts stand in the list from 'o' on -/
def At (L : List Pt) (o : Nat) (t : T) : Prop := ∃ p q, L = p ++ (t.enc ++ q) ∧ p.length = o
def TA (R : List (List Int)) (o : Nat) (t : T) : Prop := ∃ p q, R = p ++ (t.trees o ++ q) ∧ p.length = o
theorem At.self (t : T) : At t.enc 0 t := ⟨[], [], by simp, rfl⟩
theorem TA.self (t : T) : TA (t.trees 0) 0 t := ⟨[], [], by simp, rfl⟩
theorem At.le {L o t} (h : At L o t) : o + t.size ≤ L.length := by
  obtain ⟨p, q, rfl, rfl⟩ := h
  simp only [List.length_append, T.enc_len]; omega
theorem TA.le {L o t} (h : TA L o t) : o + t.size ≤ L.length := by
  obtain ⟨p, q, rfl, rfl⟩ := h
  simp only [List.length_append, T.trees_len]; omega
theorem At.top {L o t} (h : At L o t) : rd_T33 L (t.root o) = t.top := by
  obtain ⟨p, q, rfl, rfl⟩ := h
  obtain ⟨e, he, hl⟩ := t.enc_top
  unfold rd_T33 T.root
  rw [he, show p ++ ((e ++ [t.top]) ++ q) = (p ++ e) ++ t.top :: q by simp]
  exact getD_mid _ _ _ _ (by simp; omega)
theorem TA.kids {L o t} (h : TA L o t) : rd_L3 L (t.root o) = t.kids o := by
  obtain ⟨p, q, rfl, rfl⟩ := h
  obtain ⟨e, he, hl⟩ := t.trees_top p.length
  unfold rd_L3 T.root
  rw [he, show p ++ ((e ++ [t.kids p.length]) ++ q) = (p ++ e) ++ t.kids p.length :: q by simp]
  exact getD_mid _ _ _ _ (by simp; omega)
theorem At.n2 {L o k a b} (h : At L o (.n2 k a b)) : At L o a ∧ At L (o + a.size) b := by
  obtain ⟨p, q, rfl, rfl⟩ := h
  exact ⟨⟨p, b.enc ++ ([⟨k, 0⟩] ++ q), by simp [T.enc], rfl⟩, ⟨p ++ a.enc, [⟨k, 0⟩] ++ q, by simp [T.enc], by simp [T.enc_len]⟩⟩
theorem TA.n2 {L o k a b} (h : TA L o (.n2 k a b)) : TA L o a ∧ TA L (o + a.size) b := by
  obtain ⟨p, q, rfl, rfl⟩ := h
  exact ⟨⟨p, b.trees (p.length + a.size) ++ ([T.kids (.n2 k a b) p.length] ++ q), by simp [T.trees], rfl⟩, ⟨p ++ a.trees p.length, [T.kids (.n2 k a b) p.length] ++ q, by simp [T.trees], by simp [T.trees_len]⟩⟩
theorem At.n4 {L o k a b c d} (h : At L o (.n4 k a b c d)) : At L o a ∧ At L (o + a.size) b ∧ At L (o + a.size + b.size) c ∧ At L (o + a.size + b.size + c.size) d := by
  obtain ⟨p, q, rfl, rfl⟩ := h
  exact ⟨⟨p, b.enc ++ (c.enc ++ (d.enc ++ ([⟨k, 0⟩] ++ q))), by simp [T.enc], rfl⟩, ⟨p ++ a.enc, c.enc ++ (d.enc ++ ([⟨k, 0⟩] ++ q)), by simp [T.enc], by simp [T.enc_len]⟩,
    ⟨p ++ (a.enc ++ b.enc), d.enc ++ ([⟨k, 0⟩] ++ q), by simp [T.enc], by simp [T.enc_len]; omega⟩, ⟨p ++ (a.enc ++ (b.enc ++ c.enc)), [⟨k, 0⟩] ++ q, by simp [T.enc], by simp [T.enc_len]; omega⟩⟩
theorem TA.n4 {L o k a b c d} (h : TA L o (.n4 k a b c d)) : TA L o a ∧ TA L (o + a.size) b ∧ TA L (o + a.size + b.size) c ∧ TA L (o + a.size + b.size + c.size) d := by
  obtain ⟨p, q, rfl, rfl⟩ := h
  exact ⟨⟨p, b.trees (p.length + a.size) ++ (c.trees (p.length + a.size + b.size) ++ (d.trees (p.length + a.size + b.size + c.size) ++ ([T.kids (.n4 k a b c d) p.length] ++ q))), by simp [T.trees], rfl⟩,
    ⟨p ++ a.trees p.length, c.trees (p.length + a.size + b.size) ++ (d.trees (p.length + a.size + b.size + c.size) ++ ([T.kids (.n4 k a b c d) p.length] ++ q)), by simp [T.trees], by simp [T.trees_len]⟩,
    ⟨p ++ (a.trees p.length ++ b.trees (p.length + a.size)), d.trees (p.length + a.size + b.size + c.size) ++ ([T.kids (.n4 k a b c d) p.length] ++ q), by simp [T.trees], by simp [T.trees_len]; omega⟩,
    ⟨p ++ (a.trees p.length ++ (b.trees (p.length + a.size) ++ c.trees (p.length + a.size + b.size))), [T.kids (.n4 k a b c d) p.length] ++ q, by simp [T.trees], by simp [T.trees_len]; omega⟩⟩
theorem At.seg {L o t} (h : At L o t) : (L.take (o + t.size)).drop o = t.enc := by
  obtain ⟨p, q, rfl, rfl⟩ := h
  rw [← List.append_assoc, List.take_left' (by simp [T.enc_len]), List.drop_left]
theorem take_stp {l : List Pt} {i : Nat} (h : i < l.length) : l.take (i + 1) = l.take i ++ [rd_T33 l (i : Int)] := by
  have hp : rd_T33 l (i : Int) = l.getD i z33 := by unfold rd_T33; rw [Int.toNat_natCast]
  rw [List.take_add_one, List.getElem?_eq_getElem h, hp, List.getD_eq_getElem?_getD, List.getElem?_eq_getElem h]; rfl
/-! one step of the stack, top first -/
def stp (ts : List T) (p : Pt) : Option (List T) :=
  if (p.f0 = 0 ∧ 0 ≤ p.f1 ∧ p.f1 ≤ 1000000) ∨ (p.f0 = 1 ∧ 0 ≤ p.f1 ∧ p.f1 ≤ 4) then some (.lf p.f0 p.f1 :: ts)
  else if 2 ≤ p.f0 ∧ p.f0 ≤ 5 ∧ p.f1 = 0 then (match ts with | b :: a :: r => some (.n2 p.f0 a b :: r) | _ => none)
  else if 6 ≤ p.f0 ∧ p.f0 ≤ 8 ∧ p.f1 = 0 then (match ts with | d :: c :: b :: a :: r => some (.n4 p.f0 a b c d :: r) | _ => none)
  else none
def run : List T → List Pt → Option (List T)
  | ts, [] => some ts
  | ts, p :: ps => (stp ts p).bind fun ts' => run ts' ps
def encS : List T → List Pt
  | [] => []
  | t :: ts => encS ts ++ t.enc
def lenS : List T → Nat
  | [] => 0
  | t :: ts => lenS ts + t.size
def treS : List T → List (List Int)
  | [] => []
  | t :: ts => treS ts ++ t.trees (lenS ts)
def rootS : List T → List Int
  | [] => []
  | t :: ts => rootS ts ++ [t.root (lenS ts)]
def depS : List T → List Int
  | [] => []
  | t :: ts => depS ts ++ [t.depth]
def okS (ts : List T) : Prop := ∀ t ∈ ts, t.ok
theorem encS_len : ∀ ts, (encS ts).length = lenS ts
  | [] => rfl
  | t :: ts => by simp [encS, lenS, encS_len ts, T.enc_len]
theorem treS_len : ∀ ts, (treS ts).length = lenS ts
  | [] => rfl
  | t :: ts => by simp [treS, lenS, treS_len ts, T.trees_len]
theorem rootS_len : ∀ ts, (rootS ts).length = ts.length
  | [] => rfl
  | t :: ts => by simp [rootS, rootS_len ts]
theorem depS_len : ∀ ts, (depS ts).length = ts.length
  | [] => rfl
  | t :: ts => by simp [depS, depS_len ts]
theorem len_le_lenS : ∀ ts : List T, ts.length ≤ lenS ts
  | [] => Nat.le_refl _
  | t :: ts => by have := len_le_lenS ts; have := t.size_pos; simp only [lenS, List.length_cons]; omega
/-- the cases of one step -/
theorem stp_cases (ts : List T) (p : Pt) :
    (((p.f0 = 0 ∧ 0 ≤ p.f1 ∧ p.f1 ≤ 1000000) ∨ (p.f0 = 1 ∧ 0 ≤ p.f1 ∧ p.f1 ≤ 4)) ∧ stp ts p = some (.lf p.f0 p.f1 :: ts)) ∨
    (2 ≤ p.f0 ∧ p.f0 ≤ 5 ∧ p.f1 = 0 ∧ ∃ a b r, ts = b :: a :: r ∧ stp ts p = some (.n2 p.f0 a b :: r)) ∨
    (6 ≤ p.f0 ∧ p.f0 ≤ 8 ∧ p.f1 = 0 ∧ ∃ a b c d r, ts = d :: c :: b :: a :: r ∧ stp ts p = some (.n4 p.f0 a b c d :: r)) ∨
    (2 ≤ p.f0 ∧ p.f0 ≤ 5 ∧ p.f1 = 0 ∧ ts.length < 2 ∧ stp ts p = none) ∨
    (6 ≤ p.f0 ∧ p.f0 ≤ 8 ∧ p.f1 = 0 ∧ ts.length < 4 ∧ stp ts p = none) ∨
    (¬ ((p.f0 = 0 ∧ 0 ≤ p.f1 ∧ p.f1 ≤ 1000000) ∨ (p.f0 = 1 ∧ 0 ≤ p.f1 ∧ p.f1 ≤ 4)) ∧ ¬ (2 ≤ p.f0 ∧ p.f0 ≤ 8 ∧ p.f1 = 0) ∧ stp ts p = none) := by
  by_cases h1 : (p.f0 = 0 ∧ 0 ≤ p.f1 ∧ p.f1 ≤ 1000000) ∨ (p.f0 = 1 ∧ 0 ≤ p.f1 ∧ p.f1 ≤ 4)
  · exact .inl ⟨h1, by unfold stp; rw [if_pos h1]⟩
  · by_cases h2 : 2 ≤ p.f0 ∧ p.f0 ≤ 5 ∧ p.f1 = 0
    · match ts with
      | [] => exact .inr (.inr (.inr (.inl ⟨h2.1, h2.2.1, h2.2.2, by simp, by unfold stp; rw [if_neg h1, if_pos h2]⟩)))
      | [_] => exact .inr (.inr (.inr (.inl ⟨h2.1, h2.2.1, h2.2.2, by simp, by unfold stp; rw [if_neg h1, if_pos h2]⟩)))
      | b :: a :: r => exact .inr (.inl ⟨h2.1, h2.2.1, h2.2.2, a, b, r, rfl, by unfold stp; rw [if_neg h1, if_pos h2]⟩)
    · by_cases h3 : 6 ≤ p.f0 ∧ p.f0 ≤ 8 ∧ p.f1 = 0
      · match ts with
        | [] => exact .inr (.inr (.inr (.inr (.inl ⟨h3.1, h3.2.1, h3.2.2, by simp, by unfold stp; rw [if_neg h1, if_neg h2, if_pos h3]⟩))))
        | [_] => exact .inr (.inr (.inr (.inr (.inl ⟨h3.1, h3.2.1, h3.2.2, by simp, by unfold stp; rw [if_neg h1, if_neg h2, if_pos h3]⟩))))
        | [_, _] => exact .inr (.inr (.inr (.inr (.inl ⟨h3.1, h3.2.1, h3.2.2, by simp, by unfold stp; rw [if_neg h1, if_neg h2, if_pos h3]⟩))))
        | [_, _, _] => exact .inr (.inr (.inr (.inr (.inl ⟨h3.1, h3.2.1, h3.2.2, by simp, by unfold stp; rw [if_neg h1, if_neg h2, if_pos h3]⟩))))
        | d :: c :: b :: a :: r => exact .inr (.inr (.inl ⟨h3.1, h3.2.1, h3.2.2, a, b, c, d, r, rfl, by unfold stp; rw [if_neg h1, if_neg h2, if_pos h3]⟩))
      · exact .inr (.inr (.inr (.inr (.inr ⟨h1, by omega, by unfold stp; rw [if_neg h1, if_neg h2, if_neg h3]⟩))))
theorem Pt.eta0 {p : Pt} (h : p.f1 = 0) : p = ⟨p.f0, 0⟩ := by cases p; simp_all
theorem stp_enc {ts ts' : List T} {p : Pt} (h : stp ts p = some ts') (ho : okS ts) : encS ts' = encS ts ++ [p] ∧ okS ts' := by
  rcases stp_cases ts p with ⟨h1, e⟩ | ⟨h1, h2, h3, a, b, r, rfl, e⟩ | ⟨h1, h2, h3, a, b, c, d, r, rfl, e⟩ | ⟨_, _, _, _, e⟩ | ⟨_, _, _, _, e⟩ | ⟨_, _, e⟩
  · rw [h] at e; cases e
    exact ⟨by simp [encS, T.enc], fun t ht => by
      rcases List.mem_cons.mp ht with rfl | ht
      · exact h1
      · exact ho t ht⟩
  · rw [h] at e; cases e
    refine ⟨by rw [Pt.eta0 h3]; simp [encS, T.enc], fun t ht => ?_⟩
    rcases List.mem_cons.mp ht with rfl | ht
    · exact ⟨h1, h2, ho _ (by simp), ho _ (by simp)⟩
    · exact ho t (by simp [ht])
  · rw [h] at e; cases e
    refine ⟨by rw [Pt.eta0 h3]; simp [encS, T.enc], fun t ht => ?_⟩
    rcases List.mem_cons.mp ht with rfl | ht
    · exact ⟨h1, h2, ho _ (by simp), ho _ (by simp), ho _ (by simp), ho _ (by simp)⟩
    · exact ho t (by simp [ht])
  · rw [h] at e; cases e
  · rw [h] at e; cases e
  · rw [h] at e; cases e
theorem run_enc : ∀ (ps : List Pt) (ts ts' : List T), run ts ps = some ts' → okS ts → encS ts' = encS ts ++ ps ∧ okS ts'
  | [], ts, ts', h, ho => by cases h; simp [ho]
  | p :: ps, ts, ts', h, ho => by
    simp only [run, Option.bind_eq_some_iff] at h
    obtain ⟨u, hu, h⟩ := h
    obtain ⟨e1, o1⟩ := stp_enc hu ho
    obtain ⟨e2, o2⟩ := run_enc ps u ts' h o1
    exact ⟨by rw [e2, e1]; simp, o2⟩
theorem run_app (ps qs : List Pt) : ∀ ts, run ts (ps ++ qs) = (run ts ps).bind fun u => run u qs := by
  induction ps with
  | nil => intro ts; rfl
  | cons p ps ih =>
    intro ts
    simp only [List.cons_append, run]
    cases h : stp ts p with
    | none => rfl
    | some u => simp only [Option.bind_some]; exact ih u
theorem run_t : ∀ (t : T), t.ok → ∀ ts, run ts t.enc = some (t :: ts) := by
  intro t
  induction t with
  | lf k v =>
    intro ho ts
    simp only [T.enc, run, stp]
    simp only [T.ok] at ho
    rw [if_pos ho]; rfl
  | n2 k a b ha hb =>
    intro ho ts
    obtain ⟨h1, h2, oa, ob⟩ := ho
    have e1 : ¬ ((k = 0 ∧ (0 : Int) ≤ 0 ∧ (0 : Int) ≤ 1000000) ∨ (k = 1 ∧ (0 : Int) ≤ 0 ∧ (0 : Int) ≤ 4)) := by omega
    have e2 : 2 ≤ k ∧ k ≤ 5 ∧ True := ⟨h1, h2, trivial⟩
    simp only [T.enc, run_app, ha oa, hb ob, Option.bind_some, run, stp]
    rw [if_neg e1, if_pos e2]; rfl
  | n4 k a b c d ha hb hc hd =>
    intro ho ts
    obtain ⟨h1, h2, oa, ob, oc, od⟩ := ho
    have e1 : ¬ ((k = 0 ∧ (0 : Int) ≤ 0 ∧ (0 : Int) ≤ 1000000) ∨ (k = 1 ∧ (0 : Int) ≤ 0 ∧ (0 : Int) ≤ 4)) := by omega
    have e0 : ¬ (2 ≤ k ∧ k ≤ 5 ∧ True) := by omega
    have e2 : 6 ≤ k ∧ k ≤ 8 ∧ True := ⟨h1, h2, trivial⟩
    simp only [T.enc, run_app, ha oa, hb ob, hc oc, hd od, Option.bind_some, run, stp]
    rw [if_neg e1, if_neg e0, if_pos e2]; rfl
def goodT (l : List Pt) : Option T :=
  if 1 ≤ l.length ∧ l.length ≤ 39 then (match run [] l with | some [t] => if t.depth ≤ 12 then some t else none | _ => none) else none
theorem goodT_t {l : List Pt} {t : T} (h : goodT l = some t) : l = t.enc ∧ t.ok ∧ t.size ≤ 39 ∧ t.depth ≤ 12 := by
  unfold goodT at h
  split at h
  · rename_i hl
    split at h
    · rename_i u hr
      split at h
      · rename_i hd
        cases h
        obtain ⟨e, o⟩ := run_enc l [] [t] hr (fun t ht => by simp at ht)
        simp only [encS, List.nil_append] at e
        exact ⟨e.symm, o t (by simp), by rw [← T.enc_len, e]; exact hl.2, hd⟩
      · exact absurd h (by simp)
    · exact absurd h (by simp)
  · exact absurd h (by simp)
theorem spec_ruPart_v (a b : Int) : spec_ruPart.f a b = some (decide ((a = 0 ∧ 0 ≤ b ∧ b ≤ 1000000) ∨ (a = 1 ∧ 0 ≤ b ∧ b ≤ 4) ∨ (2 ≤ a ∧ a ≤ 8 ∧ b = 0))) := by
  unfold spec_ruPart.f
  by_cases h0 : a = 0
  · rw [if_pos h0, spec_l1In_v, Option.bind_some]; congr 1; rw [decide_eq_decide]; omega
  · rw [if_neg h0]
    by_cases h1 : a = 1
    · rw [if_pos h1, spec_l1In_v, Option.bind_some]; congr 1; rw [decide_eq_decide]; omega
    · rw [if_neg h1, spec_l1In_v, Option.bind_some]
      by_cases h2 : 2 ≤ a ∧ a ≤ 8
      · rw [if_pos (by simpa using h2)]; congr 1
        have : ((b == 0) : Bool) = decide (b = 0) := rfl
        rw [this, decide_eq_decide]; omega
      · rw [if_neg (by simpa using h2)]; congr 1; symm; rw [decide_eq_false_iff_not]; omega
theorem spec_ruNeeds_v0 {a : Int} (h : a ≤ 1) : spec_ruNeeds.f a = some 0 := by unfold spec_ruNeeds.f; rw [if_pos h]
theorem spec_ruNeeds_v2 {a : Int} (h : 2 ≤ a) (h' : a ≤ 5) : spec_ruNeeds.f a = some 2 := by unfold spec_ruNeeds.f; rw [if_neg (by omega), if_pos h']
theorem spec_ruNeeds_v4 {a : Int} (h : 6 ≤ a) : spec_ruNeeds.f a = some 4 := by unfold spec_ruNeeds.f; rw [if_neg (by omega), if_neg (by omega)]
theorem spec_l1Own_v {l : List Int} (h : l.length < 17592186044416) : spec_l1Own.f l = some l := by
  unfold spec_l1Own.f
  simp only [Option.bind_some, List.length_nil, Nat.zero_add, List.nil_append]
  rw [if_pos h]
def treeR (o : Option (List T)) : List (List Int) × Bool := match o with | none => ([], false) | some ts => (treS ts, ts.length == 1)
theorem spec_ruTree_l (l : List Pt) (hn : l.length ≤ 1048576) : ∀ (d i k : Nat) (ts : List T), i + d = l.length → lenS ts = i → 2 * d < k →
    spec_ruTree.l0 k (treS ts) (rootS ts) l (l.length : Int) (i : Int) = some (treeR (run ts (l.drop i))) := by
  intro d
  induction d with
  | zero =>
    intro i k ts hi hl hk
    obtain ⟨k, rfl⟩ := k_succ (by omega : 0 < k)
    simp only [spec_ruTree.l0]
    rw [if_neg (by omega), List.drop_eq_nil_of_le (by omega)]
    simp only [run, treeR, rootS_len]
    congr 2
    rw [Bool.eq_iff_iff]; simp; omega
  | succ d ih =>
    intro i k ts hi hl hk
    obtain ⟨k, rfl⟩ : ∃ m, k = m + 2 := ⟨k - 2, by omega⟩
    have hle := len_le_lenS ts
    have hp : rd_T33 l (i : Int) = l.getD i z33 := by unfold rd_T33; rw [Int.toNat_natCast]
    have hd : l.drop i = rd_T33 l (i : Int) :: l.drop (i + 1) := by
      rw [hp, List.drop_eq_getElem_cons (by omega), List.getD_eq_getElem?_getD, List.getElem?_eq_getElem (by omega)]; rfl
    simp only [spec_ruTree.l0]
    rw [if_pos (by omega), if_pos (by omega), if_pos (by omega), hd]
    generalize rd_T33 l (i : Int) = p
    rw [spec_ruPart_v, Option.bind_some]
    simp only [run, decide_eq_true_eq]
    rcases stp_cases ts p with ⟨h1, e⟩ | ⟨h1, h2, h3, a, b, r, rfl, e⟩ | ⟨h1, h2, h3, a, b, c, d', r, rfl, e⟩ | ⟨h1, h2, h3, h4, e⟩ | ⟨h1, h2, h3, h4, e⟩ | ⟨h1, h2, e⟩
    · rw [if_pos (by omega), spec_ruNeeds_v0 (by omega), Option.bind_some, e, Option.bind_some]
      simp only [spec_ruTree.j1, decide_eq_true_eq, rootS_len]
      rw [if_neg (by omega), spec_ruNeeds_v0 (by omega), Option.bind_some, w64 (by omega) (by omega)]
      rw [if_pos (by omega), if_pos (by omega), show ((ts.length : Int) - 0).toNat = ts.length by omega, List.drop_eq_nil_of_le (by rw [rootS_len]; omega), List.take_of_length_le (by rw [rootS_len]; omega)]
      rw [spec_l1Own_v (by simp), Option.bind_some, treS_len, if_pos (by omega), spec_l1Own_v (by rw [rootS_len]; omega), Option.bind_some, rootS_len, if_pos (by omega), w64_succ (by omega)]
      have := ih (i + 1) k (.lf p.f0 p.f1 :: ts) (by omega) (by simp only [lenS, T.size]; omega) (by omega)
      simp only [treS, rootS, T.trees, T.kids, T.root, T.size] at this
      rw [← this, hl]
      congr 3; omega
    · rw [if_pos (by omega), spec_ruNeeds_v2 (by omega) (by omega), Option.bind_some, e, Option.bind_some]
      simp only [List.length_cons] at hle
      simp only [lenS] at hl
      have ha := a.size_pos; have hb := b.size_pos; have hr := len_le_lenS r
      simp only [spec_ruTree.j1, decide_eq_true_eq, rootS_len, List.length_cons]
      rw [if_neg (by omega), spec_ruNeeds_v2 (by omega) (by omega), Option.bind_some, w64 (by omega) (by omega)]
      rw [if_pos (by omega), if_pos (by omega), show (((r.length + 1 + 1 : Nat) : Int) - 2).toNat = (rootS r).length by rw [rootS_len]; omega]
      simp only [rootS, List.append_assoc, List.drop_left, List.take_left, List.cons_append, List.nil_append]
      rw [spec_l1Own_v (by simp), Option.bind_some, treS_len, if_pos (by simp only [lenS]; omega), spec_l1Own_v (by rw [rootS_len]; omega), Option.bind_some, rootS_len, if_pos (by omega), w64_succ (by omega)]
      have := ih (i + 1) k (.n2 p.f0 a b :: r) (by omega) (by simp only [lenS, T.size]; omega) (by omega)
      simp only [treS, rootS, T.trees, T.kids, T.root, T.size] at this
      rw [← this]
      simp only [treS, T.root, lenS, List.append_assoc]
      congr 3; omega
    · rw [if_pos (by omega), spec_ruNeeds_v4 (by omega), Option.bind_some, e, Option.bind_some]
      simp only [List.length_cons] at hle
      simp only [lenS] at hl
      have ha := a.size_pos; have hb := b.size_pos; have hc := c.size_pos; have hd' := d'.size_pos; have hr := len_le_lenS r
      simp only [spec_ruTree.j1, decide_eq_true_eq, rootS_len, List.length_cons]
      rw [if_neg (by omega), spec_ruNeeds_v4 (by omega), Option.bind_some, w64 (by omega) (by omega)]
      rw [if_pos (by omega), if_pos (by omega), show (((r.length + 1 + 1 + 1 + 1 : Nat) : Int) - 4).toNat = (rootS r).length by rw [rootS_len]; omega]
      simp only [rootS, List.append_assoc, List.drop_left, List.take_left, List.cons_append, List.nil_append]
      rw [spec_l1Own_v (by simp), Option.bind_some, treS_len, if_pos (by simp only [lenS]; omega), spec_l1Own_v (by rw [rootS_len]; omega), Option.bind_some, rootS_len, if_pos (by omega), w64_succ (by omega)]
      have := ih (i + 1) k (.n4 p.f0 a b c d' :: r) (by omega) (by simp only [lenS, T.size]; omega) (by omega)
      simp only [treS, rootS, T.trees, T.kids, T.root, T.size] at this
      rw [← this]
      simp only [treS, T.root, lenS, List.append_assoc]
      congr 3; omega
    · rw [if_pos (by omega), spec_ruNeeds_v2 (by omega) (by omega), Option.bind_some, e, Option.bind_none]
      simp only [spec_ruTree.j1, decide_eq_true_eq, rootS_len]
      rw [if_pos (by omega)]; rfl
    · rw [if_pos (by omega), spec_ruNeeds_v4 (by omega), Option.bind_some, e, Option.bind_none]
      simp only [spec_ruTree.j1, decide_eq_true_eq, rootS_len]
      rw [if_pos (by omega)]; rfl
    · rw [if_neg (by omega), e, Option.bind_none]
      simp only [spec_ruTree.j1, if_true]; rfl
theorem spec_ruTree_v (l : List Pt) (hn : l.length ≤ 1048576) {k : Nat} (hk : 2 * l.length < k) : spec_ruTree.f k l = some (treeR (run [] l)) := by
  unfold spec_ruTree.f
  simpa [treS, rootS] using spec_ruTree_l l hn l.length 0 k [] (by omega) rfl hk
theorem spec_ruTree_t {t : T} (h : t.ok) (hn : t.size ≤ 39) {k : Nat} (hk : 100 < k) : spec_ruTree.f k t.enc = some (t.trees 0, true) := by
  rw [spec_ruTree_v _ (by rw [T.enc_len]; omega) (by rw [T.enc_len]; omega), run_t t h]
  simp [treeR, treS, lenS]
theorem spec_l1Most_v (a b : Int) : spec_l1Most.f a b = some (max a b) := by
  unfold spec_l1Most.f
  split <;> (congr 1; omega)
def T.deps : T → List Int
  | .lf _ _ => [1]
  | .n2 k a b => a.deps ++ (b.deps ++ [(T.n2 k a b).depth])
  | .n4 k a b c d => a.deps ++ (b.deps ++ (c.deps ++ (d.deps ++ [(T.n4 k a b c d).depth])))
def T.cost : T → Nat
  | .lf _ _ => 2
  | .n2 _ a b => a.cost + b.cost + 4
  | .n4 _ a b c d => a.cost + b.cost + c.cost + d.cost + 6
theorem T.cost_le : ∀ t : T, t.cost ≤ 6 * t.size := by
  intro t
  induction t with
  | lf k v => simp [T.cost, T.size]
  | n2 k a b ha hb => simp only [T.cost, T.size]; omega
  | n4 k a b c d ha hb hc hd => simp only [T.cost, T.size]; omega
theorem T.deps_len : ∀ t : T, t.deps.length = t.size := by
  intro t
  induction t with
  | lf k v => rfl
  | n2 k a b ha hb => simp [T.deps, T.size, ha, hb]; omega
  | n4 k a b c d ha hb hc hd => simp [T.deps, T.size, ha, hb, hc, hd]; omega
theorem T.deps_top (t : T) : ∃ e, t.deps = e ++ [t.depth] ∧ e.length + 1 = t.size := by
  cases t with
  | lf k v => exact ⟨[], rfl, rfl⟩
  | n2 k a b => exact ⟨a.deps ++ b.deps, by simp [T.deps], by simp [T.size, T.deps_len]⟩
  | n4 k a b c d => exact ⟨a.deps ++ b.deps ++ c.deps ++ d.deps, by simp [T.deps], by simp [T.size, T.deps_len]; omega⟩
theorem T.rd_dep (t : T) (p q : List Int) (o : Nat) (h : p.length = o) : rd (p ++ (t.deps ++ q)) (t.root o) = t.depth := by
  obtain ⟨e, he, hl⟩ := t.deps_top
  unfold rd T.root
  rw [he, show p ++ ((e ++ [t.depth]) ++ q) = (p ++ e) ++ t.depth :: q by simp]
  exact getD_mid _ _ _ _ (by simp; omega)
theorem root_in {t : T} {o n : Nat} (h : o + t.size ≤ n) : 0 ≤ t.root o ∧ t.root o < (n : Int) := by
  have := t.size_pos; unfold T.root; omega
theorem spec_ruDepths_t (R : List (List Int)) (hn : R.length ≤ 1048576) : ∀ (t : T) (o k : Nat) (x : List Int), TA R o t → x.length = o →
    spec_ruDepths.l0 (k + t.cost) x R (R.length : Int) (o : Int) = spec_ruDepths.l0 k (x ++ t.deps) R (R.length : Int) ((o + t.size : Nat) : Int) := by
  intro t
  induction t with
  | lf kk v =>
    intro o k x h hx
    have hle := h.le
    have hk := h.kids
    simp only [T.size, T.root, T.kids] at hle hk
    rw [show (o : Int) + ((1 : Nat) : Int) - 1 = (o : Int) by omega] at hk
    simp only [T.cost, T.deps, T.size]
    simp only [spec_ruDepths.l0]
    rw [if_pos (by omega), if_pos (by omega), if_pos (by omega), hk]
    simp only [spec_ruDepths.l1, List.length_nil]
    rw [if_neg (by omega), if_pos (by omega), w64_succ (by omega), W0]
  | n2 kk a b ha hb =>
    intro o k x h hx
    have hle := h.le
    have hk := h.kids
    obtain ⟨h1, h2⟩ := h.n2
    have e := ha o (k + 4 + b.cost) x h1 hx
    have e2 := hb (o + a.size) (k + 4) (x ++ a.deps) h2 (by simp [hx, T.deps_len])
    simp only [T.size] at hle
    rw [show k + (T.n2 kk a b).cost = k + 4 + b.cost + a.cost by simp only [T.cost]; omega, e, e2]
    have ri : T.root (.n2 kk a b) o = ((o + a.size + b.size : Nat) : Int) := by simp only [T.root, T.size]; omega
    rw [ri] at hk
    have s1 := a.size_pos; have s2 := b.size_pos
    have q1 := root_in (t := a) (o := o) (n := o + a.size + b.size) (by omega)
    have q2 := root_in (t := b) (o := o + a.size) (n := o + a.size + b.size) (by omega)
    have r1 := T.rd_dep a x b.deps o hx
    have r2 := T.rd_dep b (x ++ a.deps) [] (o + a.size) (by simp [hx, T.deps_len])
    have lx : (x ++ a.deps ++ b.deps).length = o + a.size + b.size := by simp [hx, T.deps_len]; omega
    rw [List.append_nil] at r2
    rw [← List.append_assoc] at r1
    generalize hy : x ++ a.deps ++ b.deps = y at *
    simp only [spec_ruDepths.l0]
    rw [if_pos (by omega), if_pos (by omega), if_pos (by omega), hk]
    simp only [T.kids]
    simp only [spec_ruDepths.l1, List.length_cons, List.length_nil]
    rw [if_pos (by omega), if_pos (by omega), if_pos (by omega), show rd [a.root o, b.root (o + a.size)] 0 = a.root o from rfl, if_pos q1.1, if_pos (by omega), spec_l1Most_v, Option.bind_some, r1]
    rw [W0, if_pos (by omega), if_pos (by omega), if_pos (by omega), show rd [a.root o, b.root (o + a.size)] 1 = b.root (o + a.size) from rfl, if_pos q2.1, if_pos (by omega), spec_l1Most_v, Option.bind_some, r2]
    have d1 := T.depth_le a; have d2 := T.depth_le b
    rw [W1, if_neg (by omega), if_pos (by omega), w64_succ (by omega), w64 (by omega) (by omega)]
    congr 1
    · rw [← hy]; simp [T.deps, T.depth]
    · simp only [T.size]; omega
  | n4 kk a b c d ha hb hc hd =>
    intro o k x h hx
    have hle := h.le
    have hk := h.kids
    obtain ⟨h1, h2, h3, h4⟩ := h.n4
    have e := ha o (k + 6 + d.cost + c.cost + b.cost) x h1 hx
    have e2 := hb (o + a.size) (k + 6 + d.cost + c.cost) (x ++ a.deps) h2 (by simp [hx, T.deps_len])
    have e3 := hc (o + a.size + b.size) (k + 6 + d.cost) (x ++ a.deps ++ b.deps) h3 (by simp [hx, T.deps_len]; omega)
    have e4 := hd (o + a.size + b.size + c.size) (k + 6) (x ++ a.deps ++ b.deps ++ c.deps) h4 (by simp [hx, T.deps_len]; omega)
    simp only [T.size] at hle
    rw [show k + (T.n4 kk a b c d).cost = k + 6 + d.cost + c.cost + b.cost + a.cost by simp only [T.cost]; omega, e, e2, e3, e4]
    have ri : T.root (.n4 kk a b c d) o = ((o + a.size + b.size + c.size + d.size : Nat) : Int) := by simp only [T.root, T.size]; omega
    rw [ri] at hk
    have s1 := a.size_pos; have s2 := b.size_pos; have s3 := c.size_pos; have s4 := d.size_pos
    have q1 := root_in (t := a) (o := o) (n := o + a.size + b.size + c.size + d.size) (by omega)
    have q2 := root_in (t := b) (o := o + a.size) (n := o + a.size + b.size + c.size + d.size) (by omega)
    have q3 := root_in (t := c) (o := o + a.size + b.size) (n := o + a.size + b.size + c.size + d.size) (by omega)
    have q4 := root_in (t := d) (o := o + a.size + b.size + c.size) (n := o + a.size + b.size + c.size + d.size) (by omega)
    have r1 := T.rd_dep a x (b.deps ++ c.deps ++ d.deps) o hx
    have r2 := T.rd_dep b (x ++ a.deps) (c.deps ++ d.deps) (o + a.size) (by simp [hx, T.deps_len])
    have r3 := T.rd_dep c (x ++ a.deps ++ b.deps) d.deps (o + a.size + b.size) (by simp [hx, T.deps_len]; omega)
    have r4 := T.rd_dep d (x ++ a.deps ++ b.deps ++ c.deps) [] (o + a.size + b.size + c.size) (by simp [hx, T.deps_len]; omega)
    have lx : (x ++ a.deps ++ b.deps ++ c.deps ++ d.deps).length = o + a.size + b.size + c.size + d.size := by simp [hx, T.deps_len]; omega
    have hy : ∃ y, x ++ a.deps ++ b.deps ++ c.deps ++ d.deps = y := ⟨_, rfl⟩
    obtain ⟨y, hy⟩ := hy
    rw [show x ++ (a.deps ++ (b.deps ++ c.deps ++ d.deps)) = y by rw [← hy]; simp] at r1
    rw [show x ++ a.deps ++ (b.deps ++ (c.deps ++ d.deps)) = y by rw [← hy]; simp] at r2
    rw [show x ++ a.deps ++ b.deps ++ (c.deps ++ d.deps) = y by rw [← hy]; simp] at r3
    rw [show x ++ a.deps ++ b.deps ++ c.deps ++ (d.deps ++ []) = y by rw [← hy]; simp] at r4
    rw [hy] at lx ⊢
    have d1 := T.depth_le a; have d2 := T.depth_le b; have d3 := T.depth_le c; have d4 := T.depth_le d
    simp only [spec_ruDepths.l0]
    rw [if_pos (by omega), if_pos (by omega), if_pos (by omega), hk]
    simp only [T.kids]
    simp only [spec_ruDepths.l1, List.length_cons, List.length_nil]
    rw [if_pos (by omega), if_pos (by omega), if_pos (by omega), show rd [a.root o, b.root (o + a.size), c.root (o + a.size + b.size), d.root (o + a.size + b.size + c.size)] 0 = a.root o from rfl, if_pos q1.1, if_pos (by omega), spec_l1Most_v, Option.bind_some, r1]
    rw [W0, if_pos (by omega), if_pos (by omega), if_pos (by omega), show rd [a.root o, b.root (o + a.size), c.root (o + a.size + b.size), d.root (o + a.size + b.size + c.size)] 1 = b.root (o + a.size) from rfl, if_pos q2.1, if_pos (by omega), spec_l1Most_v, Option.bind_some, r2]
    rw [W1, if_pos (by omega), if_pos (by omega), if_pos (by omega), show rd [a.root o, b.root (o + a.size), c.root (o + a.size + b.size), d.root (o + a.size + b.size + c.size)] 2 = c.root (o + a.size + b.size) from rfl, if_pos q3.1, if_pos (by omega), spec_l1Most_v, Option.bind_some, r3]
    rw [W2, if_pos (by omega), if_pos (by omega), if_pos (by omega), show rd [a.root o, b.root (o + a.size), c.root (o + a.size + b.size), d.root (o + a.size + b.size + c.size)] 3 = d.root (o + a.size + b.size + c.size) from rfl, if_pos q4.1, if_pos (by omega), spec_l1Most_v, Option.bind_some, r4]
    rw [W3, if_neg (by omega), if_pos (by omega), w64_succ (by omega), w64 (by omega) (by omega)]
    congr 1
    · rw [← hy]; simp [T.deps, T.depth]
    · simp only [T.size]; omega
theorem spec_ruDepths_v {t : T} (hn : t.size ≤ 39) {k : Nat} (hk : 300 < k) : spec_ruDepths.f k (t.trees 0) = some t.deps := by
  unfold spec_ruDepths.f
  have := t.cost_le
  have e := spec_ruDepths_t (t.trees 0) (by rw [T.trees_len]; omega) t 0 (k - t.cost) [] (TA.self t) rfl
  rw [show k - t.cost + t.cost = k by omega] at e
  rw [show (0 : Int) = ((0 : Nat) : Int) from rfl, e]
  obtain ⟨j, hj⟩ : ∃ j, k - t.cost = j + 1 := ⟨k - t.cost - 1, by omega⟩
  rw [hj]
  simp only [spec_ruDepths.l0, T.trees_len]
  rw [if_neg (by omega)]; rfl
theorem deps_last {t : T} : rd t.deps ((t.size : Int) - 1) = t.depth := by
  have := T.rd_dep t [] [] 0 rfl
  simpa [T.root] using this
theorem spec_ruGood_v (l : List Pt) (hn : l.length ≤ 1048576) {k : Nat} (hk : 300 < k) : spec_ruGood.f k l = some (goodT l).isSome := by
  unfold spec_ruGood.f goodT
  rw [spec_l1In_v, Option.bind_some]
  by_cases h : 1 ≤ l.length ∧ l.length ≤ 39
  · rw [if_pos (by simp; omega), if_pos h, spec_ruTree_v l (by omega) (by omega), Option.bind_some]
    cases hr : run [] l with
    | none => rfl
    | some ts =>
      obtain ⟨e, o⟩ := run_enc l [] ts hr (fun t ht => by simp at ht)
      match ts with
      | [] => simp [encS] at e; subst e; simp at h
      | [t] =>
        simp only [encS, List.nil_append] at e
        have hz : t.size = l.length := by rw [← e, T.enc_len]
        have hp := t.size_pos
        have hT : treeR (some [t]) = (t.trees 0, true) := by simp [treeR, treS, lenS]
        rw [hT]
        simp only [if_true]
        rw [spec_ruDepths_v (by omega) hk, Option.bind_some, w64 (by omega) (by omega), if_pos (by omega), if_pos (by rw [T.deps_len]; omega), ← hz, deps_last]
        by_cases hd : t.depth ≤ 12
        · simp [hd]
        · simp [hd]
      | a :: b :: r => simp [treeR]
  · rw [if_neg (by simp; omega), if_neg h]; rfl
theorem impl_needsOf_v0 {a : Int} (h : a = 0 ∨ a = 1) {k : Nat} (hk : 2 ≤ k) : impl_needsOf.f k a = some 0 := by
  obtain ⟨k, rfl⟩ : ∃ m, k = m + 2 := ⟨k - 2, by omega⟩
  rcases h with rfl | rfl <;> simp [impl_needsOf.f, impl_needsOf.j0]
theorem impl_needsOf_v2 {a : Int} (h : 2 ≤ a) (h' : a ≤ 5) {k : Nat} (hk : 2 ≤ k) : impl_needsOf.f k a = some 2 := by
  obtain ⟨k, rfl⟩ : ∃ m, k = m + 2 := ⟨k - 2, by omega⟩
  have h1 : ¬ a = 0 := by omega
  have h2 : ¬ a = 1 := by omega
  simp [impl_needsOf.f, impl_needsOf.j0, impl_needsOf.j1, h, h', h1, h2]
theorem impl_needsOf_v4 {a : Int} (h : 6 ≤ a) (h' : a ≤ 8) {k : Nat} (hk : 2 ≤ k) : impl_needsOf.f k a = some 4 := by
  obtain ⟨k, rfl⟩ : ∃ m, k = m + 2 := ⟨k - 2, by omega⟩
  have h1 : ¬ a = 0 := by omega
  have h2 : ¬ a = 1 := by omega
  have h3 : ¬ a ≤ 5 := by omega
  have h4 : 2 ≤ a := by omega
  simp [impl_needsOf.f, impl_needsOf.j0, impl_needsOf.j1, h, h', h1, h2, h3, h4]
theorem impl_needsOf_vx {a : Int} (h : a < 0 ∨ 8 < a) {k : Nat} (hk : 2 ≤ k) : impl_needsOf.f k a = some (-1) := by
  obtain ⟨k, rfl⟩ : ∃ m, k = m + 2 := ⟨k - 2, by omega⟩
  have h1 : ¬ a = 0 := by omega
  have h2 : ¬ a = 1 := by omega
  unfold impl_needsOf.f
  rw [if_neg h1]
  simp only [impl_needsOf.j0, impl_needsOf.j1]
  rw [if_neg (by simp [h2])]
  by_cases h3 : a ≥ 2
  · rw [if_pos h3, if_neg (by simp; omega), if_pos (by omega), if_neg (by omega)]
  · rw [if_neg h3]; simp; omega
def depR (o : Option (List T)) : Int × Bool := match o with | none => (0, false) | some ts => (rd (depS ts) 0, ts.length == 1)
theorem stp_ex {l : List Pt} {i : Nat} (h : i < l.length) : l.drop i = rd_T33 l (i : Int) :: l.drop (i + 1) := by
  have hp : rd_T33 l (i : Int) = l.getD i z33 := by unfold rd_T33; rw [Int.toNat_natCast]
  rw [hp, List.drop_eq_getElem_cons (by omega), List.getD_eq_getElem?_getD, List.getElem?_eq_getElem (by omega)]; rfl
theorem mx_max (a b : Int) : mx a b = max a b := by unfold mx; split <;> omega
theorem depS_bd : ∀ ts : List T, ∀ x ∈ depS ts, x ≤ (lenS ts : Int)
  | [], x, h => by simp [depS] at h
  | t :: ts, x, h => by
    simp only [depS, List.mem_append, List.mem_singleton] at h
    simp only [lenS]
    rcases h with h | rfl
    · have := depS_bd ts x h; omega
    · have := t.depth_le; omega
theorem impl_ruleDepth_s0 (l : List Pt) (n : Int) (i k : Nat) (ts : List T) (v w : Int) (hl : lenS ts = i) (hi : i ≤ 39) :
    impl_ruleDepth.j2 (k + 7) (depS ts) 0 l n (i : Int) false = impl_ruleDepth.l0 (k + 5) (depS (.lf v w :: ts)) l n ((i + 1 : Nat) : Int) := by
  have hle := len_le_lenS ts
  simp only [impl_ruleDepth.j2, depS_len]
  rw [if_neg (by simp), w64 (by omega) (by omega), if_pos (by omega), if_pos (by omega), show ((ts.length : Int) - 0).toNat = ts.length by omega, List.drop_eq_nil_of_le (by rw [depS_len]; omega)]
  rw [Option.bind_some, impl_ruleDepth.l1, if_neg (by simp), depS_len, w64 (by omega) (by omega), if_pos (by omega), if_pos (by omega), show ((ts.length : Int) - 0).toNat = ts.length by omega, List.take_of_length_le (by rw [depS_len]; omega), Option.bind_some, depS_len, if_pos (by omega), w64_succ (by omega), W0]
  simp only [depS, T.depth]
theorem impl_ruleDepth_s2 (l : List Pt) (n : Int) (i k : Nat) (a b : T) (r : List T) (v : Int) (hl : lenS (b :: a :: r) = i) (hi : i ≤ 39) :
    impl_ruleDepth.j2 (k + 7) (depS (b :: a :: r)) 2 l n (i : Int) false = impl_ruleDepth.l0 (k + 3) (depS (.n2 v a b :: r)) l n ((i + 1 : Nat) : Int) := by
  simp only [lenS] at hl
  have s1 := a.size_pos; have s2 := b.size_pos; have sr := len_le_lenS r
  have d1 := a.depth_le; have d2 := b.depth_le
  have p1 := a.depth_pos; have p2 := b.depth_pos
  have e : depS (b :: a :: r) = depS r ++ [a.depth, b.depth] := by simp [depS]
  have e2 : depS (.n2 v a b :: r) = depS r ++ [max (max 0 a.depth) b.depth + 1] := by simp [depS, T.depth]
  have lr := depS_len r
  rw [e, e2]
  generalize depS r = q at *
  have hq : (q ++ [a.depth, b.depth]).length = q.length + 2 := by simp
  simp only [impl_ruleDepth.j2, hq]
  rw [if_neg (by simp), w64 (by omega) (by omega), if_pos (by omega), if_pos (by omega), show (((q.length + 2 : Nat) : Int) - 2).toNat = q.length by omega, List.drop_left, Option.bind_some]
  simp only [impl_ruleDepth.l1, List.length_cons, List.length_nil, hq]
  rw [if_pos (by omega), if_pos (by omega), if_pos (by omega), W0, if_pos (by omega), if_pos (by omega), if_pos (by omega), W1, if_neg (by omega)]
  rw [w64 (by omega) (by omega), if_pos (by omega), if_pos (by omega), show (((q.length + 2 : Nat) : Int) - 2).toNat = q.length by omega, List.take_left, Option.bind_some, if_pos (by omega), w64_succ (by omega)]
  rw [mx_max, mx_max, show rd [a.depth, b.depth] 0 = a.depth from rfl, show rd [a.depth, b.depth] 1 = b.depth from rfl, w64 (by omega) (by omega)]
theorem impl_ruleDepth_s4 (l : List Pt) (n : Int) (i k : Nat) (a b c d : T) (r : List T) (v : Int) (hl : lenS (d :: c :: b :: a :: r) = i) (hi : i ≤ 39) :
    impl_ruleDepth.j2 (k + 7) (depS (d :: c :: b :: a :: r)) 4 l n (i : Int) false = impl_ruleDepth.l0 (k + 1) (depS (.n4 v a b c d :: r)) l n ((i + 1 : Nat) : Int) := by
  simp only [lenS] at hl
  have s1 := a.size_pos; have s2 := b.size_pos; have s3 := c.size_pos; have s4 := d.size_pos; have sr := len_le_lenS r
  have d1 := a.depth_le; have d2 := b.depth_le; have d3 := c.depth_le; have d4 := d.depth_le
  have p1 := a.depth_pos; have p2 := b.depth_pos
  have e : depS (d :: c :: b :: a :: r) = depS r ++ [a.depth, b.depth, c.depth, d.depth] := by simp [depS]
  have e2 : depS (.n4 v a b c d :: r) = depS r ++ [max (max (max (max 0 a.depth) b.depth) c.depth) d.depth + 1] := by simp [depS, T.depth]
  have lr := depS_len r
  rw [e, e2]
  generalize depS r = q at *
  have hq : (q ++ [a.depth, b.depth, c.depth, d.depth]).length = q.length + 4 := by simp
  simp only [impl_ruleDepth.j2, hq]
  rw [if_neg (by simp), w64 (by omega) (by omega), if_pos (by omega), if_pos (by omega), show (((q.length + 4 : Nat) : Int) - 4).toNat = q.length by omega, List.drop_left, Option.bind_some]
  simp only [impl_ruleDepth.l1, List.length_cons, List.length_nil, hq]
  rw [if_pos (by omega), if_pos (by omega), if_pos (by omega), W0, if_pos (by omega), if_pos (by omega), if_pos (by omega), W1, if_pos (by omega), if_pos (by omega), if_pos (by omega), W2, if_pos (by omega), if_pos (by omega), if_pos (by omega), W3, if_neg (by omega)]
  rw [w64 (by omega) (by omega), if_pos (by omega), if_pos (by omega), show (((q.length + 4 : Nat) : Int) - 4).toNat = q.length by omega, List.take_left, Option.bind_some, if_pos (by omega), w64_succ (by omega)]
  rw [mx_max, mx_max, mx_max, mx_max, show rd [a.depth, b.depth, c.depth, d.depth] 0 = a.depth from rfl, show rd [a.depth, b.depth, c.depth, d.depth] 1 = b.depth from rfl, show rd [a.depth, b.depth, c.depth, d.depth] 2 = c.depth from rfl, show rd [a.depth, b.depth, c.depth, d.depth] 3 = d.depth from rfl, w64 (by omega) (by omega)]
theorem impl_ruleDepth_l (l : List Pt) (hn : l.length ≤ 39) (hn1 : 1 ≤ l.length) : ∀ (d i k : Nat) (ts : List T), i + d = l.length → lenS ts = i → 8 * d + 10 < k →
    impl_ruleDepth.l0 k (depS ts) l (l.length : Int) (i : Int) = some (depR (run ts (l.drop i))) := by
  intro d
  induction d with
  | zero =>
    intro i k ts hi hl hk
    obtain ⟨k, rfl⟩ := k_succ (by omega : 0 < k)
    simp only [impl_ruleDepth.l0]
    have : ts ≠ [] := by rintro rfl; simp [lenS] at hl; omega
    have := List.length_pos_iff.mpr this
    rw [if_neg (by omega), List.drop_eq_nil_of_le (by omega), depS_len, if_pos (by omega)]
    simp only [run, depR]
    congr 2
    rw [Bool.eq_iff_iff]; simp; omega
  | succ d ih =>
    intro i k ts hi hl hk
    obtain ⟨k, rfl⟩ : ∃ m, k = m + 8 := ⟨k - 8, by omega⟩
    have hle := len_le_lenS ts
    simp only [impl_ruleDepth.l0]
    rw [if_pos (by omega), if_pos (by omega), if_pos (by omega), stp_ex (by omega : i < l.length)]
    generalize rd_T33 l (i : Int) = p
    simp only [run, depS_len]
    rcases stp_cases ts p with ⟨h1, e⟩ | ⟨h1, h2, h3, a, b, r, rfl, e⟩ | ⟨h1, h2, h3, a, b, c, d', r, rfl, e⟩ | ⟨h1, h2, h3, h4, e⟩ | ⟨h1, h2, h3, h4, e⟩ | ⟨h1, h2, e⟩
    · rw [impl_needsOf_v0 (by omega) (by omega), Option.bind_some, e, Option.bind_some, if_neg (by omega), if_neg (by omega), if_neg (by omega), if_neg (by omega)]
      have key : impl_ruleDepth.j2 (k + 7) (depS ts) 0 l (l.length : Int) (i : Int) false = some (depR (run (.lf p.f0 p.f1 :: ts) (l.drop (i + 1)))) := by
        rw [impl_ruleDepth_s0 l _ i k ts p.f0 p.f1 hl (by omega)]
        exact ih (i + 1) (k + 5) (.lf p.f0 p.f1 :: ts) (by omega) (by simp only [lenS, T.size]; omega) (by omega)
      rcases h1 with h1 | h1
      · rw [if_pos h1.1, if_neg (by omega), if_neg (by omega)]; exact key
      · rw [if_neg (by omega), if_pos h1.1, decide_eq_false (by omega)]; exact key
    · rw [impl_needsOf_v2 h1 h2 (by omega), Option.bind_some, e, Option.bind_some]
      simp only [List.length_cons] at hle ⊢
      simp only [lenS] at hl
      have s1 := a.size_pos; have s2 := b.size_pos; have sr := len_le_lenS r
      have p1 := a.depth_pos; have p2 := b.depth_pos
      rw [if_neg (by omega), if_neg (by omega), if_neg (by omega), if_pos (by omega), if_pos h3, if_neg (by omega), if_neg (by omega)]
      rw [impl_ruleDepth_s2 l _ i k a b r p.f0 (by simp only [lenS]; omega) (by omega)]
      exact ih (i + 1) (k + 3) (.n2 p.f0 a b :: r) (by omega) (by simp only [lenS, T.size]; omega) (by omega)
    · rw [impl_needsOf_v4 h1 h2 (by omega), Option.bind_some, e, Option.bind_some]
      simp only [List.length_cons] at hle ⊢
      simp only [lenS] at hl
      have s1 := a.size_pos; have s2 := b.size_pos; have s3 := c.size_pos; have s4 := d'.size_pos; have sr := len_le_lenS r
      have p1 := a.depth_pos; have p2 := b.depth_pos
      rw [if_neg (by omega), if_neg (by omega), if_neg (by omega), if_pos (by omega), if_pos h3, if_neg (by omega), if_neg (by omega)]
      rw [impl_ruleDepth_s4 l _ i k a b c d' r p.f0 (by simp only [lenS]; omega) (by omega)]
      exact ih (i + 1) (k + 1) (.n4 p.f0 a b c d' :: r) (by omega) (by simp only [lenS, T.size]; omega) (by omega)
    · rw [impl_needsOf_v2 h1 h2 (by omega), Option.bind_some, e, Option.bind_none, if_neg (by omega), if_pos (by omega)]
      simp only [impl_ruleDepth.j2, if_true]; rfl
    · rw [impl_needsOf_v4 h1 h2 (by omega), Option.bind_some, e, Option.bind_none, if_neg (by omega), if_pos (by omega)]
      simp only [impl_ruleDepth.j2, if_true]; rfl
    · rw [e, Option.bind_none]
      have hT : ∀ n, impl_ruleDepth.j2 (k + 7) (depS ts) n l (l.length : Int) (i : Int) true = some (depR none) := fun n => by simp only [impl_ruleDepth.j2, if_true]; rfl
      by_cases hb : p.f0 < 0 ∨ 8 < p.f0
      · rw [impl_needsOf_vx hb (by omega), Option.bind_some, if_pos (by omega)]; exact hT _
      · by_cases hv : p.f1 < 0
        · by_cases h0 : p.f0 = 0 ∨ p.f0 = 1
          · rw [impl_needsOf_v0 h0 (by omega), Option.bind_some, if_neg (by omega), if_neg (by omega), if_pos hv]; exact hT _
          · by_cases h2' : p.f0 ≤ 5
            · rw [impl_needsOf_v2 (by omega) h2' (by omega), Option.bind_some, if_neg (by omega)]
              by_cases q : (2 : Int) > (ts.length : Int)
              · rw [if_pos q]; exact hT _
              · rw [if_neg q, if_pos hv]; exact hT _
            · rw [impl_needsOf_v4 (by omega) (by omega) (by omega), Option.bind_some, if_neg (by omega)]
              by_cases q : (4 : Int) > (ts.length : Int)
              · rw [if_pos q]; exact hT _
              · rw [if_neg q, if_pos hv]; exact hT _
        · by_cases h0 : p.f0 = 0
          · rw [impl_needsOf_v0 (.inl h0) (by omega), Option.bind_some, if_neg (by omega), if_neg (by omega), if_neg hv, if_neg (by omega), if_pos h0, if_pos (by omega)]; exact hT _
          · by_cases h1' : p.f0 = 1
            · rw [impl_needsOf_v0 (.inr h1') (by omega), Option.bind_some, if_neg (by omega), if_neg (by omega), if_neg hv, if_neg (by omega), if_neg h0, if_pos h1', decide_eq_true (by omega)]; exact hT _
            · by_cases h2' : p.f0 ≤ 5
              · rw [impl_needsOf_v2 (by omega) h2' (by omega), Option.bind_some, if_neg (by omega)]
                by_cases q : (2 : Int) > (ts.length : Int)
                · rw [if_pos q]; exact hT _
                · rw [if_neg q, if_neg hv, if_pos (by omega), if_neg (by omega)]; exact hT _
              · rw [impl_needsOf_v4 (by omega) (by omega) (by omega), Option.bind_some, if_neg (by omega)]
                by_cases q : (4 : Int) > (ts.length : Int)
                · rw [if_pos q]; exact hT _
                · rw [if_neg q, if_neg hv, if_pos (by omega), if_neg (by omega)]; exact hT _
theorem impl_ruleDepth_v (l : List Pt) (hn : 1 ≤ l.length ∧ l.length ≤ 39) {k : Nat} (hk : 400 < k) : impl_ruleDepth.f k l = some (depR (run [] l)) := by
  obtain ⟨k, rfl⟩ := k_succ (by omega : 0 < k)
  unfold impl_ruleDepth.f
  rw [if_neg (by omega), decide_eq_false (by omega)]
  simp only [impl_ruleDepth.j0]
  rw [if_neg (by simp)]
  simpa [depS] using impl_ruleDepth_l l hn.2 hn.1 l.length 0 k [] (by omega) rfl (by omega)
theorem impl_isRule_v (l : List Pt) (hn : l.length ≤ 9223372036854775807) {k : Nat} (hk : 400 < k) : impl_isRule.f k l = some (goodT l).isSome := by
  unfold impl_isRule.f goodT
  by_cases h : 1 ≤ l.length ∧ l.length ≤ 39
  · rw [impl_ruleDepth_v l h hk, Option.bind_some, if_pos h]
    cases hr : run [] l with
    | none => rfl
    | some ts =>
      match ts with
      | [] => obtain ⟨e, o⟩ := run_enc l [] [] hr (fun t ht => by simp at ht); simp [encS] at e; subst e; simp at h
      | [t] =>
        have hD : depR (some [t]) = (t.depth, true) := rfl
        rw [hD]
        simp only [if_true]
        by_cases hd : t.depth ≤ 12 <;> simp [hd]
      | a :: b :: r => simp [depR]
  · obtain ⟨k, rfl⟩ := k_succ (by omega : 0 < k)
    rw [if_neg h]
    unfold impl_ruleDepth.f
    by_cases h1 : (l.length : Int) < 1
    · rw [if_pos h1]; simp [impl_ruleDepth.j0]
    · rw [if_neg h1, decide_eq_true (by omega)]; simp [impl_ruleDepth.j0]
theorem T.needs_v {t : T} (h : t.ok) {k : Nat} (hk : 2 ≤ k) : impl_needsOf.f k t.top.f0 = some (match t with | .lf _ _ => 0 | .n2 _ _ _ => 2 | .n4 _ _ _ _ _ => 4) := by
  cases t with
  | lf a v => simp only [T.ok] at h; exact impl_needsOf_v0 (by simp only [T.top]; omega) hk
  | n2 a _ _ => obtain ⟨h1, h2, _⟩ := h; exact impl_needsOf_v2 h1 h2 hk
  | n4 a _ _ _ _ => obtain ⟨h1, h2, _⟩ := h; exact impl_needsOf_v4 h1 h2 hk
theorem impl_partSize_v {L : List Pt} (hn : L.length ≤ 1048576) : ∀ (t : T), t.ok → ∀ (o k : Nat), At L o t → 12 * t.size < k → impl_partSize.f k L (t.root o) = some (t.size : Int) := by
  intro t
  induction t with
  | lf a v =>
    intro ho o k h hk
    have hr := root_in h.le
    simp only [T.size] at hk
    have hnd := T.needs_v ho (k := k - 1) (by omega)
    obtain ⟨k, rfl⟩ : ∃ m, k = m + 8 := ⟨k - 8, by omega⟩
    simp only [impl_partSize.f]
    rw [show k + 8 - 1 = k + 7 by omega] at hnd
    rw [if_pos hr.1, if_pos hr.2, h.top, hnd, Option.bind_some]
    simp only [impl_partSize.l0]
    rw [if_neg (by omega)]; rfl
  | n2 a x y hx hy =>
    intro ho o k h hk
    have hr := root_in h.le
    have htop := h.top
    have hle := h.le
    have ho' := ho
    obtain ⟨_, _, ox, oy⟩ := ho
    obtain ⟨h1, h2⟩ := h.n2
    simp only [T.size] at hk hle
    have hnd := T.needs_v ho' (k := k - 1) (by omega)
    have sx := x.size_pos; have sy := y.size_pos
    obtain ⟨k, rfl⟩ : ∃ m, k = m + 8 := ⟨k - 8, by omega⟩
    rw [show k + 8 - 1 = k + 7 by omega] at hnd
    have ey : T.root (.n2 a x y) o - 1 = y.root (o + x.size) := by simp only [T.root, T.size]; omega
    have ex : T.root (.n2 a x y) o - (1 + (y.size : Int)) = x.root o := by simp only [T.root, T.size]; omega
    have b1 : T.root (.n2 a x y) o ≤ 1048576 := by omega
    simp only [impl_partSize.f]
    rw [if_pos hr.1, if_pos hr.2, htop, hnd, Option.bind_some]
    simp only [impl_partSize.l0]
    rw [if_pos (by omega), w64 (by omega) (by omega) (x := T.root (.n2 a x y) o - 1), ey, hy oy _ (k + 6) h2 (by omega), Option.bind_some, w64 (by omega) (by omega) (x := 1 + (y.size : Int)), show wrap64 (2 - 1) = 1 from w64 (by decide) (by decide), if_pos (by omega), w64 (by omega) (by omega) (x := T.root (.n2 a x y) o - (1 + (y.size : Int))), ex, hx ox _ (k + 5) h1 (by omega), Option.bind_some, show wrap64 (1 - 1) = 0 from w64 (by decide) (by decide), if_neg (by omega), w64 (by omega) (by omega)]
    simp only [T.size]; congr 1; omega
  | n4 a x y z u hx hy hz hu =>
    intro ho o k h hk
    have hr := root_in h.le
    have htop := h.top
    have hle := h.le
    have ho' := ho
    obtain ⟨_, _, ox, oy, oz, ou⟩ := ho
    obtain ⟨h1, h2, h3, h4⟩ := h.n4
    simp only [T.size] at hk hle
    have hnd := T.needs_v ho' (k := k - 1) (by omega)
    have sx := x.size_pos; have sy := y.size_pos; have sz := z.size_pos; have su := u.size_pos
    obtain ⟨k, rfl⟩ : ∃ m, k = m + 8 := ⟨k - 8, by omega⟩
    rw [show k + 8 - 1 = k + 7 by omega] at hnd
    have eu : T.root (.n4 a x y z u) o - 1 = u.root (o + x.size + y.size + z.size) := by simp only [T.root, T.size]; omega
    have ez : T.root (.n4 a x y z u) o - (1 + (u.size : Int)) = z.root (o + x.size + y.size) := by simp only [T.root, T.size]; omega
    have ey : T.root (.n4 a x y z u) o - (1 + (u.size : Int) + (z.size : Int)) = y.root (o + x.size) := by simp only [T.root, T.size]; omega
    have ex : T.root (.n4 a x y z u) o - (1 + (u.size : Int) + (z.size : Int) + (y.size : Int)) = x.root o := by simp only [T.root, T.size]; omega
    have b1 : T.root (.n4 a x y z u) o ≤ 1048576 := by omega
    simp only [impl_partSize.f]
    rw [if_pos hr.1, if_pos hr.2, htop, hnd, Option.bind_some]
    simp only [impl_partSize.l0]
    rw [if_pos (by omega), w64 (by omega) (by omega) (x := T.root (.n4 a x y z u) o - 1), eu, hu ou _ (k + 6) h4 (by omega), Option.bind_some, w64 (by omega) (by omega) (x := 1 + (u.size : Int)), show wrap64 (4 - 1) = 3 from w64 (by decide) (by decide)]
    rw [if_pos (by omega), w64 (by omega) (by omega) (x := T.root (.n4 a x y z u) o - (1 + (u.size : Int))), ez, hz oz _ (k + 5) h3 (by omega), Option.bind_some, w64 (by omega) (by omega) (x := 1 + (u.size : Int) + (z.size : Int)), show wrap64 (3 - 1) = 2 from w64 (by decide) (by decide)]
    rw [if_pos (by omega), w64 (by omega) (by omega) (x := T.root (.n4 a x y z u) o - (1 + (u.size : Int) + (z.size : Int))), ey, hy oy _ (k + 4) h2 (by omega), Option.bind_some, w64 (by omega) (by omega) (x := 1 + (u.size : Int) + (z.size : Int) + (y.size : Int)), show wrap64 (2 - 1) = 1 from w64 (by decide) (by decide)]
    rw [if_pos (by omega), w64 (by omega) (by omega) (x := T.root (.n4 a x y z u) o - (1 + (u.size : Int) + (z.size : Int) + (y.size : Int))), ex, hx ox _ (k + 3) h1 (by omega), Option.bind_some, show wrap64 (1 - 1) = 0 from w64 (by decide) (by decide)]
    rw [if_neg (by omega), w64 (by omega) (by omega)]
    simp only [T.size]; congr 1; omega
theorem set0_2 (a b : Int) : ([a, b] : List Int).set ((1 : Int)).toNat b = [a, b] := rfl
theorem impl_partNeeds_v {L : List Pt} (hn : L.length ≤ 1048576) (t : T) (ho : t.ok) (o k : Nat) (h : At L o t) (hk : 12 * t.size + 8 < k) : impl_partNeeds.f k L (t.root o) = some (t.kids o) := by
  have hr := root_in h.le
  have hle := h.le
  have hnd := T.needs_v ho (k := k) (by omega)
  obtain ⟨k, rfl⟩ : ∃ m, k = m + 8 := ⟨k - 8, by omega⟩
  unfold impl_partNeeds.f
  rw [if_pos hr.1, if_pos hr.2, h.top, hnd, Option.bind_some]
  cases t with
  | lf a v =>
    dsimp only
    rw [if_pos (by omega), if_pos (by decide), Option.bind_some]
    show impl_partNeeds.l0 (k + 8) L [] _ (wrap64 (((([] : List Int).length : Nat) : Int) - 1)) = _
    simp only [List.length_nil]
    rw [w64 (by omega) (by omega) (x := ((0 : Nat) : Int) - 1)]
    simp only [impl_partNeeds.l0]
    rw [if_neg (by omega)]; rfl
  | n2 a x y =>
    dsimp only
    obtain ⟨_, _, ox, oy⟩ := ho
    obtain ⟨h1, h2⟩ := h.n2
    simp only [T.size] at hk hle
    have sx := x.size_pos; have sy := y.size_pos
    have ey : T.root (.n2 a x y) o - 1 = y.root (o + x.size) := by simp only [T.root, T.size]; omega
    have ex : y.root (o + x.size) - (y.size : Int) = x.root o := by simp only [T.root]; omega
    have ry := root_in h2.le
    have rx := root_in h1.le
    rw [if_pos (by omega), if_pos (by decide), Option.bind_some]
    show impl_partNeeds.l0 (k + 8) L [0, 0] _ (wrap64 (((([0, 0] : List Int).length : Nat) : Int) - 1)) = _
    rw [show wrap64 (((([0, 0] : List Int).length : Nat) : Int) - 1) = 1 from w64 (by decide) (by decide), w64 (by omega) (by omega) (x := T.root (.n2 a x y) o - 1), ey]
    simp only [impl_partNeeds.l0]
    rw [if_pos (by omega), if_pos (by omega), if_pos (by simp), impl_partSize_v hn y oy _ _ h2 (by omega), Option.bind_some, w64 (by omega) (by omega) (x := y.root (o + x.size) - (y.size : Int)), ex, show wrap64 (1 - 1) = 0 from w64 (by decide) (by decide)]
    rw [if_pos (by omega), if_pos (by omega), if_pos (by simp), impl_partSize_v hn x ox _ _ h1 (by omega), Option.bind_some, show wrap64 (0 - 1) = -1 from w64 (by decide) (by decide)]
    rw [if_neg (by omega)]
    rfl
  | n4 a x y z u =>
    dsimp only
    obtain ⟨_, _, ox, oy, oz, ou⟩ := ho
    obtain ⟨h1, h2, h3, h4⟩ := h.n4
    simp only [T.size] at hk hle
    have sx := x.size_pos; have sy := y.size_pos; have sz := z.size_pos; have su := u.size_pos
    have eu : T.root (.n4 a x y z u) o - 1 = u.root (o + x.size + y.size + z.size) := by simp only [T.root, T.size]; omega
    have ez : u.root (o + x.size + y.size + z.size) - (u.size : Int) = z.root (o + x.size + y.size) := by simp only [T.root]; omega
    have ey : z.root (o + x.size + y.size) - (z.size : Int) = y.root (o + x.size) := by simp only [T.root]; omega
    have ex : y.root (o + x.size) - (y.size : Int) = x.root o := by simp only [T.root]; omega
    have ru := root_in h4.le
    have rz := root_in h3.le
    have ry := root_in h2.le
    have rx := root_in h1.le
    rw [if_pos (by omega), if_pos (by decide), Option.bind_some]
    show impl_partNeeds.l0 (k + 8) L [0, 0, 0, 0] _ (wrap64 (((([0, 0, 0, 0] : List Int).length : Nat) : Int) - 1)) = _
    rw [show wrap64 (((([0, 0, 0, 0] : List Int).length : Nat) : Int) - 1) = 3 from w64 (by decide) (by decide), w64 (by omega) (by omega) (x := T.root (.n4 a x y z u) o - 1), eu]
    simp only [impl_partNeeds.l0]
    rw [if_pos (by omega), if_pos (by omega), if_pos (by simp), impl_partSize_v hn u ou _ _ h4 (by omega), Option.bind_some, w64 (by omega) (by omega) (x := u.root (o + x.size + y.size + z.size) - (u.size : Int)), ez, show wrap64 (3 - 1) = 2 from w64 (by decide) (by decide)]
    rw [if_pos (by omega), if_pos (by omega), if_pos (by simp), impl_partSize_v hn z oz _ _ h3 (by omega), Option.bind_some, w64 (by omega) (by omega) (x := z.root (o + x.size + y.size) - (z.size : Int)), ey, show wrap64 (2 - 1) = 1 from w64 (by decide) (by decide)]
    rw [if_pos (by omega), if_pos (by omega), if_pos (by simp), impl_partSize_v hn y oy _ _ h2 (by omega), Option.bind_some, w64 (by omega) (by omega) (x := y.root (o + x.size) - (y.size : Int)), ex, show wrap64 (1 - 1) = 0 from w64 (by decide) (by decide)]
    rw [if_pos (by omega), if_pos (by omega), if_pos (by simp), impl_partSize_v hn x ox _ _ h1 (by omega), Option.bind_some, show wrap64 (0 - 1) = -1 from w64 (by decide) (by decide)]
    rw [if_neg (by omega)]
    rfl
theorem spec_l1Num_d {v : Int} (h0 : 0 ≤ v) (h1 : v < 10) (k : Nat) : spec_l1Num.f (k + 1) v = some (strOfNums [48 + v]) := by
  rw [spec_l1Num.f, if_pos h1, w64 (by omega) (by omega), show (48 + v) % 256 = 48 + v by omega]
theorem digit_size {v : Int} (h0 : 0 ≤ v) (h1 : v < 10) : (strOfNums [48 + v]).size = 1 := by
  have : v = 0 ∨ v = 1 ∨ v = 2 ∨ v = 3 ∨ v = 4 ∨ v = 5 ∨ v = 6 ∨ v = 7 ∨ v = 8 ∨ v = 9 := by omega
  rcases this with rfl | rfl | rfl | rfl | rfl | rfl | rfl | rfl | rfl | rfl <;> rfl
theorem strconv_Itoa_d {v : Int} (h0 : 0 ≤ v) (h1 : v < 10) : strconv_Itoa.f v = some (strOfNums [48 + v]) := by
  have : v = 0 ∨ v = 1 ∨ v = 2 ∨ v = 3 ∨ v = 4 ∨ v = 5 ∨ v = 6 ∨ v = 7 ∨ v = 8 ∨ v = 9 := by omega
  rcases this with rfl | rfl | rfl | rfl | rfl | rfl | rfl | rfl | rfl | rfl <;> (rw [strconv_Itoa.f, if_pos (by decide), if_pos (by decide)]; congr 1; kernel_rfl)
def numV (n : Int) : ByteArray := ⟨(Lib.decDigits n.toNat).toArray⟩
theorem decDigits_lt {u : Nat} (h : u < 10) : Lib.decDigits u = [UInt8.ofNat (48 + u)] := by rw [Lib.decDigits, dif_pos h]
theorem decDigits_ge {u : Nat} (h : 10 ≤ u) : Lib.decDigits u = Lib.decDigits (u / 10) ++ [UInt8.ofNat (48 + u % 10)] := by rw [Lib.decDigits, dif_neg (by omega)]
theorem numV_lt {v : Int} (h0 : 0 ≤ v) (h : v < 10) : numV v = strOfNums [48 + v] := by
  unfold numV strOfNums
  rw [decDigits_lt (by omega)]
  congr 3
  simp only [List.map_cons, List.map_nil]
  congr 2
  omega
theorem numV_ge {v : Int} (h : 10 ≤ v) : numV v = numV (v / 10) ++ strOfNums [48 + v % 10] := by
  unfold numV strOfNums
  rw [decDigits_ge (by omega)]
  apply ByteArray.ext
  simp only [ByteArray.data_append, List.map_cons, List.map_nil]
  rw [show (v / 10).toNat = v.toNat / 10 by omega, show (48 + v % 10).toNat = 48 + v.toNat % 10 by omega]
  simp
theorem numV_size {v : Int} (d : Nat) : 0 ≤ v → v < 10 ^ (d + 1) → (numV v).size ≤ d + 1 := by
  induction d generalizing v with
  | zero => intro h0 h; rw [numV_lt h0 (by simpa using h)]; exact Nat.le_refl _
  | succ d ih =>
    intro h0 h
    by_cases c : v < 10
    · rw [numV_lt h0 c]; show 1 ≤ _; omega
    · rw [numV_ge (by omega), ByteArray.size_append]
      have := ih (v := v / 10) (by omega) (by rw [Int.pow_succ] at h; omega)
      show _ + 1 ≤ _
      omega
theorem numV_size7 {v : Int} (h0 : 0 ≤ v) (h1 : v ≤ 1000000) : (numV v).size ≤ 7 := numV_size 6 h0 (by omega)
theorem strconv_Itoa_v {v : Int} (h0 : 0 ≤ v) (h1 : v ≤ 1000000) : strconv_Itoa.f v = some (numV v) := by
  unfold strconv_Itoa.f numV
  rw [if_pos h0, if_pos (by omega)]
theorem spec_l1Num_u (d : Nat) : ∀ (v : Int) (k : Nat), 0 ≤ v → v < 10 ^ (d + 1) → v ≤ 1000000 → spec_l1Num.f (k + d + 1) v = some (numV v) := by
  induction d with
  | zero =>
    intro v k h0 h h1
    have h : v < 10 := by simpa using h
    rw [numV_lt h0 h]
    exact spec_l1Num_d h0 h k
  | succ d ih =>
    intro v k h0 h h1
    by_cases c : v < 10
    · rw [numV_lt h0 c]
      exact spec_l1Num_d h0 c (k + d + 1)
    · have e1 : Int.tdiv v 10 = v / 10 := Int.tdiv_eq_ediv_of_nonneg h0
      have e2 : Int.tmod v 10 = v % 10 := Int.tmod_eq_emod_of_nonneg h0
      have hs := numV_size7 (v := v / 10) (by omega) (by omega)
      rw [show k + (d + 1) + 1 = (k + d + 1) + 1 by omega, spec_l1Num.f, if_neg c, e1, w64 (by omega) (by omega), ih (v / 10) k (by omega) (by rw [Int.pow_succ] at h; omega) (by omega), Option.bind_some, Option.bind_some, e2, w64 (by omega) (by omega), show (48 + v % 10) % 256 = 48 + v % 10 by omega, if_pos (by have : (strOfNums [48 + v % 10]).size = 1 := rfl; omega), ← numV_ge (by omega)]
theorem spec_l1Num_v {v : Int} (h0 : 0 ≤ v) (h1 : v ≤ 1000000) {k : Nat} (hk : 7 ≤ k) : spec_l1Num.f k v = some (numV v) := by
  obtain ⟨j, rfl⟩ : ∃ j, k = j + 6 + 1 := ⟨k - 7, by omega⟩
  exact spec_l1Num_u 6 v j h0 (by omega) h1
def opS (a : Int) : ByteArray := if a = 2 then (⟨#[43]⟩ : ByteArray) else if a = 3 then (⟨#[45]⟩ : ByteArray) else if a = 4 then (⟨#[42]⟩ : ByteArray) else if a = 5 then (⟨#[47]⟩ : ByteArray) else if a = 6 then (⟨#[60]⟩ : ByteArray) else if a = 7 then (⟨#[61]⟩ : ByteArray) else (⟨#[62]⟩ : ByteArray)
theorem opS_size (a : Int) : (opS a).size = 1 := by unfold opS; (repeat' split) <;> rfl
def parS (b : Bool) (s : ByteArray) : ByteArray := if b = true then (((⟨#[40, 32]⟩ : ByteArray) ++ s) ++ (⟨#[32, 41]⟩ : ByteArray)) else s
def binS (x o y : ByteArray) : ByteArray := (((x ++ (⟨#[32]⟩ : ByteArray)) ++ o) ++ (⟨#[32]⟩ : ByteArray)) ++ y
def choS (x o y z u : ByteArray) : ByteArray := (((((((((⟨#[105, 102, 32]⟩ : ByteArray) ++ x) ++ (⟨#[32]⟩ : ByteArray)) ++ o) ++ (⟨#[32]⟩ : ByteArray)) ++ y) ++ (⟨#[32, 116, 104, 101, 110, 32]⟩ : ByteArray)) ++ z) ++ (⟨#[32, 101, 108, 115, 101, 32]⟩ : ByteArray)) ++ u
def txt : T → Int → ByteArray
  | .lf k v, _ => if k = 1 then rdOf ByteArray.empty fieldNames_ v else numV v
  | .n2 k a b, l => if k ≤ 3 then parS (decide (1 < l)) (binS (txt a 1) (opS k) (txt b 2)) else parS (decide (2 < l)) (binS (txt a 2) (opS k) (txt b 3))
  | .n4 k a b c d, l => parS (decide (0 < l)) (choS (txt a 1) (opS k) (txt b 1) (txt c 0) (txt d 0))
theorem parS_size (b : Bool) (s : ByteArray) : (parS b s).size ≤ s.size + 4 := by
  have h1 : (⟨#[40, 32]⟩ : ByteArray).size = 2 := rfl
  have h2 : (⟨#[32, 41]⟩ : ByteArray).size = 2 := rfl
  unfold parS
  split
  · simp only [ByteArray.size_append, h1, h2]; omega
  · omega
theorem binS_size (x o y : ByteArray) : (binS x o y).size = x.size + o.size + y.size + 2 := by
  have h1 : (⟨#[32]⟩ : ByteArray).size = 1 := rfl
  unfold binS
  simp only [ByteArray.size_append, h1]; omega
theorem choS_size (x o y z u : ByteArray) : (choS x o y z u).size = x.size + o.size + y.size + z.size + u.size + 17 := by
  have h1 : (⟨#[32]⟩ : ByteArray).size = 1 := rfl
  have h2 : (⟨#[105, 102, 32]⟩ : ByteArray).size = 3 := rfl
  have h3 : (⟨#[32, 116, 104, 101, 110, 32]⟩ : ByteArray).size = 6 := rfl
  have h4 : (⟨#[32, 101, 108, 115, 101, 32]⟩ : ByteArray).size = 6 := rfl
  unfold choS
  simp only [ByteArray.size_append, h1, h2, h3, h4]; omega
theorem name_size {v : Int} (h0 : 0 ≤ v) (h1 : v ≤ 4) : (rdOf ByteArray.empty fieldNames_ v).size ≤ 6 := by
  have : v = 0 ∨ v = 1 ∨ v = 2 ∨ v = 3 ∨ v = 4 := by omega
  rcases this with rfl | rfl | rfl | rfl | rfl <;> decide
theorem txt_size : ∀ (t : T), t.ok → ∀ l, (txt t l).size ≤ 30 * t.size := by
  intro t
  induction t with
  | lf k v =>
    intro ho l
    simp only [T.ok] at ho
    simp only [txt, T.size]
    split
    · have := name_size (v := v) (by omega) (by omega); omega
    · have := numV_size7 (v := v) (by omega) (by omega); omega
  | n2 k a b ha hb =>
    intro ho l
    obtain ⟨_, _, oa, ob⟩ := ho
    simp only [txt, T.size]
    have ho := opS_size k
    split
    · have h1 := ha oa 1; have h2 := hb ob 2
      have h3 := parS_size (decide (1 < l)) (binS (txt a 1) (opS k) (txt b 2))
      have h4 := binS_size (txt a 1) (opS k) (txt b 2)
      omega
    · have h1 := ha oa 2; have h2 := hb ob 3
      have h3 := parS_size (decide (2 < l)) (binS (txt a 2) (opS k) (txt b 3))
      have h4 := binS_size (txt a 2) (opS k) (txt b 3)
      omega
  | n4 k a b c d ha hb hc hd =>
    intro ho l
    obtain ⟨_, _, oa, ob, oc, od⟩ := ho
    simp only [txt, T.size]
    have ho := opS_size k
    have h1 := ha oa 1; have h2 := hb ob 1; have h5 := hc oc 0; have h6 := hd od 0
    have h3 := parS_size (decide (0 < l)) (choS (txt a 1) (opS k) (txt b 1) (txt c 0) (txt d 0))
    have h4 := choS_size (txt a 1) (opS k) (txt b 1) (txt c 0) (txt d 0)
    omega
theorem op2_v {a : Int} (h : a = 2 ∨ a = 3) : ((⟨#[43, 45]⟩ : ByteArray).extract ((a - 2) : Int).toNat ((a - 2 + 1) : Int).toNat) = opS a := by rcases h with rfl | rfl <;> kernel_rfl
theorem op4_v {a : Int} (h : a = 4 ∨ a = 5) : ((⟨#[42, 47]⟩ : ByteArray).extract ((a - 4) : Int).toNat ((a - 4 + 1) : Int).toNat) = opS a := by rcases h with rfl | rfl <;> kernel_rfl
theorem op6_v {a : Int} (h : a = 6 ∨ a = 7 ∨ a = 8) : ((⟨#[60, 61, 62]⟩ : ByteArray).extract ((a - 6) : Int).toNat ((a - 6 + 1) : Int).toNat) = opS a := by rcases h with rfl | rfl | rfl <;> kernel_rfl
theorem ops2_v {a : Int} (h : a = 2 ∨ a = 3 ∨ a = 4 ∨ a = 5) : rdOf ByteArray.empty ([(⟨#[43]⟩ : ByteArray), (⟨#[45]⟩ : ByteArray), (⟨#[42]⟩ : ByteArray), (⟨#[47]⟩ : ByteArray)] : List ByteArray) (a - 2) = opS a := by rcases h with rfl | rfl | rfl | rfl <;> kernel_rfl
theorem ops6_v {a : Int} (h : a = 6 ∨ a = 7 ∨ a = 8) : rdOf ByteArray.empty ([(⟨#[60]⟩ : ByteArray), (⟨#[61]⟩ : ByteArray), (⟨#[62]⟩ : ByteArray)] : List ByteArray) (a - 6) = opS a := by rcases h with rfl | rfl | rfl <;> kernel_rfl
theorem parS_if (c : Prop) [Decidable c] (s : ByteArray) (hs : s.size ≤ 1000000) :
    (if c then (if 2 + s.size ≤ 9223372036854775807 then (if ((⟨#[40, 32]⟩ : ByteArray) ++ s).size + 2 ≤ 9223372036854775807 then (some (((⟨#[40, 32]⟩ : ByteArray) ++ s) ++ (⟨#[32, 41]⟩ : ByteArray))) else none) else none) else some s) = some (parS (decide c) s) := by
  have h1 : (⟨#[40, 32]⟩ : ByteArray).size = 2 := rfl
  unfold parS
  by_cases h : c
  · rw [if_pos h, if_pos (by omega), if_pos (by rw [ByteArray.size_append, h1]; omega), if_pos (by simp [h])]
  · rw [if_neg h, if_neg (by simp [h])]
theorem impl_ruleText_v {L : List Pt} (hn : L.length ≤ 1048576) : ∀ (t : T), t.ok → t.size ≤ 1000 → ∀ (o k : Nat) (l : Int), At L o t → 22 * t.size < k → impl_ruleText.f k L (t.root o) l = some (txt t l) := by
  have s32 : (⟨#[32]⟩ : ByteArray).size = 1 := rfl
  have s3 : (⟨#[105, 102, 32]⟩ : ByteArray).size = 3 := rfl
  have s6 : (⟨#[32, 116, 104, 101, 110, 32]⟩ : ByteArray).size = 6 := rfl
  have s7 : (⟨#[32, 101, 108, 115, 101, 32]⟩ : ByteArray).size = 6 := rfl
  intro t
  induction t with
  | lf a x =>
    intro ho _ o k l h hk
    have hr := root_in h.le
    have hnd : ∀ k', 12 * (T.lf a x).size + 8 < k' → impl_partNeeds.f k' L (T.root (.lf a x) o) = some ((T.lf a x).kids o) := fun k' hk' => impl_partNeeds_v hn _ ho o k' h hk'
    simp only [T.size] at hk hnd
    obtain ⟨k, rfl⟩ : ∃ m, k = m + 2 := ⟨k - 2, by omega⟩
    have hf0 : (rd_T33 L ((T.lf a x).root o)).f0 = a := by rw [h.top]; rfl
    have hf1 : (rd_T33 L ((T.lf a x).root o)).f1 = x := by rw [h.top]; rfl
    rw [impl_ruleText.f, if_pos hr.1, if_pos hr.2, hf0, hf1]
    simp only [T.ok] at ho
    simp only [txt]
    rw [hnd _ (by omega), Option.bind_some]
    by_cases c : a = 0
    · rw [if_pos c, strconv_Itoa_v (by omega) (by omega), Option.bind_some, if_neg (by omega)]
    · rw [if_neg c, if_pos (by omega), if_pos (by omega), if_pos (by omega), if_pos (by omega)]
  | n2 a x y hx hy =>
    intro ho hz o k l h hk
    have hr := root_in h.le
    have hnd : ∀ k', 12 * (T.n2 a x y).size + 8 < k' → impl_partNeeds.f k' L (T.root (.n2 a x y) o) = some ((T.n2 a x y).kids o) := fun k' hk' => impl_partNeeds_v hn _ ho o k' h hk'
    have htop := h.top
    obtain ⟨a2, a5, ox, oy⟩ := ho
    obtain ⟨h1, h2⟩ := h.n2
    have sx := x.size_pos; have sy := y.size_pos
    simp only [T.size] at hk hnd hz
    obtain ⟨k, rfl⟩ : ∃ m, k = m + 8 := ⟨k - 8, by omega⟩
    have hf0 : (rd_T33 L ((T.n2 a x y).root o)).f0 = a := by rw [htop]; rfl
    have hf1 : (rd_T33 L ((T.n2 a x y).root o)).f1 = 0 := by rw [htop]; rfl
    have hl : ((T.n2 a x y).kids o).length = 2 := rfl
    have k0 : rd ((T.n2 a x y).kids o) 0 = x.root o := rfl
    have k1 : rd ((T.n2 a x y).kids o) 1 = y.root (o + x.size) := rfl
    have so := opS_size a
    rw [impl_ruleText.f, if_pos hr.1, if_pos hr.2, hnd _ (by omega), Option.bind_some, hf0, hf1, if_neg (by omega), if_neg (by omega)]
    simp only [txt]
    have e0 : ∀ m nd, (if a = 2 then impl_ruleText.j0 m L l nd a (a == 2) a 0 else impl_ruleText.j0 m L l nd a (a == 3) a 0) = impl_ruleText.j0 m L l nd a (decide (a = 2 ∨ a = 3)) a 0 := by
      intro m nd
      by_cases c : a = 2
      · rw [if_pos c]; simp [c]
      · rw [if_neg c]
        show impl_ruleText.j0 m L l nd a (decide (a = 3)) a 0 = _
        simp only [c, false_or]
    have e1 : ∀ m nd, (if a = 4 then impl_ruleText.j1 m L l nd (a == 4) a 0 else impl_ruleText.j1 m L l nd (a == 5) a 0) = impl_ruleText.j1 m L l nd (decide (a = 4 ∨ a = 5)) a 0 := by
      intro m nd
      by_cases c : a = 4
      · rw [if_pos c]; simp [c]
      · rw [if_neg c]
        show impl_ruleText.j1 m L l nd (decide (a = 5)) a 0 = _
        simp only [c, false_or]
    rw [e0]
    by_cases hA : a = 2 ∨ a = 3
    · have wa : wrap64 (a - 2) = a - 2 := w64 (by omega) (by omega)
      have wb : wrap64 (a - 2 + 1) = a - 2 + 1 := w64 (by omega) (by omega)
      have z1 := txt_size x ox 1; have z2 := txt_size y oy 2
      have zb := binS_size (txt x 1) (opS a) (txt y 2)
      rw [impl_ruleText.j0, if_pos (by simp [hA]), if_pos (by omega), k0, hx ox (by omega) _ _ _ h1 (by omega), Option.bind_some, if_pos (by omega), wa, wb, if_pos (by omega), if_pos (by omega), if_pos (by omega), op2_v hA,
        if_pos (by rw [ByteArray.size_append, s32]; omega), if_pos (by simp only [ByteArray.size_append, s32]; omega), if_pos (by omega), k1, hy oy (by omega) _ _ _ h2 (by omega), Option.bind_some, if_pos (by simp only [ByteArray.size_append, s32]; omega), if_pos (by omega : a ≤ 3)]
      exact parS_if (1 < l) (binS (txt x 1) (opS a) (txt y 2)) (by omega)
    · have wa : wrap64 (a - 4) = a - 4 := w64 (by omega) (by omega)
      have wb : wrap64 (a - 4 + 1) = a - 4 + 1 := w64 (by omega) (by omega)
      have z1 := txt_size x ox 2; have z2 := txt_size y oy 3
      have zb := binS_size (txt x 2) (opS a) (txt y 3)
      have hB : a = 4 ∨ a = 5 := by omega
      rw [impl_ruleText.j0, if_neg (by simp [hA]), e1]
      rw [impl_ruleText.j1, if_pos (by simp [hB]), if_pos (by omega), k0, hx ox (by omega) _ _ _ h1 (by omega), Option.bind_some, if_pos (by omega), wa, wb, if_pos (by omega), if_pos (by omega), if_pos (by omega), op4_v hB,
        if_pos (by rw [ByteArray.size_append, s32]; omega), if_pos (by simp only [ByteArray.size_append, s32]; omega), if_pos (by omega), k1, hy oy (by omega) _ _ _ h2 (by omega), Option.bind_some, if_pos (by simp only [ByteArray.size_append, s32]; omega), if_neg (by omega : ¬ a ≤ 3)]
      exact parS_if (2 < l) (binS (txt x 2) (opS a) (txt y 3)) (by omega)
  | n4 a x y z u hx hy hz hu =>
    intro ho hs o k l h hk
    have hr := root_in h.le
    have hnd : ∀ k', 12 * (T.n4 a x y z u).size + 8 < k' → impl_partNeeds.f k' L (T.root (.n4 a x y z u) o) = some ((T.n4 a x y z u).kids o) := fun k' hk' => impl_partNeeds_v hn _ ho o k' h hk'
    have htop := h.top
    obtain ⟨a2, a5, ox, oy, oz, ou⟩ := ho
    obtain ⟨h1, h2, h3, h4⟩ := h.n4
    have sx := x.size_pos; have sy := y.size_pos; have sz := z.size_pos; have su := u.size_pos
    simp only [T.size] at hk hnd hs
    obtain ⟨k, rfl⟩ : ∃ m, k = m + 8 := ⟨k - 8, by omega⟩
    have hf0 : (rd_T33 L ((T.n4 a x y z u).root o)).f0 = a := by rw [htop]; rfl
    have hf1 : (rd_T33 L ((T.n4 a x y z u).root o)).f1 = 0 := by rw [htop]; rfl
    have hl : ((T.n4 a x y z u).kids o).length = 4 := rfl
    have k0 : rd ((T.n4 a x y z u).kids o) 0 = x.root o := rfl
    have k1 : rd ((T.n4 a x y z u).kids o) 1 = y.root (o + x.size) := rfl
    have k2 : rd ((T.n4 a x y z u).kids o) 2 = z.root (o + x.size + y.size) := rfl
    have k3 : rd ((T.n4 a x y z u).kids o) 3 = u.root (o + x.size + y.size + z.size) := rfl
    have so := opS_size a
    have hA : a = 6 ∨ a = 7 ∨ a = 8 := by omega
    have wa : wrap64 (a - 6) = a - 6 := w64 (by omega) (by omega)
    have wb : wrap64 (a - 6 + 1) = a - 6 + 1 := w64 (by omega) (by omega)
    have z1 := txt_size x ox 1; have z2 := txt_size y oy 1; have z3 := txt_size z oz 0; have z4 := txt_size u ou 0
    have zb := choS_size (txt x 1) (opS a) (txt y 1) (txt z 0) (txt u 0)
    rw [impl_ruleText.f, if_pos hr.1, if_pos hr.2, hnd _ (by omega), Option.bind_some, hf0, hf1, if_neg (by omega), if_neg (by omega), if_neg (by omega), show (a == 3) = false by simp; omega, impl_ruleText.j0, if_neg (by decide), if_neg (by omega), show (a == 5) = false by simp; omega, impl_ruleText.j1, if_neg (by decide),
      if_pos (by omega), k0, hx ox (by omega) _ _ _ h1 (by omega), Option.bind_some, if_pos (by omega), if_pos (by simp only [ByteArray.size_append, s32, s3]; omega), wa, wb, if_pos (by omega), if_pos (by omega), if_pos (by omega), op6_v hA,
      if_pos (by simp only [ByteArray.size_append, s32, s3]; omega), if_pos (by simp only [ByteArray.size_append, s32, s3]; omega), if_pos (by omega), k1, hy oy (by omega) _ _ _ h2 (by omega), Option.bind_some,
      if_pos (by simp only [ByteArray.size_append, s32, s3]; omega), if_pos (by simp only [ByteArray.size_append, s32, s3]; omega), if_pos (by omega), k2, hz oz (by omega) _ _ _ h3 (by omega), Option.bind_some,
      if_pos (by simp only [ByteArray.size_append, s32, s3, s6]; omega), if_pos (by simp only [ByteArray.size_append, s32, s3, s6]; omega), if_pos (by omega), k3, hu ou (by omega) _ _ _ h4 (by omega), Option.bind_some,
      if_pos (by simp only [ByteArray.size_append, s32, s3, s6, s7]; omega)]
    simp only [txt]
    exact parS_if (0 < l) (choS (txt x 1) (opS a) (txt y 1) (txt z 0) (txt u 0)) (by omega)
theorem spec_ruFields_v : spec_ruFields.f = some fieldNames_ := rfl
theorem spec_ruLevel_v1 {a : Int} (h : a ≤ 1) : spec_ruLevel.f a = some 3 := by unfold spec_ruLevel.f; rw [if_pos h]
theorem spec_ruLevel_v2 {a : Int} (h : 2 ≤ a) (h' : a ≤ 3) : spec_ruLevel.f a = some 1 := by unfold spec_ruLevel.f; rw [if_neg (by omega), if_pos h']
theorem spec_ruLevel_v3 {a : Int} (h : 4 ≤ a) (h' : a ≤ 5) : spec_ruLevel.f a = some 2 := by unfold spec_ruLevel.f; rw [if_neg (by omega), if_neg (by omega), if_pos h']
theorem spec_ruLevel_v4 {a : Int} (h : 6 ≤ a) : spec_ruLevel.f a = some 0 := by unfold spec_ruLevel.f; rw [if_neg (by omega), if_neg (by omega), if_neg (by omega)]
theorem spec_ruShow_v {L : List Pt} {R : List (List Int)} : ∀ (t : T), t.ok → t.size ≤ 1000 → ∀ (o k : Nat) (l : Int), l ≤ 3 → At L o t → TA R o t → 20 * t.size < k → spec_ruShow.f k L R (t.root o) l = some (txt t l) := by
  have s32 : (⟨#[32]⟩ : ByteArray).size = 1 := rfl
  have s3 : (⟨#[105, 102, 32]⟩ : ByteArray).size = 3 := rfl
  have s6 : (⟨#[32, 116, 104, 101, 110, 32]⟩ : ByteArray).size = 6 := rfl
  have s7 : (⟨#[32, 101, 108, 115, 101, 32]⟩ : ByteArray).size = 6 := rfl
  intro t
  induction t with
  | lf a x =>
    intro ho _ o k l h3 h hR hk
    have hr := root_in h.le
    have hr2 := root_in hR.le
    simp only [T.size] at hk
    obtain ⟨k, rfl⟩ : ∃ m, k = m + 2 := ⟨k - 2, by omega⟩
    have hf0 : (rd_T33 L ((T.lf a x).root o)).f0 = a := by rw [h.top]; rfl
    have hf1 : (rd_T33 L ((T.lf a x).root o)).f1 = x := by rw [h.top]; rfl
    simp only [T.ok] at ho
    rw [spec_ruShow.f, if_pos hr.1, if_pos hr.2, if_pos hr2.2, hf0, hf1, spec_ruLevel_v1 (by omega), Option.bind_some, if_pos rfl, spec_l1Num_v (by omega) (by omega) (by omega), Option.bind_some]
    simp only [txt]
    by_cases c : a = 1
    · have hlen : (fieldNames_.length : Int) = 5 := rfl
      rw [if_pos c, spec_ruFields_v, Option.bind_some, if_pos (by omega), if_pos (by omega), if_neg (by omega), if_pos c]
    · rw [if_neg c, if_neg (by omega), if_neg c]
  | n2 a x y hx hy =>
    intro ho hz o k l h3 h hR hk
    have hr := root_in h.le
    have hr2 := root_in hR.le
    have htop := h.top
    have hkid := hR.kids
    obtain ⟨a2, a5, ox, oy⟩ := ho
    obtain ⟨h1, h2⟩ := h.n2
    obtain ⟨g1, g2⟩ := hR.n2
    have sx := x.size_pos; have sy := y.size_pos
    simp only [T.size] at hk hz
    obtain ⟨k, rfl⟩ : ∃ m, k = m + 8 := ⟨k - 8, by omega⟩
    have hf0 : (rd_T33 L ((T.n2 a x y).root o)).f0 = a := by rw [htop]; rfl
    have hl : ((T.n2 a x y).kids o).length = 2 := rfl
    have k0 : rd ((T.n2 a x y).kids o) 0 = x.root o := rfl
    have k1 : rd ((T.n2 a x y).kids o) 1 = y.root (o + x.size) := rfl
    have so := opS_size a
    have hA : a = 2 ∨ a = 3 ∨ a = 4 ∨ a = 5 := by omega
    have wa : wrap64 (a - 2) = a - 2 := w64 (by omega) (by omega)
    have ov := ops2_v hA
    simp only [txt]
    by_cases c : a ≤ 3
    · have z1 := txt_size x ox 1; have z2 := txt_size y oy 2
      have zb := binS_size (txt x 1) (opS a) (txt y 2)
      rw [spec_ruShow.f, if_pos hr.1, if_pos hr.2, if_pos hr2.2, hf0, hkid, spec_ruLevel_v2 a2 c, Option.bind_some, if_neg (by decide), if_neg (by decide), if_pos (by omega), k0, hx ox (by omega) _ _ _ (by omega) h1 g1 (by omega), Option.bind_some, if_pos (by omega), Option.bind_some, wa, ov,
        if_pos (by omega), if_pos (by simp only [List.length_cons, List.length_nil]; omega), if_pos (by simp only [ByteArray.size_append, s32]; omega), if_pos (by simp only [ByteArray.size_append, s32]; omega), if_pos (by omega), k1, show wrap64 (1 + 1) = 2 from W1, hy oy (by omega) _ _ _ (by omega) h2 g2 (by omega), Option.bind_some,
        if_pos (by simp only [ByteArray.size_append, s32]; omega), if_pos c]
      exact parS_if (1 < l) (binS (txt x 1) (opS a) (txt y 2)) (by omega)
    · have z1 := txt_size x ox 2; have z2 := txt_size y oy 3
      have zb := binS_size (txt x 2) (opS a) (txt y 3)
      rw [spec_ruShow.f, if_pos hr.1, if_pos hr.2, if_pos hr2.2, hf0, hkid, spec_ruLevel_v3 (by omega) a5, Option.bind_some, if_neg (by decide), if_neg (by decide), if_pos (by omega), k0, hx ox (by omega) _ _ _ (by omega) h1 g1 (by omega), Option.bind_some, if_pos (by omega), Option.bind_some, wa, ov,
        if_pos (by omega), if_pos (by simp only [List.length_cons, List.length_nil]; omega), if_pos (by simp only [ByteArray.size_append, s32]; omega), if_pos (by simp only [ByteArray.size_append, s32]; omega), if_pos (by omega), k1, show wrap64 (2 + 1) = 3 from W2, hy oy (by omega) _ _ _ (by omega) h2 g2 (by omega), Option.bind_some,
        if_pos (by simp only [ByteArray.size_append, s32]; omega), if_neg c]
      exact parS_if (2 < l) (binS (txt x 2) (opS a) (txt y 3)) (by omega)
  | n4 a x y z u hx hy hz hu =>
    intro ho hs o k l hl3 h hR hk
    have hr := root_in h.le
    have hr2 := root_in hR.le
    have htop := h.top
    have hkid := hR.kids
    obtain ⟨a2, a5, ox, oy, oz, ou⟩ := ho
    obtain ⟨h1, h2, h3, h4⟩ := h.n4
    obtain ⟨g1, g2, g3, g4⟩ := hR.n4
    have sx := x.size_pos; have sy := y.size_pos; have sz := z.size_pos; have su := u.size_pos
    simp only [T.size] at hk hs
    obtain ⟨k, rfl⟩ : ∃ m, k = m + 8 := ⟨k - 8, by omega⟩
    have hf0 : (rd_T33 L ((T.n4 a x y z u).root o)).f0 = a := by rw [htop]; rfl
    have hl : ((T.n4 a x y z u).kids o).length = 4 := rfl
    have k0 : rd ((T.n4 a x y z u).kids o) 0 = x.root o := rfl
    have k1 : rd ((T.n4 a x y z u).kids o) 1 = y.root (o + x.size) := rfl
    have k2 : rd ((T.n4 a x y z u).kids o) 2 = z.root (o + x.size + y.size) := rfl
    have k3 : rd ((T.n4 a x y z u).kids o) 3 = u.root (o + x.size + y.size + z.size) := rfl
    have so := opS_size a
    have hA : a = 6 ∨ a = 7 ∨ a = 8 := by omega
    have wa : wrap64 (a - 6) = a - 6 := w64 (by omega) (by omega)
    have ov := ops6_v hA
    have z1 := txt_size x ox 1; have z2 := txt_size y oy 1; have z3 := txt_size z oz 0; have z4 := txt_size u ou 0
    have zb := choS_size (txt x 1) (opS a) (txt y 1) (txt z 0) (txt u 0)
    rw [spec_ruShow.f, if_pos hr.1, if_pos hr.2, if_pos hr2.2, hf0, hkid, spec_ruLevel_v4 a2, Option.bind_some, if_neg (by decide), if_pos rfl, if_pos (by omega), k0, hx ox (by omega) _ _ _ (by omega) h1 g1 (by omega), Option.bind_some, if_pos (by omega), if_pos (by simp only [ByteArray.size_append, s32, s3]; omega), Option.bind_some, wa, ov,
      if_pos (by omega), if_pos (by simp only [List.length_cons, List.length_nil]; omega), if_pos (by simp only [ByteArray.size_append, s32, s3]; omega), if_pos (by simp only [ByteArray.size_append, s32, s3]; omega), if_pos (by omega), k1, hy oy (by omega) _ _ _ (by omega) h2 g2 (by omega), Option.bind_some,
      if_pos (by simp only [ByteArray.size_append, s32, s3]; omega), if_pos (by simp only [ByteArray.size_append, s32, s3]; omega), if_pos (by omega), k2, hz oz (by omega) _ _ _ (by omega) h3 g3 (by omega), Option.bind_some,
      if_pos (by simp only [ByteArray.size_append, s32, s3, s6]; omega), if_pos (by simp only [ByteArray.size_append, s32, s3, s6]; omega), if_pos (by omega), k3, hu ou (by omega) _ _ _ (by omega) h4 g4 (by omega), Option.bind_some,
      if_pos (by simp only [ByteArray.size_append, s32, s3, s6, s7]; omega)]
    simp only [txt]
    exact parS_if (0 < l) (choS (txt x 1) (opS a) (txt y 1) (txt z 0) (txt u 0)) (by omega)
def ruleTextR (l : List Pt) : ByteArray × Bool := match goodT l with | none => (⟨#[]⟩, false) | some t => (txt t 0, true)
theorem spec_RuleText_v (l : List Pt) (hn : l.length ≤ 1048576) {k : Nat} (hk : 1000 < k) : spec_RuleText.f k l = some (ruleTextR l) := by
  unfold spec_RuleText.f ruleTextR
  rw [spec_ruGood_v l hn (by omega), Option.bind_some]
  cases e : goodT l with
  | none => rfl
  | some t =>
    obtain ⟨rfl, ho, hs, _⟩ := goodT_t e
    have hlen := t.enc_len
    have sp := t.size_pos
    rw [Option.isSome_some, if_pos rfl]
    unfold spec_ruText.f
    rw [spec_ruTree_t ho hs (by omega), Option.bind_some]
    dsimp only
    rw [w64 (by omega) (by omega), show ((t.enc.length : Nat) : Int) - 1 = t.root 0 by unfold T.root; omega, spec_ruShow_v t ho (by omega) 0 k 0 (by omega) (At.self t) (TA.self t) (by omega), Option.bind_some, Option.bind_some]
theorem impl_RuleText_v (l : List Pt) (hn : l.length ≤ 1048576) {k : Nat} (hk : 1000 < k) : impl_RuleText.f k l = some (ruleTextR l) := by
  unfold impl_RuleText.f ruleTextR
  rw [impl_isRule_v l (by omega) (by omega), Option.bind_some]
  cases e : goodT l with
  | none => rfl
  | some t =>
    obtain ⟨rfl, ho, hs, _⟩ := goodT_t e
    have hlen := t.enc_len
    have sp := t.size_pos
    rw [Option.isSome_some, if_pos rfl, w64 (by omega) (by omega), show ((t.enc.length : Nat) : Int) - 1 = t.root 0 by unfold T.root; omega, impl_ruleText_v hn t ho (by omega) 0 k 0 (At.self t) (by omega), Option.bind_some]
theorem pure_FnExactRuleText (l : List S35) (hm : l.length ≤ maxLen) (hw : ∀ x ∈ l, (Lit.int .i64 x.f0).wf = true ∧ (Lit.int .i64 x.f1).wf = true) : ∃ k, laws_FnExactRuleText.f k l = some true := by
  obtain ⟨K, hK⟩ : ∃ K : Nat, 1048576 < K := ⟨_, Nat.lt_succ_self _⟩
  refine ⟨K + 4, ?_⟩
  unfold laws_FnExactRuleText.f
  obtain ⟨s, hs, h | ⟨h, h'⟩⟩ := laws_szPartS_v l 1048576 (by omega) (by omega) hm
  · rw [hs, Option.bind_some, if_pos h]
  · have hlen := toP_map_len l
    rw [hs, Option.bind_some, if_neg (by omega)]
    simp (disch := omega) only [laws_toPartS_v, Option.bind_some, spec_RuleText_v, impl_RuleText_v, if_true]
    simp (disch := omega) only [laws_FnExactRuleText.j0, laws_toPartS_v, Option.bind_some, laws_eqPartS_v]
    simp

end Go.Proofs.YtikdododhkljeaaDoor.Pure
