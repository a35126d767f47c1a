/- What the printed Lean functions behind FnExactSplitPiece come to, and from that the pure statement of FnExactSplitPiece: it answers true. No condition beyond those that the given statement itself has. -/
import Derived.Test.YtceajigggcihnaaPFnExactSplitPiecex7
import Derived.Lib.SmallJoins
namespace Go.Proofs.Ytceajigggcihnaa.Pure
open Go.RowKit Go.Proofs.Ytceajigggcihnaa.PFnExactSplitPiece Go.Proofs.YtceajigggcihnaaW.PrintWords Go.Proofs.YtceajigggcihnaaW.PrintLast Go.Proofs.YtceajigggcihnaaW.PrintMore
set_option linter.unusedVariables false
set_option linter.unusedSimpArgs false

theorem w64 {x : Int} (h1 : -9223372036854775808 ≤ x) (h2 : x ≤ 9223372036854775807) : wrap64 x = x := by unfold wrap64; omega
theorem wf_i64 {x : Int} (h : (Lit.int .i64 x).wf = true) : -9223372036854775808 ≤ x ∧ x ≤ 9223372036854775807 := Go.Joins.in64_of_wf h
theorem mul_bd {a b A B : Int} (ha : 0 ≤ a) (hA : a ≤ A) (hb : 0 ≤ b) (hB : b ≤ B) : 0 ≤ a * b ∧ a * b ≤ A * B :=
  ⟨Int.mul_nonneg ha hb, Int.mul_le_mul hA hB hb (by omega)⟩
theorem rd_nat (l : List Int) (i : Nat) : rd l (i : Int) = l.getD i 0 := by simp [rd]
theorem rd_get {l : List Int} {i : Nat} (h : i < l.length) : rd l (i : Int) = l[i] := by rw [rd_nat, List.getD_eq_getElem?_getD, List.getElem?_eq_getElem h]; rfl
theorem rd_set {l : List Int} {i : Nat} {v : Int} (j : Int) (h0 : 0 ≤ j) (hi : i < l.length) : rd (l.set i v) j = if j = (i : Int) then v else rd l j := by
  unfold rd
  rw [List.getD_eq_getElem?_getD, List.getD_eq_getElem?_getD]
  by_cases h : j = (i : Int)
  · rw [if_pos h, show j.toNat = i by omega, List.getElem?_set_self hi]; rfl
  · rw [if_neg h, List.getElem?_set_ne (by omega)]
theorem drop_rd {l : List Int} {i : Nat} (h : i < l.length) : l.drop i = rd l (i : Int) :: l.drop (i + 1) := by
  rw [rd_get h]; exact List.drop_eq_getElem_cons h
theorem w64_succ {i : Nat} (h : i < 9223372036854775807) : wrap64 ((i : Int) + 1) = ((i + 1 : Nat) : Int) := by rw [w64 (by omega) (by omega)]; omega
theorem k_succ {k : Nat} (h : 0 < k) : ∃ m, k = m + 1 := ⟨k - 1, by omega⟩
/-- from some number of rounds on -/
theorem Ev.use {α : Type} {g : Nat → Option α} {r : α} (h : Ev g r) : ∃ K, ∀ k, K ≤ k → g k = some r := h
theorem laws_toIntS_l (l : List Int) (hn : l.length ≤ 1152921504606846976) : ∀ (d k i : Nat) (y : List Int), i + d = l.length → d < k → y.length = l.length → (∀ j, j < i → y[j]? = l[j]?) →
    laws_toIntS.l0 k l y (i : Int) = some l := by
  intro d
  induction d with
  | zero =>
    intro k i y hi hk hy hj
    obtain ⟨k, rfl⟩ := k_succ (by omega : 0 < k)
    simp only [laws_toIntS.l0]
    rw [if_neg (by omega)]
    congr 1
    refine List.ext_getElem? fun j => ?_
    by_cases h : j < i
    · exact hj j h
    · rw [List.getElem?_eq_none (by omega), List.getElem?_eq_none (by omega)]
  | succ d ih =>
    intro k i y hi hk hy hj
    obtain ⟨k, rfl⟩ := k_succ (by omega : 0 < k)
    simp only [laws_toIntS.l0]
    rw [if_pos (by omega), if_pos (by omega), if_pos (by omega), w64_succ (by omega)]
    refine ih k (i + 1) _ (by omega) (by omega) (by simpa using hy) (fun j hj' => ?_)
    rw [show ((i : Int) : Int).toNat = i by omega]
    by_cases h : j = i
    · subst h
      rw [List.getElem?_set_self (by omega), rd_get (by omega), List.getElem?_eq_getElem (by omega)]
    · rw [List.getElem?_set_ne (by omega)]
      exact hj j (by omega)
theorem laws_toIntS_v (l : List Int) (hn : l.length ≤ 35184372088832) {k : Nat} (hk : l.length < k) : laws_toIntS.f k l = some l := by
  unfold laws_toIntS.f
  rw [if_pos (by omega), if_pos (by omega)]
  exact laws_toIntS_l l (by omega) l.length k 0 _ (by omega) hk (by simp) (fun j hj => by omega)
theorem laws_eqIntS_l (l m : List Int) (hn : l.length ≤ 1152921504606846976) (hm : m.length = l.length) : ∀ (d k i : Nat), i + d = l.length → d < k →
    laws_eqIntS.l0 k l m (i : Int) = some (decide (l.drop i = m.drop i)) := by
  intro d
  induction d with
  | zero =>
    intro k i hi hk
    obtain ⟨k, rfl⟩ := k_succ (by omega : 0 < k)
    simp only [laws_eqIntS.l0]
    rw [if_neg (by omega), List.drop_eq_nil_of_le (by omega), List.drop_eq_nil_of_le (by omega)]
    simp
  | succ d ih =>
    intro k i hi hk
    obtain ⟨k, rfl⟩ := k_succ (by omega : 0 < k)
    simp only [laws_eqIntS.l0]
    rw [if_pos (by omega), if_pos (by omega), if_pos (by omega), w64_succ (by omega), drop_rd (by omega : i < l.length), drop_rd (by omega : i < m.length), ih k (i + 1) (by omega) (by omega)]
    by_cases h : rd l (i : Int) = rd m (i : Int)
    · rw [if_pos h]; simp [h]
    · rw [if_neg h]; simp [h]
theorem laws_eqIntS_v (l m : List Int) (hn : l.length ≤ 1152921504606846976) {k : Nat} (hk : l.length < k) : laws_eqIntS.f k l m = some (decide (l = m)) := by
  unfold laws_eqIntS.f
  by_cases h : l.length = m.length
  · rw [if_pos (by omega)]
    have := laws_eqIntS_l l m hn h.symm l.length k 0 (by omega) hk
    simpa using this
  · rw [if_neg (by omega)]
    congr 1; symm
    rw [decide_eq_false_iff_not]
    intro e; rw [e] at h; exact h rfl
theorem spec_l1In_v (a lo hi : Int) : spec_l1In.f a lo hi = some (decide (lo ≤ a ∧ a ≤ hi)) := by
  unfold spec_l1In.f
  split
  · congr 1; rw [decide_eq_decide]; omega
  · congr 1; symm; rw [decide_eq_false_iff_not]; omega
theorem spec_l1All_l (lo hi : Int) (l : List Int) (hn : l.length ≤ 1152921504606846976) : ∀ (d k i : Nat), i + d = l.length → d < k →
    spec_l1All.l0 k lo hi l (l.length : Int) (i : Int) = some ((l.drop i).all fun x => decide (lo ≤ x ∧ x ≤ hi)) := by
  intro d
  induction d with
  | zero =>
    intro k i hi' hk
    obtain ⟨k, rfl⟩ := k_succ (by omega : 0 < k)
    simp only [spec_l1All.l0]
    rw [if_neg (by omega), List.drop_eq_nil_of_le (by omega)]
    rfl
  | succ d ih =>
    intro k i hi' hk
    obtain ⟨k, rfl⟩ := k_succ (by omega : 0 < k)
    simp only [spec_l1All.l0]
    rw [if_pos (by omega), if_pos (by omega), if_pos (by omega), w64_succ (by omega), drop_rd (by omega : i < l.length), ih k (i + 1) (by omega) (by omega), spec_l1In_v, List.all_cons]
    simp only [Option.bind_some, decide_eq_true_eq]
    by_cases h : lo ≤ rd l (i : Int) ∧ rd l (i : Int) ≤ hi
    · rw [if_pos h, decide_eq_true h, Bool.true_and]
    · rw [if_neg h, decide_eq_false h, Bool.false_and]
theorem spec_l1All_v (lo hi : Int) (l : List Int) (hn : l.length ≤ 1152921504606846976) {k : Nat} (hk : l.length < k) : spec_l1All.f k l lo hi = some (l.all fun x => decide (lo ≤ x ∧ x ≤ hi)) := by
  unfold spec_l1All.f
  simpa using spec_l1All_l lo hi l hn l.length k 0 (by omega) hk
def gridB (X Y Z : Int) : Bool := decide (1 ≤ X ∧ X ≤ 8 ∧ 1 ≤ Y ∧ Y ≤ 6 ∧ 1 ≤ Z ∧ Z ≤ 5 ∧ X * Y * Z ≤ 120)
theorem gridB_t {X Y Z : Int} (h : gridB X Y Z = true) : 1 ≤ X ∧ X ≤ 8 ∧ 1 ≤ Y ∧ Y ≤ 6 ∧ 1 ≤ Z ∧ Z ≤ 5 ∧ X * Y * Z ≤ 120 := of_decide_eq_true h
theorem wrapXYZ {X Y Z : Int} (h1 : 1 ≤ X) (h2 : X ≤ 8) (h3 : 1 ≤ Y) (h4 : Y ≤ 6) (h5 : 1 ≤ Z) (h6 : Z ≤ 5) : wrap64 (wrap64 (X * Y) * Z) = X * Y * Z := by
  have a := mul_bd (by omega : 0 ≤ X) h2 (by omega : 0 ≤ Y) h4
  have b := mul_bd a.1 a.2 (by omega : 0 ≤ Z) h6
  rw [w64 (by omega) (by omega) (x := X * Y), w64 (by omega) (by omega)]
theorem grid_pos {X Y Z : Int} (h : gridB X Y Z = true) : 1 ≤ X * Y * Z ∧ X * Y * Z ≤ 120 := by
  obtain ⟨h1, h2, h3, h4, h5, h6, h7⟩ := gridB_t h
  have a : 0 < X * Y := Int.mul_pos (by omega) (by omega)
  have b : 0 < X * Y * Z := Int.mul_pos a (by omega)
  omega
def hasB (X Y Z i : Int) : Bool := gridB X Y Z && decide (0 ≤ i ∧ i < X * Y * Z)
theorem hasB_t {X Y Z i : Int} (h : hasB X Y Z i = true) : gridB X Y Z = true ∧ 0 ≤ i ∧ i < X * Y * Z := by
  unfold hasB at h; rw [Bool.and_eq_true, decide_eq_true_eq] at h; exact h
theorem at_w {X Y x y z : Int} (hX : 0 ≤ X) (hX' : X ≤ 8) (hY : 0 ≤ Y) (hY' : Y ≤ 6) (hx : 0 ≤ x) (hx' : x ≤ 8) (hy : 0 ≤ y) (hy' : y ≤ 6) (hz : 0 ≤ z) (hz' : z ≤ 5) :
    wrap64 (wrap64 (wrap64 (wrap64 (z * Y) + y) * X) + x) = (z * Y + y) * X + x ∧ 0 ≤ (z * Y + y) * X + x := by
  have a := mul_bd hz hz' hY hY'
  have b := mul_bd (by omega : 0 ≤ z * Y + y) (by omega : z * Y + y ≤ 36) hX hX'
  rw [w64 (by omega) (by omega) (x := z * Y), w64 (by omega) (by omega) (x := z * Y + y), w64 (by omega) (by omega) (x := (z * Y + y) * X), w64 (by omega) (by omega)]
  exact ⟨rfl, by omega⟩
def inB (X Y Z x y z : Int) : Bool := decide (0 ≤ x ∧ x < X ∧ 0 ≤ y ∧ y < Y ∧ 0 ≤ z ∧ z < Z)
theorem tdiv_nn {a b : Int} (h : 0 ≤ a) : Int.tdiv a b = a / b := Int.tdiv_eq_ediv_of_nonneg h
theorem tmod_nn {a b : Int} (h : 0 ≤ a) : Int.tmod a b = a % b := Int.tmod_eq_emod_of_nonneg h
theorem place_bd {X Y Z i : Int} (h : hasB X Y Z i = true) : (0 ≤ i % X ∧ i % X < X) ∧ (0 ≤ i / X % Y ∧ i / X % Y < Y) ∧ (0 ≤ i / X / Y ∧ i / X / Y < Z) ∧ 0 ≤ i / X ∧ i / X ≤ i := by
  obtain ⟨hg, hi, hi'⟩ := hasB_t h
  obtain ⟨h1, h2, h3, h4, h5, h6, h7⟩ := gridB_t hg
  have a : 0 ≤ i / X := Int.ediv_nonneg hi (by omega)
  refine ⟨⟨Int.emod_nonneg _ (by omega), Int.emod_lt_of_pos _ (by omega)⟩, ⟨Int.emod_nonneg _ (by omega), Int.emod_lt_of_pos _ (by omega)⟩, ⟨Int.ediv_nonneg a (by omega), ?_⟩, a, Int.ediv_le_self _ hi⟩
  rw [Int.ediv_ediv_of_nonneg (by omega)]
  refine Int.ediv_lt_of_lt_mul (Int.mul_pos (by omega) (by omega)) ?_
  rw [Int.mul_comm Z]
  exact hi'
def coarseV (X Y i : Int) : Int := (i / X / Y * ((Y + 1) / 2) + i / X % Y / 2) * ((X + 1) / 2) + i % X / 2
def absI (n : Int) : Int := if n < 0 then -n else n
theorem absI_sub (a b : Int) : absI (a - b) = absI (b - a) := by unfold absI; repeat' split <;> omega
theorem absI_bd {a : Int} {B : Int} (h : -B ≤ a) (h' : a ≤ B) : 0 ≤ absI a ∧ absI a ≤ B := by unfold absI; split <;> omega
def stepsV (X Y i k : Int) : Int := absI (i % X - k % X) + absI (i / X % Y - k / X % Y) + absI (i / X / Y - k / X / Y)
theorem stepsV_comm (X Y i k : Int) : stepsV X Y i k = stepsV X Y k i := by
  unfold stepsV
  rw [absI_sub (i % X), absI_sub (i / X % Y), absI_sub (i / X / Y)]
theorem steps_bd {X Y Z i k : Int} (h : hasB X Y Z i = true) (h' : hasB X Y Z k = true) : (0 ≤ absI (i % X - k % X) ∧ absI (i % X - k % X) ≤ 8) ∧ (0 ≤ absI (i / X % Y - k / X % Y) ∧ absI (i / X % Y - k / X % Y) ≤ 8) ∧ (0 ≤ absI (i / X / Y - k / X / Y) ∧ absI (i / X / Y - k / X / Y) ≤ 8) := by
  obtain ⟨h1, h2, h3, h4, h5, h6, h7⟩ := gridB_t (hasB_t h).1
  have a := place_bd h
  have b := place_bd h'
  exact ⟨absI_bd (by omega) (by omega), absI_bd (by omega) (by omega), absI_bd (by omega) (by omega)⟩
def filtN (p : Int → Bool) : Nat → Nat → List Int
  | _, 0 => []
  | i, d + 1 => if p (i : Int) = true then (i : Int) :: filtN p (i + 1) d else filtN p (i + 1) d
theorem filtN_pos {p : Int → Bool} {i d : Nat} (h : p (i : Int) = true) : filtN p i (d + 1) = (i : Int) :: filtN p (i + 1) d := by rw [filtN, if_pos h]
theorem filtN_neg {p : Int → Bool} {i d : Nat} (h : ¬ p (i : Int) = true) : filtN p i (d + 1) = filtN p (i + 1) d := by rw [filtN, if_neg h]
theorem filtN_len (p : Int → Bool) : ∀ (d i : Nat), (filtN p i d).length ≤ d
  | 0, i => by simp [filtN]
  | d + 1, i => by
    have := filtN_len p d (i + 1)
    unfold filtN
    split <;> simp <;> omega
theorem filtN_mem (p : Int → Bool) : ∀ (d i : Nat) (x : Int), x ∈ filtN p i d ↔ (i : Int) ≤ x ∧ x < ((i + d : Nat) : Int) ∧ p x = true
  | 0, i, x => by simp [filtN]; omega
  | d + 1, i, x => by
    have ih := filtN_mem p d (i + 1) x
    by_cases h : p (i : Int) = true
    · rw [filtN_pos h, List.mem_cons, ih]
      constructor
      · rintro (rfl | ⟨h1, h2, h3⟩)
        · exact ⟨by omega, by omega, h⟩
        · exact ⟨by omega, by omega, h3⟩
      · rintro ⟨h1, h2, h3⟩
        by_cases e : x = (i : Int)
        · exact .inl e
        · exact .inr ⟨by omega, by omega, h3⟩
    · rw [filtN_neg h, ih]
      constructor
      · rintro ⟨h1, h2, h3⟩; exact ⟨by omega, by omega, h3⟩
      · rintro ⟨h1, h2, h3⟩
        refine ⟨?_, by omega, h3⟩
        by_cases e : x = (i : Int)
        · subst e; exact absurd h3 h
        · omega
theorem hasB_of {X Y Z i : Int} (h : gridB X Y Z = true) (h0 : 0 ≤ i) (h1 : i < X * Y * Z) : hasB X Y Z i = true := by
  unfold hasB; rw [h, Bool.true_and]; exact decide_eq_true ⟨h0, h1⟩
def nearB (X Y i r k : Int) : Bool := decide (absI (i % X - k % X) ≤ r ∧ absI (i / X % Y - k / X % Y) ≤ r ∧ absI (i / X / Y - k / X / Y) ≤ r)
def pieceB (T M R : Int) : Bool := decide (0 ≤ T ∧ T ≤ 10000 ∧ 0 ≤ M ∧ M ≤ 1000 * T ∧ 0 ≤ R ∧ R ≤ 4)
theorem pieceB_t {T M R : Int} (h : pieceB T M R = true) : 0 ≤ T ∧ T ≤ 10000 ∧ 0 ≤ M ∧ M ≤ 1000 * T ∧ 0 ≤ R ∧ R ≤ 4 := of_decide_eq_true h
theorem impl_IsPiece_v (T M R : Int) : impl_IsPiece.f T M R = some (pieceB T M R) := by
  unfold impl_IsPiece.f pieceB
  by_cases h : 0 ≤ T ∧ T ≤ 10000
  · rw [w64 (by omega) (by omega)]
    repeat' split
    all_goals first
      | (congr 1; rw [decide_eq_decide]; omega)
      | (congr 1; symm; rw [decide_eq_false_iff_not]; omega)
  · have e : decide (0 ≤ T ∧ T ≤ 10000 ∧ 0 ≤ M ∧ M ≤ 1000 * T ∧ 0 ≤ R ∧ R ≤ 4) = false := by rw [decide_eq_false_iff_not]; omega
    rw [e]
    split
    · rw [if_neg (by omega)]
    · rfl
theorem spec_sbPiece_v (T M R : Int) : spec_sbPiece.f T M R = some (pieceB T M R) := by
  unfold spec_sbPiece.f pieceB
  simp only [spec_l1In_v, Option.bind_some, decide_eq_true_eq]
  by_cases h : 0 ≤ T ∧ T ≤ 10000
  · rw [w64 (by omega) (by omega)]
    repeat' split
    all_goals first
      | (congr 1; rw [decide_eq_decide]; omega)
      | (congr 1; symm; rw [decide_eq_false_iff_not]; omega)
  · have e : decide (0 ≤ T ∧ T ≤ 10000 ∧ 0 ≤ M ∧ M ≤ 1000 * T ∧ 0 ≤ R ∧ R ≤ 4) = false := by rw [decide_eq_false_iff_not]; omega
    rw [e, if_neg h]
def gcdI (x y : Int) : Int := (Nat.gcd x.toNat y.toNat : Nat)
theorem gcdI_step {x y : Int} (hx : 0 ≤ x) (hy : 0 ≤ y) : gcdI y (x % y) = gcdI x y := by
  unfold gcdI
  rw [Int.toNat_emod hx hy, Nat.gcd_comm, ← Nat.gcd_rec, Nat.gcd_comm]
theorem gcdI_zero {x : Int} (hx : 0 ≤ x) : gcdI x 0 = x := by
  unfold gcdI
  simp; omega
def modelB (X Y Z : Int) (t g r : List Int) : Bool := gridB X Y Z && decide ((t.length : Int) = X * Y * Z ∧ (g.length : Int) = X * Y * Z ∧ (r.length : Int) = X * Y * Z) && ((t.all fun x => decide (0 ≤ x ∧ x ≤ 10000)) && ((g.all fun x => decide (0 ≤ x ∧ x ≤ 1000)) && (r.all fun x => decide (0 ≤ x ∧ x ≤ 4))))
structure IsMod (X Y Z : Int) (t g r : List Int) : Prop where
  grid : gridB X Y Z = true
  lt : (t.length : Int) = X * Y * Z
  lg : g.length = t.length
  lr : r.length = t.length
  ht : ∀ x ∈ t, 0 ≤ x ∧ x ≤ 10000
  hg : ∀ x ∈ g, 0 ≤ x ∧ x ≤ 1000
  hr : ∀ x ∈ r, 0 ≤ x ∧ x ≤ 4
  pos : 1 ≤ t.length
  le : t.length ≤ 120
theorem modelB_iff {X Y Z : Int} {t g r : List Int} : modelB X Y Z t g r = true ↔ IsMod X Y Z t g r := by
  unfold modelB
  simp only [Bool.and_eq_true, decide_eq_true_eq, List.all_eq_true]
  constructor
  · rintro ⟨⟨h1, h2, h3, h4⟩, h5, h6, h7⟩
    have := grid_pos h1
    exact ⟨h1, h2, by omega, by omega, h5, h6, h7, by omega, by omega⟩
  · intro h
    have h1 := h.lt; have h2 := h.lg; have h3 := h.lr
    exact ⟨⟨h.grid, h1, by omega, by omega⟩, h.ht, h.hg, h.hr⟩
theorem modelB_t {X Y Z : Int} {t g r : List Int} (h : modelB X Y Z t g r = true) : IsMod X Y Z t g r := modelB_iff.1 h
theorem modelB_f {X Y Z : Int} {t g r : List Int} (h : ¬ modelB X Y Z t g r = true) : modelB X Y Z t g r = false := by simpa using h
theorem rd_mem {l : List Int} {i : Int} (h0 : 0 ≤ i) (h : i < (l.length : Int)) : rd l i ∈ l := by
  unfold rd
  rw [List.getD_eq_getElem?_getD, List.getElem?_eq_getElem (by omega)]
  exact List.getElem_mem _
theorem rd_of_getElem? {l : List Int} {i : Nat} {x : Int} (h : l[i]? = some x) : rd l (i : Int) = x := by
  rw [rd_nat, List.getD_eq_getElem?_getD, h]; rfl
theorem IsMod.rt {X Y Z : Int} {t g r : List Int} (h : IsMod X Y Z t g r) {i : Int} (h0 : 0 ≤ i) (h1 : i < (t.length : Int)) : 0 ≤ rd t i ∧ rd t i ≤ 10000 := h.ht _ (rd_mem h0 h1)
theorem IsMod.rg {X Y Z : Int} {t g r : List Int} (h : IsMod X Y Z t g r) {i : Int} (h0 : 0 ≤ i) (h1 : i < (t.length : Int)) : 0 ≤ rd g i ∧ rd g i ≤ 1000 := h.hg _ (rd_mem h0 (by have := h.lg; omega))
theorem IsMod.rr {X Y Z : Int} {t g r : List Int} (h : IsMod X Y Z t g r) {i : Int} (h0 : 0 ≤ i) (h1 : i < (t.length : Int)) : 0 ≤ rd r i ∧ rd r i ≤ 4 := h.hr _ (rd_mem h0 (by have := h.lr; omega))
theorem IsMod.rm {X Y Z : Int} {t g r : List Int} (h : IsMod X Y Z t g r) {i : Int} (h0 : 0 ≤ i) (h1 : i < (t.length : Int)) : 0 ≤ rd t i * rd g i ∧ rd t i * rd g i ≤ 10000000 :=
  mul_bd (h.rt h0 h1).1 (h.rt h0 h1).2 (h.rg h0 h1).1 (h.rg h0 h1).2
def marks (n : Nat) (a : Int) : List Int := (List.range n).map fun i : Nat => a + (i : Int)
theorem marks_length (n : Nat) (a : Int) : (marks n a).length = n := by simp [marks]
theorem marks_rd {n : Nat} {a : Int} {i : Nat} (h : i < n) : rd (marks n a) (i : Int) = a + (i : Int) := by
  rw [rd_get (by rw [marks_length]; exact h)]; simp [marks]
theorem laws_markIntS_l (n : Nat) (a : Int) (ha : 0 ≤ a) (ha' : a ≤ 1152921504606846976) (hn : n ≤ 1152921504606846976) : ∀ (d k i : Nat) (y : List Int), i + d = n → d < k → y.length = n → (∀ j, j < i → y[j]? = some (a + (j : Int))) →
    laws_markIntS.l0 k y (a + (i : Int)) (i : Int) = some (a + (n : Int), marks n a) := by
  intro d
  induction d with
  | zero =>
    intro k i y hi hk hy hj
    obtain ⟨k, rfl⟩ := k_succ (by omega : 0 < k)
    simp only [laws_markIntS.l0]
    rw [if_neg (by omega)]
    have e : y = marks n a := by
      refine List.ext_getElem? fun j => ?_
      by_cases h : j < n
      · rw [hj j (by omega)]; simp [marks, h]
      · rw [List.getElem?_eq_none (by omega), List.getElem?_eq_none (by rw [marks_length]; omega)]
    rw [e, show i = n by omega]
  | succ d ih =>
    intro k i y hi hk hy hj
    obtain ⟨k, rfl⟩ := k_succ (by omega : 0 < k)
    simp only [laws_markIntS.l0]
    rw [if_pos (by omega), if_pos (by omega), w64_succ (by omega), w64 (by omega) (by omega), show a + (i : Int) + 1 = a + ((i + 1 : Nat) : Int) by omega]
    refine ih k (i + 1) _ (by omega) (by omega) (by simpa using hy) (fun j hj' => ?_)
    rw [show ((i : Int) : Int).toNat = i by omega]
    by_cases h : j = i
    · subst h
      rw [List.getElem?_set_self (by omega)]
    · rw [List.getElem?_set_ne (by omega)]
      exact hj j (by omega)
theorem laws_markIntS_v (l : List Int) (a : Int) (ha : 0 ≤ a) (ha' : a ≤ 1152921504606846976) (hn : l.length ≤ 1048576) {k : Nat} (hk : 1048576 < k) : laws_markIntS.f k l a = some (a + (l.length : Int), marks l.length a) := by
  unfold laws_markIntS.f
  have := laws_markIntS_l l.length a ha ha' (by omega) l.length k 0 l (by omega) (by omega) rfl (fun j hj => by omega)
  simpa using this
def risF (n : Int) : Int → List Int → Bool
  | _, [] => true
  | p, x :: xs => decide (0 ≤ x ∧ x < n ∧ p < x) && risF n x xs
def risB (n : Int) (l : List Int) : Bool := risF n (-1) l
theorem risF_cons (n p x : Int) (xs : List Int) : risF n p (x :: xs) = (decide (0 ≤ x ∧ x < n ∧ p < x) && risF n x xs) := rfl
theorem risF_mem {n : Int} : ∀ {p : Int} {l : List Int}, risF n p l = true → ∀ x ∈ l, 0 ≤ x ∧ x < n
  | _, [], _, x, hx => by cases hx
  | p, y :: l, h, x, hx => by
    unfold risF at h
    rw [Bool.and_eq_true, decide_eq_true_eq] at h
    rcases List.mem_cons.1 hx with rfl | hx
    · exact ⟨h.1.1, h.1.2.1⟩
    · exact risF_mem h.2 x hx
theorem risF_len {n : Int} : ∀ {p : Int} {l : List Int}, -1 ≤ p → p < n → risF n p l = true → (l.length : Int) + p < n
  | p, [], h0, h1, _ => by simp; omega
  | p, x :: l, h0, h1, h => by
    unfold risF at h
    rw [Bool.and_eq_true, decide_eq_true_eq] at h
    have := risF_len (by omega) h.1.2.1 h.2
    simp only [List.length_cons]
    omega
theorem risB_mem {n : Int} {l : List Int} (h : risB n l = true) : ∀ x ∈ l, 0 ≤ x ∧ x < n := risF_mem h
theorem risB_len {n : Int} {l : List Int} (hn : 0 ≤ n) (h : risB n l = true) : (l.length : Int) ≤ n := by have := risF_len (by omega) (by omega) h; omega
def sumT (t l : List Int) : Int := (l.map (rd t)).sum
def sumM (t g l : List Int) : Int := (l.map fun i => rd t i * rd g i).sum
theorem sum_bd (f : Int → Int) (B : Int) (hB : 0 ≤ B) : ∀ (l : List Int), (∀ x ∈ l, 0 ≤ f x ∧ f x ≤ B) → 0 ≤ (l.map f).sum ∧ (l.map f).sum ≤ B * (l.length : Int)
  | [], _ => by simp
  | x :: l, h => by
    have h1 := h x (by simp)
    have h2 := sum_bd f B hB l (fun y hy => h y (by simp [hy]))
    simp only [List.map_cons, List.sum_cons, List.length_cons]
    have e : B * ((l.length + 1 : Nat) : Int) = B * (l.length : Int) + B := by
      rw [show ((l.length + 1 : Nat) : Int) = (l.length : Int) + 1 by omega, Int.mul_add, Int.mul_one]
    omega
def filtI (p : Int → Bool) : List Int → Nat → List Int
  | [], _ => []
  | x :: l, i => if p x = true then (i : Int) :: filtI p l (i + 1) else filtI p l (i + 1)
theorem filtI_pos {p : Int → Bool} {x : Int} {l : List Int} {i : Nat} (h : p x = true) : filtI p (x :: l) i = (i : Int) :: filtI p l (i + 1) := by rw [filtI, if_pos h]
theorem filtI_neg {p : Int → Bool} {x : Int} {l : List Int} {i : Nat} (h : ¬ p x = true) : filtI p (x :: l) i = filtI p l (i + 1) := by rw [filtI, if_neg h]
theorem filtI_len (p : Int → Bool) : ∀ (l : List Int) (i : Nat), (filtI p l i).length ≤ l.length
  | [], _ => by simp [filtI]
  | x :: l, i => by
    have := filtI_len p l (i + 1)
    unfold filtI
    split <;> simp <;> omega
theorem laws_eqPiece_v (a b c : Int) : laws_eqPiece.f a b c a b c = some true := by simp [laws_eqPiece.f]
theorem getD_drop {α : Type} {l : List α} {i : Nat} (z : α) (h : i < l.length) : l.drop i = l.getD i z :: l.drop (i + 1) := by
  rw [List.drop_eq_getElem_cons h, List.getD_eq_getElem?_getD, List.getElem?_eq_getElem h]; rfl
theorem laws_eqPieceS_l (l : List S29) (hn : l.length ≤ 1152921504606846976) : ∀ (d k i : Nat), i + d = l.length → d < k →
    laws_eqPieceS.l0 k l l (i : Int) = some true := by
  intro d
  induction d with
  | zero =>
    intro k i hi hk
    obtain ⟨k, rfl⟩ := k_succ (by omega : 0 < k)
    simp only [laws_eqPieceS.l0]
    rw [if_neg (by omega)]
  | succ d ih =>
    intro k i hi hk
    obtain ⟨k, rfl⟩ := k_succ (by omega : 0 < k)
    simp only [laws_eqPieceS.l0]
    rw [if_pos (by omega), if_pos (by omega), if_pos (by omega), w64_succ (by omega), laws_eqPiece_v, Option.bind_some, if_pos rfl, ih k (i + 1) (by omega) (by omega)]
theorem laws_eqPieceS_v (l : List S29) (hn : l.length ≤ 1048576) {k : Nat} (hk : 1048576 < k) : laws_eqPieceS.f k l l = some true := by
  unfold laws_eqPieceS.f
  rw [if_pos rfl]
  exact laws_eqPieceS_l l (by omega) l.length k 0 (by omega) (by omega)
def marksP (n : Nat) (a : Int) : List S29 := (List.range n).map fun i : Nat => ⟨a + 3 * (i : Int), a + 3 * (i : Int) + 1, a + 3 * (i : Int) + 2⟩
theorem marksP_length (n : Nat) (a : Int) : (marksP n a).length = n := by simp [marksP]
theorem rdP_set {l : List S29} {i : Nat} {v : S29} (hi : i < l.length) : rd_T29 (l.set i v) (i : Int) = v := by
  unfold rd_T29
  rw [List.getD_eq_getElem?_getD, show ((i : Int)).toNat = i by omega, List.getElem?_set_self hi]; rfl
theorem marksP_rd {n : Nat} {a : Int} {i : Nat} (h : i < n) : rd_T29 (marksP n a) (i : Int) = ⟨a + 3 * (i : Int), a + 3 * (i : Int) + 1, a + 3 * (i : Int) + 2⟩ := by
  unfold rd_T29
  rw [List.getD_eq_getElem?_getD, show ((i : Int)).toNat = i by omega]
  simp [marksP, h]
theorem laws_markPieceS_l (n : Nat) (a : Int) (ha : 0 ≤ a) (ha' : a ≤ 1048576) (hn : n ≤ 1048576) : ∀ (d k i : Nat) (y : List S29), i + d = n → d < k → y.length = n → (∀ j, j < i → y[j]? = (marksP n a)[j]?) →
    laws_markPieceS.l0 k y (a + 3 * (i : Int)) (i : Int) = some (a + 3 * (n : Int), marksP n a) := by
  intro d
  induction d with
  | zero =>
    intro k i y hi hk hy hj
    obtain ⟨k, rfl⟩ := k_succ (by omega : 0 < k)
    simp only [laws_markPieceS.l0]
    rw [if_neg (by omega)]
    have e : y = marksP n a := by
      refine List.ext_getElem? fun j => ?_
      by_cases h : j < n
      · exact hj j (by omega)
      · rw [List.getElem?_eq_none (by omega), List.getElem?_eq_none (by rw [marksP_length]; omega)]
    rw [e, show i = n by omega]
  | succ d ih =>
    intro k i y hi hk hy hj
    obtain ⟨k, rfl⟩ := k_succ (by omega : 0 < k)
    simp only [laws_markPieceS.l0]
    rw [if_pos (by omega), if_pos (by omega), w64_succ (by omega)]
    simp only [Option.bind_some]
    rw [show ((i : Int)).toNat = i by omega, w64 (by omega) (by omega) (x := a + 3 * (i : Int) + 1), w64 (by omega) (by omega) (x := a + 3 * (i : Int) + 1 + 1), w64 (by omega) (by omega) (x := a + 3 * (i : Int) + 1 + 1 + 1), show a + 3 * (i : Int) + 1 + 1 + 1 = a + 3 * ((i + 1 : Nat) : Int) by omega]
    rw [rdP_set (by first | omega | (simp only [List.length_set]; omega)), rdP_set (by first | omega | (simp only [List.length_set]; omega))]
    refine ih k (i + 1) _ (by omega) (by omega) (by simpa using hy) (fun j hj' => ?_)
    by_cases h : j = i
    · subst h
      rw [List.getElem?_set_self (by simp; omega)]
      simp only [marksP, List.getElem?_map]
      rw [List.getElem?_range (by omega)]
      simp; omega
    · rw [List.getElem?_set_ne (by omega), List.getElem?_set_ne (by omega), List.getElem?_set_ne (by omega)]
      exact hj j (by omega)
theorem laws_markPieceS_v (l : List S29) (hn : l.length ≤ 1048576) {k : Nat} (hk : 1048576 < k) : laws_markPieceS.f k l 1 = some (1 + 3 * (l.length : Int), marksP l.length 1) := by
  unfold laws_markPieceS.f
  have := laws_markPieceS_l l.length 1 (by omega) (by omega) hn l.length k 0 l (by omega) (by omega) rfl (fun j hj => by omega)
  simpa using this
theorem laws_heldPieceS_l (n : Nat) (a : Int) (ha : 0 ≤ a) (ha' : a ≤ 1048576) (hn : n ≤ 1048576) : ∀ (d k i : Nat), i + d = n → d < k →
    laws_heldPieceS.l0 k (marksP n a) (a + 3 * (i : Int)) (i : Int) = some (a + 3 * (n : Int)) := by
  intro d
  induction d with
  | zero =>
    intro k i hi hk
    obtain ⟨k, rfl⟩ := k_succ (by omega : 0 < k)
    simp only [laws_heldPieceS.l0, marksP_length]
    rw [if_neg (by omega), show i = n by omega]
  | succ d ih =>
    intro k i hi hk
    obtain ⟨k, rfl⟩ := k_succ (by omega : 0 < k)
    simp only [laws_heldPieceS.l0, marksP_length]
    rw [if_pos (by omega), if_pos (by omega), marksP_rd (by omega)]
    simp only
    rw [if_pos (by simp), w64 (by omega) (by omega) (x := a + 3 * (i : Int) + 1), if_pos (by simp), w64 (by omega) (by omega) (x := a + 3 * (i : Int) + 1 + 1), if_pos (by omega), w64 (by omega) (by omega) (x := a + 3 * (i : Int) + 1 + 1 + 1), w64_succ (by omega), show a + 3 * (i : Int) + 1 + 1 + 1 = a + 3 * ((i + 1 : Nat) : Int) by omega]
    exact ih k (i + 1) (by omega) (by omega)
theorem laws_heldPieceS_v (n : Nat) (hn : n ≤ 1048576) {k : Nat} (hk : 1048576 < k) : laws_heldPieceS.f k (marksP n 1) 1 = some (1 + 3 * (n : Int)) := by
  unfold laws_heldPieceS.f
  have := laws_heldPieceS_l n 1 (by omega) (by omega) hn n k 0 (by omega) (by omega)
  simpa using this
def baseL (W S : Int) (l : List Int) : List Int := l.map fun w => W * w / S
def remL (W S : Int) (l : List Int) : List Int := l.map fun w => W * w % S
def bestF (R : List Int) : Int → Nat → Nat → Int
  | best, _, 0 => best
  | best, i, d + 1 => bestF R (if rd R (i : Int) > rd R best then (i : Int) else best) (i + 1) d
def distF : List Int → List Int → Nat → List Int
  | _, out, 0 => out
  | R, out, m + 1 => distF (R.set (bestF R 0 0 R.length).toNat (-1)) (out.set (bestF R 0 0 R.length).toNat (rd out (bestF R 0 0 R.length) + 1)) m
def sharesV (W : Int) (l : List Int) : List Int := distF (remL W l.sum l) (baseL W l.sum l) (W - (baseL W l.sum l).sum).toNat
/-- what the two programs ask of a whole number and its weights -/
structure Wts (W : Int) (l : List Int) : Prop where
  w0 : 0 ≤ W
  w1 : W ≤ 10000000
  len : l.length ≤ 20
  el : ∀ x ∈ l, 0 ≤ x ∧ x ≤ 10000
  pos : 0 < l.sum
theorem sum_le (B : Int) (hB : 0 ≤ B) : ∀ (l : List Int), (∀ x ∈ l, 0 ≤ x ∧ x ≤ B) → 0 ≤ l.sum ∧ l.sum ≤ B * (l.length : Int) := by
  intro l h
  have := sum_bd (fun x => x) B hB l h
  simpa using this
theorem Wts.sum_le {W : Int} {l : List Int} (h : Wts W l) : l.sum ≤ 200000 := by
  have := (Pure.sum_le 10000 (by omega) l h.el).2
  have := h.len
  omega
theorem Wts.base {W : Int} {l : List Int} (h : Wts W l) {w : Int} (hw : w ∈ l) : 0 ≤ W * w / l.sum ∧ W * w / l.sum ≤ 100000000000 ∧ 0 ≤ W * w % l.sum ∧ W * w % l.sum < l.sum ∧ 0 ≤ W * w ∧ W * w ≤ 100000000000 := by
  have hm := mul_bd h.w0 h.w1 (h.el w hw).1 (h.el w hw).2
  have := h.pos
  have h1 := Int.ediv_le_self l.sum hm.1
  exact ⟨Int.ediv_nonneg hm.1 (by omega), by omega, Int.emod_nonneg _ (by omega), Int.emod_lt_of_pos _ h.pos, hm.1, by omega⟩
theorem baseL_len (W S : Int) (l : List Int) : (baseL W S l).length = l.length := by simp [baseL]
theorem remL_len (W S : Int) (l : List Int) : (remL W S l).length = l.length := by simp [remL]
theorem base_rem (W S : Int) : ∀ l : List Int, (baseL W S l).sum * S + (remL W S l).sum = W * l.sum
  | [] => by simp [baseL, remL]
  | w :: l => by
    have ih := base_rem W S l
    unfold baseL remL at ih ⊢
    simp only [List.map_cons, List.sum_cons]
    have e := Int.mul_ediv_add_emod (W * w) S
    rw [Int.add_mul, Int.mul_add, ← ih, ← e, Int.mul_comm S]
    have e2 : W * w / S * S + W * w % S = W * w := by rw [Int.mul_comm]; exact Int.mul_ediv_add_emod (W * w) S
    rw [e2]
    omega
theorem rem_lt (W S : Int) (hS : 0 < S) : ∀ l : List Int, l ≠ [] → 0 ≤ (remL W S l).sum ∧ (remL W S l).sum < (l.length : Int) * S
  | [], h => absurd rfl h
  | w :: l, _ => by
    have a := Int.emod_nonneg (W * w) (by omega : S ≠ 0)
    have b := Int.emod_lt_of_pos (W * w) hS
    unfold remL
    simp only [List.map_cons, List.sum_cons, List.length_cons]
    rw [show ((l.length + 1 : Nat) : Int) * S = (l.length : Int) * S + S by rw [show ((l.length + 1 : Nat) : Int) = (l.length : Int) + 1 by omega, Int.add_mul, Int.one_mul]]
    by_cases hl : l = []
    · subst hl; simp; omega
    · have ih := rem_lt W S hS l hl
      unfold remL at ih
      omega
theorem Wts.ne {W : Int} {l : List Int} (h : Wts W l) : l ≠ [] := by
  intro e; have := h.pos; rw [e] at this; simp at this
/-- what is left is not negative, and less than the number of weights -/
theorem Wts.left {W : Int} {l : List Int} (h : Wts W l) : 0 ≤ W - (baseL W l.sum l).sum ∧ W - (baseL W l.sum l).sum < (l.length : Int) := by
  have e := base_rem W l.sum l
  have r := rem_lt W l.sum h.pos l h.ne
  have hp := h.pos
  have e2 : (W - (baseL W l.sum l).sum) * l.sum = (remL W l.sum l).sum := by rw [Int.sub_mul]; omega
  constructor
  · by_cases hc : 0 ≤ W - (baseL W l.sum l).sum
    · exact hc
    · have : (W - (baseL W l.sum l).sum) * l.sum < 0 := Int.mul_neg_of_neg_of_pos (by omega) hp
      omega
  · refine Int.lt_of_mul_lt_mul_right (a := l.sum) ?_ (by omega)
    omega
theorem sum_take_succ (l : List Int) {i : Nat} (h : i < l.length) : (l.take (i + 1)).sum = (l.take i).sum + rd l (i : Int) := by
  rw [List.take_succ_eq_append_getElem h, List.sum_append, rd_get h]; simp
theorem sum_nn : ∀ l : List Int, (∀ x ∈ l, 0 ≤ x) → 0 ≤ l.sum
  | [], _ => by simp
  | x :: l, h => by
    have := sum_nn l (fun y hy => h y (by simp [hy]))
    have := h x (by simp)
    simp; omega
theorem sum_take_le : ∀ (l : List Int) (i : Nat), (∀ x ∈ l, 0 ≤ x) → 0 ≤ (l.take i).sum ∧ (l.take i).sum ≤ l.sum
  | [], i, _ => by simp
  | x :: l, 0, h => by have := sum_nn (x :: l) h; simp at this ⊢; omega
  | x :: l, i + 1, h => by
    have := sum_take_le l i (fun y hy => h y (by simp [hy]))
    have := h x (by simp)
    simp; omega
theorem Wts.take {W : Int} {l : List Int} (h : Wts W l) (i : Nat) : 0 ≤ ((baseL W l.sum l).take i).sum ∧ ((baseL W l.sum l).take i).sum ≤ W := by
  have a := sum_take_le (baseL W l.sum l) i (fun x hx => by
    unfold baseL at hx
    obtain ⟨w, hw, rfl⟩ := List.mem_map.1 hx
    exact (h.base hw).1)
  have := h.left
  omega
theorem bestF_bd (R : List Int) : ∀ (d i : Nat) (best : Int), 0 ≤ best → best < ((i + d : Nat) : Int) ∨ (best = 0 ∧ i + d = 0) → 0 ≤ bestF R best i d ∧ (bestF R best i d < ((i + d : Nat) : Int) ∨ i + d = 0)
  | 0, i, best, h0, h1 => ⟨h0, by unfold bestF; omega⟩
  | d + 1, i, best, h0, h1 => by
    unfold bestF
    have := bestF_bd R d (i + 1) (if rd R (i : Int) > rd R best then (i : Int) else best) (by split <;> omega) (by split <;> omega)
    omega
theorem best_ok {R : List Int} (h : 0 < R.length) : 0 ≤ bestF R 0 0 R.length ∧ bestF R 0 0 R.length < (R.length : Int) := by
  have := bestF_bd R R.length 0 0 (by omega) (by omega)
  omega
/-- the greatest is found: nothing is greater -/
theorem bestF_max (R : List Int) : ∀ (d i : Nat) (best : Int), (∀ j : Nat, j < i → rd R (j : Int) ≤ rd R best) → ∀ j : Nat, j < i + d → rd R (j : Int) ≤ rd R (bestF R best i d)
  | 0, i, best, h, j, hj => h j (by omega)
  | d + 1, i, best, h, j, hj => by
    unfold bestF
    refine bestF_max R d (i + 1) _ (fun j hj => ?_) j (by omega)
    by_cases hc : rd R (i : Int) > rd R best
    · rw [if_pos hc]
      by_cases e : j = i
      · subst e; omega
      · have := h j (by omega); omega
    · rw [if_neg hc]
      by_cases e : j = i
      · subst e; omega
      · exact h j (by omega)
theorem impl_sharesOf_l3 (out R : List Int) (left : Int) (n : Nat) (hR : R.length = n) (ho : out.length = n) (hn : n ≤ 20) (hout : ∀ j : Int, 0 ≤ j → j < (n : Int) → 0 ≤ rd out j ∧ rd out j ≤ 200000000000) (hl : 0 < left) (hl' : left ≤ 10000000) : ∀ (d i k : Nat) (best : Int), i + d = n → 0 ≤ best → best < (n : Int) →
    impl_sharesOf.l3 (k + d + 1) out R left best (R.length : Int) (i : Int) = impl_sharesOf.l2 k (out.set (bestF R best i d).toNat (rd out (bestF R best i d) + 1)) (R.set (bestF R best i d).toNat (-1)) (left - 1) := by
  intro d
  induction d with
  | zero =>
    intro i k best hi h0 h1
    have hb := hout best h0 h1
    simp only [Nat.add_zero, impl_sharesOf.l3]
    rw [if_neg (by omega), if_pos h0, if_pos (by omega), if_pos (by omega), w64 (by omega) (by omega), w64 (by omega) (by omega)]
    rfl
  | succ d ih =>
    intro i k best hi h0 h1
    obtain ⟨K, hK⟩ : ∃ K, K = k + d + 1 := ⟨_, rfl⟩
    rw [show k + (d + 1) + 1 = K + 1 by omega]
    simp only [impl_sharesOf.l3]
    rw [if_pos (by omega), if_pos (by omega), if_pos (by omega), if_pos h0, if_pos (by omega), w64_succ (by omega)]
    unfold bestF
    by_cases hc : rd R (i : Int) > rd R best
    · rw [if_pos hc, if_pos hc, hK]; exact ih (i + 1) k _ (by omega) (by omega) (by omega)
    · rw [if_neg hc, if_neg hc, hK]; exact ih (i + 1) k _ (by omega) (by omega) (by omega)
theorem impl_sharesOf_l2 (n : Nat) (hn : n ≤ 20) (hn0 : 0 < n) : ∀ (m k : Nat) (out R : List Int), R.length = n → out.length = n → m * (n + 2) < k → m ≤ 10000 → (∀ j : Int, 0 ≤ j → j < (n : Int) → 0 ≤ rd out j ∧ rd out j ≤ 200000000000 - (m : Int)) →
    impl_sharesOf.l2 k out R (m : Int) = some (distF R out m) := by
  intro m
  induction m with
  | zero =>
    intro k out R hR ho hk _ _
    obtain ⟨k, rfl⟩ := k_succ (by omega : 0 < k)
    simp only [impl_sharesOf.l2]
    rw [if_neg (by omega)]
    rfl
  | succ m ih =>
    intro k out R hR ho hk hm hb
    rw [Nat.succ_mul] at hk
    obtain ⟨k, rfl⟩ : ∃ q, k = (q + n + 1) + 1 := ⟨k - (n + 2), by omega⟩
    have hbest := best_ok (R := R) (by omega)
    have e := impl_sharesOf_l3 out R ((m + 1 : Nat) : Int) n hR ho hn (fun j h0 h1 => by have := hb j h0 h1; omega) (by omega) (by omega) n 0 k 0 (by omega) (by omega) (by omega)
    simp only [impl_sharesOf.l2]
    rw [if_pos (by omega)]
    refine Eq.trans e ?_
    rw [← hR, show ((m + 1 : Nat) : Int) - 1 = (m : Int) by omega]
    rw [hR]
    have := ih k (out.set (bestF R 0 0 n).toNat (rd out (bestF R 0 0 n) + 1)) (R.set (bestF R 0 0 n).toNat (-1)) (by simpa using hR) (by simpa using ho) (by omega) (by omega) (fun j h0 h1 => by
      rw [hR] at hbest
      rw [rd_set j h0 (by omega)]
      have h2 := hb j h0 h1
      have h3 := hb _ hbest.1 hbest.2
      split <;> omega)
    rw [this]
    conv => rhs; unfold distF
    rw [hR]
theorem impl_sharesOf_l1 {W : Int} {l : List Int} (h : Wts W l) : ∀ (d i k : Nat) (y8 y9 : List Int), i + d = l.length → y8.length = l.length → y9.length = l.length → (∀ j, j < i → y8[j]? = (baseL W l.sum l)[j]?) → (∀ j, j < i → y9[j]? = (remL W l.sum l)[j]?) →
    impl_sharesOf.l1 (k + d + 1) W l.sum y8 y9 (W - ((baseL W l.sum l).take i).sum) l (l.length : Int) (i : Int) = impl_sharesOf.l2 k (baseL W l.sum l) (remL W l.sum l) (W - (baseL W l.sum l).sum) := by
  intro d
  induction d with
  | zero =>
    intro i k y8 y9 hi h8 h9 e8 e9
    simp only [Nat.add_zero, impl_sharesOf.l1]
    rw [if_neg (by omega)]
    have a8 : y8 = baseL W l.sum l := by
      refine List.ext_getElem? fun j => ?_
      by_cases hj : j < l.length
      · exact e8 j (by omega)
      · rw [List.getElem?_eq_none (by omega), List.getElem?_eq_none (by rw [baseL_len]; omega)]
    have a9 : y9 = remL W l.sum l := by
      refine List.ext_getElem? fun j => ?_
      by_cases hj : j < l.length
      · exact e9 j (by omega)
      · rw [List.getElem?_eq_none (by omega), List.getElem?_eq_none (by rw [remL_len]; omega)]
    rw [a8, a9, List.take_of_length_le (by rw [baseL_len]; omega)]
  | succ d ih =>
    intro i k y8 y9 hi h8 h9 e8 e9
    have hw : rd l (i : Int) ∈ l := rd_mem (by omega) (by omega)
    have hb := h.base hw
    have hS := h.pos; have hlen := h.len
    have hbi : (baseL W l.sum l)[i]? = some (W * rd l (i : Int) / l.sum) := by
      unfold baseL; rw [List.getElem?_map, List.getElem?_eq_getElem (by omega), rd_get (by omega)]; rfl
    have hri : (remL W l.sum l)[i]? = some (W * rd l (i : Int) % l.sum) := by
      unfold remL; rw [List.getElem?_map, List.getElem?_eq_getElem (by omega), rd_get (by omega)]; rfl
    have ht := h.take i
    have hts : ((baseL W l.sum l).take (i + 1)).sum = ((baseL W l.sum l).take i).sum + W * rd l (i : Int) / l.sum := by
      rw [sum_take_succ _ (by rw [baseL_len]; omega), rd_of_getElem? hbi]
    have ht1 := h.take (i + 1)
    have hw1 := h.w1
    obtain ⟨K, hK⟩ : ∃ K, K = k + d + 1 := ⟨_, rfl⟩
    rw [show k + (d + 1) + 1 = K + 1 by omega]
    simp only [impl_sharesOf.l1]
    rw [if_pos (by omega), if_pos (by omega), if_pos (by omega), if_neg (by omega), if_pos (by omega)]
    simp only [Option.bind_some]
    rw [if_pos (by omega), w64 (by omega) (by omega) (x := W * rd l (i : Int)), tdiv_nn hb.2.2.2.2.1, tmod_nn hb.2.2.2.2.1, w64 (by omega) (by omega) (x := W * rd l (i : Int) / l.sum), show ((i : Int)).toNat = i by omega]
    rw [show rd (y8.set i (W * rd l (i : Int) / l.sum)) (i : Int) = W * rd l (i : Int) / l.sum by rw [rd_set _ (by omega) (by omega), if_pos rfl]]
    rw [w64 (by omega) (by omega), w64_succ (by omega), show W - ((baseL W l.sum l).take i).sum - W * rd l (i : Int) / l.sum = W - ((baseL W l.sum l).take (i + 1)).sum by omega, hK]
    refine ih (i + 1) k _ _ (by omega) (by simpa using h8) (by simpa using h9) (fun j hj => ?_) (fun j hj => ?_)
    · by_cases e : j = i
      · subst e; rw [List.getElem?_set_self (by omega), hbi]
      · rw [List.getElem?_set_ne (by omega)]; exact e8 j (by omega)
    · by_cases e : j = i
      · subst e; rw [List.getElem?_set_self (by omega), hri]
      · rw [List.getElem?_set_ne (by omega)]; exact e9 j (by omega)
theorem impl_sharesOf_l0 {W : Int} {l : List Int} (h : Wts W l) : ∀ (d i k : Nat), i + d = l.length →
    impl_sharesOf.l0 (k + d + 1) W l (l.take i).sum l (l.length : Int) (i : Int) = impl_sharesOf.l1 k W l.sum (List.replicate l.length 0) (List.replicate l.length 0) W l (l.length : Int) 0 := by
  intro d
  induction d with
  | zero =>
    intro i k hi
    have := h.len
    simp only [Nat.add_zero, impl_sharesOf.l0]
    rw [if_neg (by omega), if_pos (by omega), if_pos (by omega), List.take_of_length_le (by omega), show ((l.length : Int)).toNat = l.length by omega]
  | succ d ih =>
    intro i k hi
    have := h.len
    have ht := sum_take_le l i (fun x hx => (h.el x hx).1)
    have hs := h.sum_le
    have hw := h.el _ (rd_mem (l := l) (i := (i : Int)) (by omega) (by omega))
    obtain ⟨K, hK⟩ : ∃ K, K = k + d + 1 := ⟨_, rfl⟩
    rw [show k + (d + 1) + 1 = K + 1 by omega]
    simp only [impl_sharesOf.l0]
    rw [if_pos (by omega), if_pos (by omega), if_pos (by omega), w64 (by omega) (by omega), w64_succ (by omega), ← sum_take_succ l (by omega), hK]
    exact ih (i + 1) k (by omega)
theorem impl_sharesOf_v {W : Int} {l : List Int} (h : Wts W l) {k : Nat} (hk : 1000 < k) : impl_sharesOf.f k W l = some (sharesV W l) := by
  have hl := h.len
  have hlf := h.left
  have hn0 : 0 < l.length := by
    have := h.ne
    cases l with
    | nil => exact absurd rfl this
    | cons => simp
  obtain ⟨q, rfl⟩ : ∃ q, k = (q + l.length + 1) + l.length + 1 := ⟨k - 2 * l.length - 2, by omega⟩
  unfold impl_sharesOf.f sharesV
  have e0 := impl_sharesOf_l0 h l.length 0 (q + l.length + 1) (by omega)
  have e1 := impl_sharesOf_l1 h l.length 0 q (List.replicate l.length 0) (List.replicate l.length 0) (by omega) (by simp) (by simp) (fun j hj => by omega) (fun j hj => by omega)
  simp only [List.take_zero, List.sum_nil, Int.sub_zero] at e0 e1
  refine (show _ = _ from e0).trans (e1.trans ?_)
  have hm : (W - (baseL W l.sum l).sum).toNat * (l.length + 2) ≤ 20 * 22 := Nat.mul_le_mul (by omega) (by omega)
  have e2 := impl_sharesOf_l2 l.length hl hn0 (W - (baseL W l.sum l).sum).toNat q (baseL W l.sum l) (remL W l.sum l) (remL_len _ _ _) (baseL_len _ _ _) (by omega) (by omega) (fun j h0 h1 => by
    have hmem : rd (baseL W l.sum l) j ∈ baseL W l.sum l := rd_mem h0 (by rw [baseL_len]; exact h1)
    unfold baseL at hmem
    obtain ⟨w, hw, e⟩ := List.mem_map.1 hmem
    have hb := h.base hw
    have e' : rd (baseL W l.sum l) j = W * w / l.sum := e.symm
    omega)
  rw [show ((W - (baseL W l.sum l).sum).toNat : Int) = W - (baseL W l.sum l).sum by omega] at e2
  exact e2
theorem spec_l1Has_l (l : List Int) (a : Int) (hn : l.length ≤ 1048576) : ∀ (d k i : Nat), i + d = l.length → d < k → spec_l1Has.l0 k a l (l.length : Int) (i : Int) = some (decide (a ∈ l.drop i)) := by
  intro d
  induction d with
  | zero =>
    intro k i hi hk
    obtain ⟨k, rfl⟩ := k_succ (by omega : 0 < k)
    simp only [spec_l1Has.l0]
    rw [if_neg (by omega), List.drop_eq_nil_of_le (by omega)]
    simp
  | succ d ih =>
    intro k i hi hk
    obtain ⟨k, rfl⟩ := k_succ (by omega : 0 < k)
    simp only [spec_l1Has.l0]
    rw [if_pos (by omega), if_pos (by omega), if_pos (by omega), w64_succ (by omega), drop_rd (by omega : i < l.length), ih k (i + 1) (by omega) (by omega)]
    by_cases h : rd l (i : Int) = a
    · rw [if_pos h]; simp [h]
    · rw [if_neg h]
      congr 1
      rw [decide_eq_decide, List.mem_cons]
      constructor
      · exact fun h2 => .inr h2
      · rintro (h2 | h2)
        · exact absurd h2.symm h
        · exact h2
theorem spec_l1Has_v (l : List Int) (a : Int) (hn : l.length ≤ 1048576) {k : Nat} (hk : l.length < k) : spec_l1Has.f k l a = some (decide (a ∈ l)) := by
  unfold spec_l1Has.f
  simpa using spec_l1Has_l l a hn l.length k 0 (by omega) hk
theorem spec_sbSum_l (l : List Int) (hl : l.length ≤ 1048576) (he : ∀ x ∈ l, 0 ≤ x ∧ x ≤ 1000000) : ∀ (d k i : Nat), i + d = l.length → d < k → spec_sbSum.l0 k (l.take i).sum l (l.length : Int) (i : Int) = some l.sum := by
  intro d
  induction d with
  | zero =>
    intro k i hi hk
    obtain ⟨k, rfl⟩ := k_succ (by omega : 0 < k)
    simp only [spec_sbSum.l0]
    rw [if_neg (by omega), List.take_of_length_le (by omega)]
  | succ d ih =>
    intro k i hi hk
    obtain ⟨k, rfl⟩ := k_succ (by omega : 0 < k)
    have ht := sum_take_le l i (fun x hx => (he x hx).1)
    have hs := (Pure.sum_le 1000000 (by omega) l he).2
    have hw := he _ (rd_mem (l := l) (i := (i : Int)) (by omega) (by omega))
    simp only [spec_sbSum.l0]
    rw [if_pos (by omega), if_pos (by omega), if_pos (by omega), w64 (by omega) (by omega), w64_succ (by omega), ← sum_take_succ l (by omega)]
    exact ih k (i + 1) (by omega) (by omega)
theorem spec_sbSum_v (l : List Int) (hl : l.length ≤ 1048576) (he : ∀ x ∈ l, 0 ≤ x ∧ x ≤ 1000000) {k : Nat} (hk : l.length < k) : spec_sbSum.f k l = some l.sum := by
  unfold spec_sbSum.f
  have := spec_sbSum_l l hl he l.length k 0 (by omega) hk
  simpa using this
/-- the rests as the program keeps them, and what was met as the reference keeps it -/
structure Met (W : Int) (l R met : List Int) : Prop where
  len : R.length = l.length
  iff : ∀ j : Nat, j < l.length → (((j : Int) ∈ met) ↔ rd R (j : Int) = -1)
  rem : ∀ j : Nat, j < l.length → (j : Int) ∉ met → rd R (j : Int) = W * rd l (j : Int) % l.sum
  ml : met.length ≤ 20
theorem spec_sbShares_l2 {W : Int} {l : List Int} (h : Wts W l) (out R met : List Int) (hM : Met W l R met) (left : Int) (ho : out.length = l.length) (hout : ∀ j : Int, 0 ≤ j → j < (l.length : Int) → 0 ≤ rd out j ∧ rd out j ≤ 200000000000) (hl : 0 < left) (hl' : left ≤ 10000000) (hex : ∃ j : Nat, j < l.length ∧ (j : Int) ∉ met) :
    ∀ (d i k : Nat) (b b' : Int), i + d = l.length → 20 < k → ((b' = -1 ∧ (∀ j : Nat, j < i → (j : Int) ∈ met) ∧ b = 0) ∨ (b' = b ∧ 0 ≤ b ∧ b < (i : Int) ∧ b ∉ met)) →
    spec_sbShares.l2 (k + d + 1) W l l.sum out left met b' l (l.length : Int) (i : Int) = spec_sbShares.l1 k W l l.sum (out.set (bestF R b i d).toNat (rd out (bestF R b i d) + 1)) (left - 1) (met ++ [bestF R b i d]) := by
  intro d
  induction d with
  | zero =>
    intro i k b b' hi hk hs
    rcases hs with ⟨_, hall, _⟩ | ⟨rfl, h0, h1, h2⟩
    · obtain ⟨j, hj, hj'⟩ := hex
      exact absurd (hall j (by omega)) hj'
    · have hb := hout b' h0 (by omega)
      have := hM.ml
      simp only [Nat.add_zero, spec_sbShares.l2]
      rw [if_neg (by omega), if_pos (by omega), if_pos h0, if_pos (by omega), w64 (by omega) (by omega), w64 (by omega) (by omega)]
      rfl
  | succ d ih =>
    intro i k b b' hi hk hs
    have hw : rd l (i : Int) ∈ l := rd_mem (by omega) (by omega)
    have hbase := h.base hw
    have hml := hM.ml; have hlen := h.len; have hpos := h.pos
    obtain ⟨K, hK⟩ : ∃ K, K = k + d + 1 := ⟨_, rfl⟩
    rw [show k + (d + 1) + 1 = K + 1 by omega]
    simp only [spec_sbShares.l2]
    rw [if_pos (by omega), if_pos (by omega), if_pos (by omega), spec_l1Has_v met _ (by omega) (by omega), Option.bind_some, w64_succ (by omega)]
    conv => rhs; unfold bestF
    subst hK
    by_cases hmet : (i : Int) ∈ met
    · rw [if_pos (decide_eq_true hmet)]
      have hRi := (hM.iff i (by omega)).1 hmet
      rcases hs with ⟨rfl, hall, rfl⟩ | ⟨rfl, h0, h1, h2⟩
      · have hnot : ¬ rd R (i : Int) > rd R 0 := by
          by_cases e : i = 0
          · subst e; simp
          · have := (hM.iff 0 (by omega)).1 (hall 0 (by omega))
            simp only [Int.natCast_zero] at this
            omega
        rw [if_neg hnot]
        exact ih (i + 1) k 0 (-1) (by omega) hk (.inl ⟨rfl, fun j hj => by
          by_cases e : j = i
          · subst e; exact hmet
          · exact hall j (by omega), rfl⟩)
      · have hRb := hM.rem b'.toNat (by omega) (by rw [show ((b'.toNat : Nat) : Int) = b' by omega]; exact h2)
        rw [show ((b'.toNat : Nat) : Int) = b' by omega] at hRb
        have hbb := (h.base (rd_mem (l := l) (i := b') h0 (by omega))).2.2.1
        rw [if_neg (by omega)]
        exact ih (i + 1) k b' b' (by omega) hk (.inr ⟨rfl, h0, by omega, h2⟩)
    · rw [if_neg (by simpa using hmet)]
      have hRi := hM.rem i (by omega) hmet
      rcases hs with ⟨rfl, hall, rfl⟩ | ⟨rfl, h0, h1, h2⟩
      · rw [if_pos (by omega)]
        by_cases e : i = 0
        · subst e
          rw [if_neg (by simp)]
          exact ih 1 k 0 0 (by omega) hk (.inr ⟨rfl, by omega, by omega, hmet⟩)
        · have hR0 := (hM.iff 0 (by omega)).1 (hall 0 (by omega))
          simp only [Int.natCast_zero] at hR0
          rw [if_pos (by omega)]
          exact ih (i + 1) k _ _ (by omega) hk (.inr ⟨rfl, by omega, by omega, hmet⟩)
      · have hRb := hM.rem b'.toNat (by omega) (by rw [show ((b'.toNat : Nat) : Int) = b' by omega]; exact h2)
        rw [show ((b'.toNat : Nat) : Int) = b' by omega] at hRb
        have hbb := h.base (rd_mem (l := l) (i := b') h0 (by omega))
        rw [if_neg (by omega), if_neg (by omega), if_pos h0, if_pos (by omega), w64 (by omega) (by omega) (x := W * rd l (i : Int)), w64 (by omega) (by omega) (x := W * rd l b'), tmod_nn hbase.2.2.2.2.1, tmod_nn hbb.2.2.2.2.1, ← hRi, ← hRb]
        by_cases hc : rd R (i : Int) > rd R b'
        · rw [if_pos hc, if_pos hc]
          exact ih (i + 1) k _ _ (by omega) hk (.inr ⟨rfl, by omega, by omega, hmet⟩)
        · rw [if_neg hc, if_neg hc]
          exact ih (i + 1) k b' b' (by omega) hk (.inr ⟨rfl, h0, by omega, h2⟩)
/-- some of more places than were met is not met -/
theorem all_met : ∀ (n : Nat) (met : List Int), (∀ j : Nat, j < n → (j : Int) ∈ met) → n ≤ met.length
  | 0, _, _ => Nat.zero_le _
  | n + 1, met, h => by
    have h1 := h n (by omega)
    have h2 := all_met n (met.erase (n : Int)) (fun j hj => (List.mem_erase_of_ne (by omega)).2 (h j (by omega)))
    rw [List.length_erase_of_mem h1] at h2
    have h3 := List.length_pos_of_mem h1
    omega
theorem unmet (n : Nat) (met : List Int) (h : met.length < n) : ∃ j : Nat, j < n ∧ (j : Int) ∉ met := by
  by_cases hc : ∃ j : Nat, j < n ∧ (j : Int) ∉ met
  · exact hc
  · exfalso
    have := all_met n met (fun j hj => by
      by_cases h2 : (j : Int) ∈ met
      · exact h2
      · exact absurd ⟨j, hj, h2⟩ hc)
    omega
theorem met_next {W : Int} {l R met : List Int} (h : Wts W l) (hM : Met W l R met) (hm : met.length < 20) (b : Int) (h0 : 0 ≤ b) (h1 : b < (l.length : Int)) : Met W l (R.set b.toNat (-1)) (met ++ [b]) := by
  have hlen := hM.len
  refine ⟨by simpa using hlen, fun j hj => ?_, fun j hj hn => ?_, by simp; omega⟩
  · rw [rd_set _ (by omega) (by omega), List.mem_append, List.mem_singleton]
    by_cases e : (j : Int) = b
    · rw [if_pos (by omega)]; simp [e]
    · rw [if_neg (by omega), hM.iff j hj]; simp [e]
  · rw [List.mem_append, List.mem_singleton] at hn
    rw [rd_set _ (by omega) (by omega), if_neg (by omega)]
    exact hM.rem j hj (fun hx => hn (.inl hx))
theorem spec_sbShares_l1 {W : Int} {l : List Int} (h : Wts W l) : ∀ (m k : Nat) (out R met : List Int), Met W l R met → out.length = l.length → m * (l.length + 2) + 30 < k → m + met.length < l.length → (∀ j : Int, 0 ≤ j → j < (l.length : Int) → 0 ≤ rd out j ∧ rd out j ≤ 200000000000 - (m : Int)) →
    spec_sbShares.l1 k W l l.sum out (m : Int) met = some (distF R out m) := by
  intro m
  induction m with
  | zero =>
    intro k out R met hM ho hk _ _
    obtain ⟨k, rfl⟩ := k_succ (by omega : 0 < k)
    simp only [spec_sbShares.l1]
    rw [if_neg (by omega)]
    rfl
  | succ m ih =>
    intro k out R met hM ho hk hm hb
    rw [Nat.succ_mul] at hk
    have hlen := h.len; have hRl := hM.len
    obtain ⟨k, rfl⟩ : ∃ q, k = (q + l.length + 1) + 1 := ⟨k - (l.length + 2), by omega⟩
    have hbest := best_ok (R := R) (by omega)
    rw [hRl] at hbest
    have e := spec_sbShares_l2 h out R met hM ((m + 1 : Nat) : Int) ho (fun j h0 h1 => by have := hb j h0 h1; omega) (by omega) (by omega) (unmet l.length met (by omega)) l.length 0 k 0 (-1) (by omega) (by omega) (.inl ⟨rfl, fun j hj => by omega, rfl⟩)
    simp only [spec_sbShares.l1]
    rw [if_pos (by omega)]
    refine Eq.trans e ?_
    rw [show ((m + 1 : Nat) : Int) - 1 = (m : Int) by omega]
    have := ih k (out.set (bestF R 0 0 l.length).toNat (rd out (bestF R 0 0 l.length) + 1)) (R.set (bestF R 0 0 l.length).toNat (-1)) (met ++ [bestF R 0 0 l.length]) (met_next h hM (by omega) _ hbest.1 hbest.2) (by simpa using ho) (by omega) (by simp; omega) (fun j h0 h1 => by
      rw [rd_set j h0 (by omega)]
      have h2 := hb j h0 h1
      have h3 := hb _ hbest.1 hbest.2
      split <;> omega)
    rw [this]
    conv => rhs; unfold distF
    rw [hRl]
theorem spec_sbShares_l0 {W : Int} {l : List Int} (h : Wts W l) : ∀ (d i k : Nat), i + d = l.length →
    spec_sbShares.l0 (k + d + 1) W l l.sum ((baseL W l.sum l).take i) (W - ((baseL W l.sum l).take i).sum) l (l.length : Int) (i : Int) = spec_sbShares.l1 k W l l.sum (baseL W l.sum l) (W - (baseL W l.sum l).sum) [] := by
  intro d
  induction d with
  | zero =>
    intro i k hi
    simp only [Nat.add_zero, spec_sbShares.l0]
    rw [if_neg (by omega), List.take_of_length_le (by rw [baseL_len]; omega)]
  | succ d ih =>
    intro i k hi
    have hw : rd l (i : Int) ∈ l := rd_mem (by omega) (by omega)
    have hb := h.base hw
    have hS := h.pos; have hlen := h.len
    have hbi : (baseL W l.sum l)[i]? = some (W * rd l (i : Int) / l.sum) := by
      unfold baseL; rw [List.getElem?_map, List.getElem?_eq_getElem (by omega), rd_get (by omega)]; rfl
    have ht := h.take i
    have hts : ((baseL W l.sum l).take (i + 1)).sum = ((baseL W l.sum l).take i).sum + W * rd l (i : Int) / l.sum := by
      rw [sum_take_succ _ (by rw [baseL_len]; omega), rd_of_getElem? hbi]
    have htk : (baseL W l.sum l).take (i + 1) = (baseL W l.sum l).take i ++ [W * rd l (i : Int) / l.sum] := by
      rw [List.take_add_one, hbi]; rfl
    have ht1 := h.take (i + 1)
    have hw1 := h.w1
    obtain ⟨K, hK⟩ : ∃ K, K = k + d + 1 := ⟨_, rfl⟩
    rw [show k + (d + 1) + 1 = K + 1 by omega]
    simp only [spec_sbShares.l0]
    rw [if_pos (by omega), if_pos (by omega), if_pos (by omega), if_neg (by omega), if_pos (by rw [List.length_take]; omega), w64 (by omega) (by omega) (x := W * rd l (i : Int)), tdiv_nn hb.2.2.2.2.1, w64 (by omega) (by omega) (x := W * rd l (i : Int) / l.sum), w64 (by omega) (by omega), w64_succ (by omega), ← htk, show W - ((baseL W l.sum l).take i).sum - W * rd l (i : Int) / l.sum = W - ((baseL W l.sum l).take (i + 1)).sum by omega, hK]
    exact ih (i + 1) k (by omega)
theorem spec_sbShares_v {W : Int} {l : List Int} (h : Wts W l) {k : Nat} (hk : 1000 < k) : spec_sbShares.f k W l = some (sharesV W l) := by
  have hl := h.len
  have hlf := h.left
  unfold spec_sbShares.f
  rw [spec_sbSum_v l (by omega) (fun x hx => by have := h.el x hx; omega) (by omega), Option.bind_some]
  obtain ⟨q, rfl⟩ : ∃ q, k = q + l.length + 1 := ⟨k - l.length - 1, by omega⟩
  have e0 := spec_sbShares_l0 h l.length 0 q (by omega)
  simp only [List.take_zero, List.sum_nil, Int.sub_zero] at e0
  refine (show _ = _ from e0).trans ?_
  have hm : (W - (baseL W l.sum l).sum).toNat * (l.length + 2) ≤ 20 * 22 := Nat.mul_le_mul (by omega) (by omega)
  have hrm : Met W l (remL W l.sum l) [] := by
    have hri : ∀ j : Nat, j < l.length → rd (remL W l.sum l) (j : Int) = W * rd l (j : Int) % l.sum := fun j hj => by
      refine rd_of_getElem? ?_
      unfold remL; rw [List.getElem?_map, List.getElem?_eq_getElem hj, rd_get hj]; rfl
    refine ⟨remL_len _ _ _, fun j hj => ?_, fun j hj _ => hri j hj, by simp⟩
    rw [hri j hj]
    have := (h.base (rd_mem (l := l) (i := (j : Int)) (by omega) (by omega))).2.2.1
    constructor
    · intro hx; cases hx
    · intro hx; omega
  have e1 := spec_sbShares_l1 h (W - (baseL W l.sum l).sum).toNat q (baseL W l.sum l) (remL W l.sum l) [] hrm (baseL_len _ _ _) (by omega) (by simp; omega) (fun j h0 h1 => by
    have hmem : rd (baseL W l.sum l) j ∈ baseL W l.sum l := rd_mem h0 (by rw [baseL_len]; exact h1)
    unfold baseL at hmem
    obtain ⟨w, hw, e⟩ := List.mem_map.1 hmem
    have hb := h.base hw
    have e' : rd (baseL W l.sum l) j = W * w / l.sum := e.symm
    omega)
  rw [show ((W - (baseL W l.sum l).sum).toNat : Int) = W - (baseL W l.sum l).sum by omega] at e1
  exact e1
theorem sum_set1 : ∀ (l : List Int) (i : Nat), i < l.length → (l.set i (rd l (i : Int) + 1)).sum = l.sum + 1
  | [], i, h => by simp at h
  | x :: l, 0, _ => by simp [rd]; omega
  | x :: l, i + 1, h => by
    have ih := sum_set1 l i (by simpa using h)
    have e : rd (x :: l) ((i + 1 : Nat) : Int) = rd l (i : Int) := by rw [rd_nat, rd_nat]; rfl
    rw [e]
    simp only [List.set_cons_succ, List.sum_cons, ih]
    omega
theorem distF_all : ∀ (m : Nat) (R out : List Int), R.length = out.length → 0 < out.length → (∀ x ∈ out, 0 ≤ x) → (distF R out m).length = out.length ∧ (distF R out m).sum = out.sum + (m : Int) ∧ ∀ x ∈ distF R out m, 0 ≤ x
  | 0, R, out, _, _, h => ⟨rfl, by simp [distF], h⟩
  | m + 1, R, out, hR, h0, h => by
    have hb := best_ok (R := R) (by omega)
    have hr := h _ (rd_mem (l := out) hb.1 (by omega))
    have ih := distF_all m (R.set (bestF R 0 0 R.length).toNat (-1)) (out.set (bestF R 0 0 R.length).toNat (rd out (bestF R 0 0 R.length) + 1)) (by simpa using hR) (by simpa using h0) (fun x hx => by
      rcases List.mem_or_eq_of_mem_set hx with hx | rfl
      · exact h x hx
      · omega)
    have hs := sum_set1 out (bestF R 0 0 R.length).toNat (by omega)
    rw [show (((bestF R 0 0 R.length).toNat : Nat) : Int) = bestF R 0 0 R.length by omega] at hs
    unfold distF
    refine ⟨by rw [ih.1]; simp, ?_, ih.2.2⟩
    rw [ih.2.1, hs]
    omega
theorem mem_le_sum : ∀ (l : List Int), (∀ x ∈ l, 0 ≤ x) → ∀ x ∈ l, x ≤ l.sum
  | [], _, x, hx => by cases hx
  | y :: l, h, x, hx => by
    have h1 := sum_nn l (fun z hz => h z (by simp [hz]))
    have h2 := h y (by simp)
    rw [List.sum_cons]
    rcases List.mem_cons.1 hx with rfl | hx
    · omega
    · have := mem_le_sum l (fun z hz => h z (by simp [hz])) x hx
      omega
theorem Wts.shares {W : Int} {l : List Int} (h : Wts W l) : (sharesV W l).length = l.length ∧ (sharesV W l).sum = W ∧ ∀ x ∈ sharesV W l, 0 ≤ x ∧ x ≤ W := by
  have hlf := h.left
  have hn : 0 < l.length := by omega
  have hb : ∀ x ∈ baseL W l.sum l, 0 ≤ x := fun x hx => by
    unfold baseL at hx
    obtain ⟨w, hw, rfl⟩ := List.mem_map.1 hx
    exact (h.base hw).1
  have := distF_all (W - (baseL W l.sum l).sum).toNat (remL W l.sum l) (baseL W l.sum l) (by rw [remL_len, baseL_len]) (by rw [baseL_len]; exact hn) hb
  have hs : (sharesV W l).sum = W := by unfold sharesV; rw [this.2.1]; omega
  refine ⟨by unfold sharesV; rw [this.1, baseL_len], hs, fun x hx => ⟨this.2.2 x hx, ?_⟩⟩
  have := mem_le_sum (sharesV W l) this.2.2 x hx
  omega
def zipP (t m : List Int) (r : Int) : List S29 := (List.range t.length).map fun i : Nat => ⟨rd t (i : Int), rd m (i : Int), r⟩
theorem zipP_length (t m : List Int) (r : Int) : (zipP t m r).length = t.length := by simp [zipP]
theorem zipP_get (t m : List Int) (r : Int) {i : Nat} (h : i < t.length) : (zipP t m r)[i]? = some ⟨rd t (i : Int), rd m (i : Int), r⟩ := by
  simp [zipP, h]
theorem impl_SplitPiece_l1 (t m : List Int) (a b r : Int) (ht : t.length ≤ 20) (hm : m.length = t.length) : ∀ (d k i : Nat) (y : List S29), i + d = t.length → d < k → y.length = t.length → (∀ j, j < i → y[j]? = (zipP t m r)[j]?) →
    impl_SplitPiece.l1 k y t m (t.length : Int) (i : Int) a b r = some (zipP t m r, true) := by
  intro d
  induction d with
  | zero =>
    intro k i y hi hk hy hj
    obtain ⟨k, rfl⟩ := k_succ (by omega : 0 < k)
    simp only [impl_SplitPiece.l1]
    rw [if_neg (by omega)]
    have e : y = zipP t m r := by
      refine List.ext_getElem? fun j => ?_
      by_cases h : j < t.length
      · exact hj j (by omega)
      · rw [List.getElem?_eq_none (by omega), List.getElem?_eq_none (by rw [zipP_length]; omega)]
    rw [e]
  | succ d ih =>
    intro k i y hi hk hy hj
    obtain ⟨k, rfl⟩ := k_succ (by omega : 0 < k)
    simp only [impl_SplitPiece.l1]
    rw [if_pos (by omega), if_pos (by omega), if_pos (by omega), if_pos (by omega), if_pos (by omega), w64_succ (by omega), show ((i : Int)).toNat = i by omega]
    refine ih k (i + 1) _ (by omega) (by omega) (by simpa using hy) (fun j hj' => ?_)
    by_cases h : j = i
    · subst h
      rw [List.getElem?_set_self (by omega), zipP_get t m r (by omega)]
    · rw [List.getElem?_set_ne (by omega)]
      exact hj j (by omega)
theorem spec_SplitPiece_l0 (t m : List Int) (a b r : Int) (ht : t.length ≤ 20) (hm : m.length = t.length) : ∀ (d k i : Nat), i + d = t.length → d < k →
    spec_SplitPiece.l0 k m ((zipP t m r).take i) t (t.length : Int) (i : Int) a b r = some (zipP t m r, true) := by
  intro d
  induction d with
  | zero =>
    intro k i hi hk
    obtain ⟨k, rfl⟩ := k_succ (by omega : 0 < k)
    simp only [spec_SplitPiece.l0]
    rw [if_neg (by omega), List.take_of_length_le (by rw [zipP_length]; omega)]
  | succ d ih =>
    intro k i hi hk
    obtain ⟨k, rfl⟩ := k_succ (by omega : 0 < k)
    have htk : (zipP t m r).take (i + 1) = (zipP t m r).take i ++ [⟨rd t (i : Int), rd m (i : Int), r⟩] := by
      rw [List.take_add_one, zipP_get t m r (by omega)]; rfl
    simp only [spec_SplitPiece.l0]
    rw [if_pos (by omega), if_pos (by omega), if_pos (by omega), if_pos (by omega), if_pos (by rw [List.length_take]; omega), w64_succ (by omega), ← htk]
    exact ih k (i + 1) (by omega) (by omega)
def splitOk (T M R : Int) (l : List Int) : Bool := pieceB T M R && decide (1 ≤ l.length ∧ l.length ≤ 20) && ((l.all fun x => decide (0 ≤ x ∧ x ≤ 100)) && decide (l.sum ≠ 0))
def splitV (T M R : Int) (l : List Int) : List S29 := zipP (sharesV T l) (if T > 0 then sharesV M (sharesV T l) else List.replicate l.length 0) R
def splitR (T M R : Int) (l : List Int) : List S29 × Bool := if splitOk T M R l = true then (splitV T M R l, true) else ([], false)
structure Spl (T M R : Int) (l : List Int) : Prop where
  pc : pieceB T M R = true
  l0 : 1 ≤ l.length
  l1 : l.length ≤ 20
  el : ∀ x ∈ l, 0 ≤ x ∧ x ≤ 100
  ne : l.sum ≠ 0
theorem splitOk_t {T M R : Int} {l : List Int} (h : splitOk T M R l = true) : Spl T M R l := by
  unfold splitOk at h
  simp only [Bool.and_eq_true, decide_eq_true_eq, List.all_eq_true] at h
  exact ⟨h.1.1, h.1.2.1, h.1.2.2, h.2.1, h.2.2⟩
theorem Spl.wt {T M R : Int} {l : List Int} (h : Spl T M R l) : Wts T l := by
  have hp := pieceB_t h.pc
  have hs := sum_nn l (fun x hx => (h.el x hx).1)
  have := h.ne
  exact ⟨hp.1, by omega, h.l1, fun x hx => by have := h.el x hx; omega, by omega⟩
theorem Spl.wm {T M R : Int} {l : List Int} (h : Spl T M R l) (hT : T > 0) : Wts M (sharesV T l) := by
  have hp := pieceB_t h.pc
  have hsh := h.wt.shares
  have := h.l1
  exact ⟨by omega, by omega, by omega, fun x hx => by have := hsh.2.2 x hx; omega, by omega⟩
theorem spec_SplitPiece_v (T M R : Int) (l : List Int) (hl : l.length ≤ 1048576) {k : Nat} (hk : 1048586 < k) : spec_SplitPiece.f k T M R l = some (splitR T M R l) := by
  obtain ⟨k, rfl⟩ : ∃ q, k = q + 2 := ⟨k - 2, by omega⟩
  unfold spec_SplitPiece.f splitR
  rw [spec_sbPiece_v]
  simp only [Option.bind_some, spec_l1In_v]
  by_cases hp : pieceB T M R = true
  · rw [if_pos hp]
    by_cases hn : 1 ≤ l.length ∧ l.length ≤ 20
    · rw [if_pos (by simp; omega), spec_l1All_v _ _ l (by omega) (by omega), Option.bind_some]
      by_cases ha : (l.all fun x => decide (0 ≤ x ∧ x ≤ 100)) = true
      · have hel : ∀ x ∈ l, 0 ≤ x ∧ x ≤ 100 := by simpa using ha
        rw [if_pos ha, spec_sbSum_v l (by omega) (fun x hx => by have := hel x hx; omega) (by omega), Option.bind_some]
        simp only [spec_SplitPiece.j0]
        by_cases hs : l.sum = 0
        · rw [if_pos (by simp [hs]), if_neg (by simp [splitOk, hs])]
        · have hok : splitOk T M R l = true := by simp only [splitOk, Bool.and_eq_true, decide_eq_true_eq]; exact ⟨⟨hp, hn⟩, ha, hs⟩
          have hsp := splitOk_t hok
          have hsh := hsp.wt.shares
          rw [if_neg (by simp [hs]), if_pos hok, spec_sbShares_v hsp.wt (by omega), Option.bind_some, if_pos (by omega), if_pos (by omega), show ((l.length : Int)).toNat = l.length by omega]
          unfold splitV
          by_cases hT : T > 0
          · have hsm := (hsp.wm hT).shares
            rw [if_pos hT, if_pos hT, spec_sbShares_v (hsp.wm hT) (by omega), Option.bind_some]
            simp only [spec_SplitPiece.j1]
            have := spec_SplitPiece_l0 (sharesV T l) (sharesV M (sharesV T l)) T M R (by omega) (by omega) (sharesV T l).length k 0 (by omega) (by omega)
            simpa using this
          · rw [if_neg hT, if_neg hT]
            simp only [spec_SplitPiece.j1]
            have := spec_SplitPiece_l0 (sharesV T l) (List.replicate l.length 0) T M R (by omega) (by simp; omega) (sharesV T l).length k 0 (by omega) (by omega)
            simpa using this
      · rw [if_neg ha]
        simp only [spec_SplitPiece.j0]
        rw [if_pos (by simp), if_neg (by simp only [splitOk, Bool.and_eq_true]; exact fun h => ha h.2.1)]
    · rw [if_neg (by simp; omega)]
      simp only [spec_SplitPiece.j0]
      rw [if_pos (by simp), if_neg (by simp only [splitOk, Bool.and_eq_true, decide_eq_true_eq]; exact fun h => hn h.1.2)]
  · rw [if_neg hp]
    simp only [spec_SplitPiece.j0]
    rw [if_pos (by simp), if_neg (by simp only [splitOk, Bool.and_eq_true]; exact fun h => hp h.1.1)]
theorem impl_SplitPiece_l0 {T M R : Int} {l : List Int} (hp : pieceB T M R = true) (hn : 1 ≤ l.length ∧ l.length ≤ 20) : ∀ (d k i : Nat), i + d = l.length → d + 1100 < k → (∀ x ∈ l.take i, 0 ≤ x ∧ x ≤ 100) →
    impl_SplitPiece.l0 k l (l.take i).sum l (l.length : Int) (i : Int) T M R = some (if ((l.drop i).all fun x => decide (0 ≤ x ∧ x ≤ 100)) = true ∧ l.sum ≠ 0 then (splitV T M R l, true) else ([], false)) := by
  intro d
  induction d with
  | zero =>
    intro k i hi hk he
    obtain ⟨k, rfl⟩ : ∃ q, k = q + 2 := ⟨k - 2, by omega⟩
    rw [List.take_of_length_le (by omega)] at he ⊢
    simp only [impl_SplitPiece.l0]
    rw [if_neg (by omega), List.drop_eq_nil_of_le (by omega)]
    by_cases hs : l.sum = 0
    · rw [if_pos hs, if_neg (by simp [hs])]
    · have hsp : Spl T M R l := ⟨hp, hn.1, hn.2, he, hs⟩
      have hsh := hsp.wt.shares
      rw [if_neg hs, if_pos (show 0 ≤ (l.length : Int) by omega), if_pos (by omega), if_pos (show (([] : List Int).all fun x => decide (0 ≤ x ∧ x ≤ 100)) = true ∧ l.sum ≠ 0 from ⟨rfl, hs⟩)]
      simp only [Option.bind_some]
      rw [impl_sharesOf_v hsp.wt (by omega), Option.bind_some, if_pos (by omega), show ((l.length : Int)).toNat = l.length by omega]
      unfold splitV
      by_cases hT : T > 0
      · have hsm := (hsp.wm hT).shares
        rw [if_pos hT, if_pos hT, impl_sharesOf_v (hsp.wm hT) (by omega), Option.bind_some]
        simp only [impl_SplitPiece.j2]
        have := impl_SplitPiece_l1 (sharesV T l) (sharesV M (sharesV T l)) T M R (by omega) (by omega) (sharesV T l).length k 0 (List.replicate l.length z29) (by omega) (by omega) (by simp; omega) (fun j hj => by omega)
        rw [hsh.1] at this
        simpa using this
      · rw [if_neg hT, if_neg hT]
        simp only [impl_SplitPiece.j2]
        have := impl_SplitPiece_l1 (sharesV T l) (List.replicate l.length 0) T M R (by omega) (by simp; omega) (sharesV T l).length k 0 (List.replicate l.length z29) (by omega) (by omega) (by simp; omega) (fun j hj => by omega)
        rw [hsh.1] at this
        simpa using this
  | succ d ih =>
    intro k i hi hk he
    obtain ⟨k, rfl⟩ := k_succ (by omega : 0 < k)
    have hb := (Pure.sum_le 100 (by omega) (l.take i) he)
    have hlt : (l.take i).length ≤ 20 := by rw [List.length_take]; omega
    simp only [impl_SplitPiece.l0]
    rw [if_pos (by omega), if_pos (by omega), if_pos (by omega), drop_rd (by omega : i < l.length), List.all_cons]
    by_cases h : 0 ≤ rd l (i : Int) ∧ rd l (i : Int) ≤ 100
    · rw [if_neg (by omega), if_neg (by omega), w64 (by omega) (by omega), w64_succ (by omega), ← sum_take_succ l (by omega), decide_eq_true h, Bool.true_and]
      refine ih k (i + 1) (by omega) (by omega) (fun x hx => ?_)
      rw [List.take_succ_eq_append_getElem (by omega), List.mem_append, List.mem_singleton] at hx
      rcases hx with hx | rfl
      · exact he x hx
      · rw [← rd_get (by omega)]; exact h
    · rw [if_neg (c := (_ ∧ _)) (by simp only [decide_eq_false h, Bool.false_and]; simp)]
      split
      · rfl
      · rw [if_pos (by omega)]
theorem impl_SplitPiece_v (T M R : Int) (l : List Int) {k : Nat} (hk : 1200 < k) : impl_SplitPiece.f k T M R l = some (splitR T M R l) := by
  obtain ⟨k, rfl⟩ := k_succ (by omega : 0 < k)
  unfold impl_SplitPiece.f splitR
  rw [impl_IsPiece_v]
  simp only [Option.bind_some, impl_SplitPiece.j0]
  by_cases hp : pieceB T M R = true
  · rw [if_pos hp]
    by_cases hn : 1 ≤ l.length ∧ l.length ≤ 20
    · rw [if_neg (by omega), if_neg (by simp; omega)]
      have := impl_SplitPiece_l0 hp hn l.length k 0 (by omega) (by omega) (fun x hx => by simp at hx)
      simp only [List.take_zero, List.sum_nil, List.drop_zero] at this
      refine (show _ = _ from this).trans ?_
      congr 1
      by_cases hc : (l.all fun x => decide (0 ≤ x ∧ x ≤ 100)) = true ∧ l.sum ≠ 0
      · rw [if_pos hc, if_pos (by simp only [splitOk, Bool.and_eq_true, decide_eq_true_eq]; exact ⟨⟨hp, hn⟩, hc⟩)]
      · rw [if_neg hc, if_neg (by simp only [splitOk, Bool.and_eq_true, decide_eq_true_eq]; exact fun h => hc h.2)]
    · rw [if_neg (c := splitOk T M R l = true) (by simp only [splitOk, Bool.and_eq_true, decide_eq_true_eq]; exact fun h => hn h.1.2)]
      split
      · rw [if_pos (by simp)]
      · rw [if_pos (by simp; omega)]
  · rw [if_neg hp, if_pos (by simp), if_neg (by simp only [splitOk, Bool.and_eq_true]; exact fun h => hp h.1.1)]
theorem splitR_len (T M R : Int) (l : List Int) : (splitR T M R l).1.length ≤ 20 := by
  unfold splitR
  split
  · rename_i h
    have hs := splitOk_t h
    have := hs.wt.shares.1
    have := hs.l1
    show (splitV T M R l).length ≤ 20
    unfold splitV
    rw [zipP_length]; omega
  · simp
theorem pure_FnExactSplitPiece (T M R : Int) (l : List Int) (w0 : (Lit.int .i64 T).wf = true) (w1 : (Lit.int .i64 M).wf = true) (w2 : (Lit.int .i64 R).wf = true) (hm : l.length ≤ maxLen) (hw : ∀ x ∈ l, (Lit.int .i64 x).wf = true) : ∃ k, laws_FnExactSplitPiece.f k T M R l = some true := by
  obtain ⟨K, hK⟩ : ∃ K : Nat, 1048586 < K := ⟨_, Nat.lt_succ_self _⟩
  refine ⟨K + 4, ?_⟩
  unfold laws_FnExactSplitPiece.f
  by_cases hl : (l.length : Int) > 1048576
  · rw [if_pos hl]
  · have hlen := splitR_len T M R l
    rw [if_neg hl]
    simp (disch := omega) only [laws_toPiece.f, laws_toIntS_v, Option.bind_some, spec_SplitPiece_v, impl_SplitPiece_v, laws_eqPieceS_v, decide_true, if_true, bne_self_eq_false]
    simp (disch := omega) only [laws_FnExactSplitPiece.j0, Bool.false_eq_true, if_false, laws_toIntS_v, Option.bind_some, laws_eqIntS_v, decide_true, if_true, laws_markIntS_v]
    rw [if_neg (by omega)]
    simp (disch := omega) only [laws_eqPieceS_v, Option.bind_some, if_true, bne_self_eq_false, laws_FnExactSplitPiece.j1, Bool.false_eq_true, if_false, laws_markPieceS_v, laws_heldPieceS_v, laws_toPiece.f, laws_toIntS_v, impl_SplitPiece_v]
    rw [if_neg (by omega), laws_FnExactSplitPiece.j2]
    simp (disch := omega) only [Bool.false_eq_true, if_false, laws_heldPieceS_v, Option.bind_some, if_true]
    rw [if_neg (by omega)]
theorem W0 : wrap64 (0 + 1) = 1 := w64 (by decide) (by decide)
theorem W1 : wrap64 (1 + 1) = 2 := w64 (by decide) (by decide)
theorem W2 : wrap64 (2 + 1) = 3 := w64 (by decide) (by decide)
theorem W3 : wrap64 (3 + 1) = 4 := w64 (by decide) (by decide)

end Go.Proofs.Ytceajigggcihnaa.Pure
