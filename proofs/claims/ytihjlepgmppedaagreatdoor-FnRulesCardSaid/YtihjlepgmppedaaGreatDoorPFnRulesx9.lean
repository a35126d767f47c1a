-- Laid for this claim by wip/tools/print2.sh, a changed copy of the kit's print (wip/tools/patch_print.py): not by print.sh.
import Derived.Test.YtihjlepgmppedaaGreatDoorPFnRulesx7
import Derived.Test.YtihjlepgmppedaaGreatDoorVFnRules
namespace Go.Proofs.YtihjlepgmppedaaGreatDoor.PFnRules
set_option maxHeartbeats 8000000
set_option maxRecDepth 100000
open Go.RowKit Go.Proofs.YtihjlepgmppedaaGreatDoorW.PrintWords Go.Proofs.YtihjlepgmppedaaGreatDoorW.PrintLast Go.Proofs.YtihjlepgmppedaaGreatDoorW.PrintMore
set_option linter.unusedVariables false
set_option linter.unusedSimpArgs false

/-! ### impl_partSize: function 37 -/
mutual
def impl_partSize.l0 : Nat → List (S73) → Int → Int → Int → Option (Int)
 | 0, _, _, _, _ => none
 | k + 1, x0, x1, x5, x6 => if x6 > 0 then ((impl_partSize.f k x0 (wrap64 (x1 - x5))).bind fun t351 => (impl_partSize.l0 k x0 x1 (wrap64 (x5 + t351)) (wrap64 (x6 - 1)))) else (some x5)
def impl_partSize.f : Nat → List (S73) → Int → Option (Int)
 | 0, _, _ => none
 | k + 1, l0, a1 => if 0 ≤ a1 then (if a1 < (l0.length : Int) then ((impl_needsOf.f k ((rd_T73 l0 a1).f0)).bind fun t350 => (impl_partSize.l0 k l0 a1 1 t350)) else (none)) else (none)
end
theorem impl_partSize.calls (k : Nat) : ∀ (A0 : Option Addr) (c0 : Nat) (l0 : List (S73)) (a1 : Int) (r : Int) (w : World) (hr0 : Kd.C k73 w A0 l0.length l0) (hc0 : l0.length ≤ c0) (h : impl_partSize.f k l0 a1 = some r),
  Calls Tryz.prog 37 #[.slice A0 l0.length c0, .int .i64 a1] w fun e w' => e = .returned (.int .i64 r) ∧ Drawn0 w w' := by
 induction k using Nat.strongRecOn with
 | _ k ih =>
 intro A0 c0 l0 a1 r w hr0 hc0 h
 cases k with
 | zero => exact absurd h (by simp [impl_partSize.f])
 | succ k =>
 simp only [impl_partSize.f] at h
 have HR0 := am_ hr0
 have HC0 := am_ hc0
 clear hr0 hc0
 have H := h
 clear h
 revert H; refine pd_ fun c3b0 H => ?_
 revert H; refine pd_ fun c4b0 H => ?_
 revert H; refine bn_ ?_; rintro t350 A5 H; try dsimp only at H
 have H' := am_ H
 clear H
 have p349 : 0 ≤ (a1 : Int) := od_
 have q349 : a1 < (l0.length : Int) := od_
 obtain ⟨ad349, e349, hx349_0, hx349_1⟩ := at_T73 HR0.out a1 p349 q349
 cases e349
 replace p349 := eq_true p349
 replace q349 := eq_true q349
 go_enter Tryz.func37, Tryz.ntmps37
 go_wp2_with (first | ((with_reducible refine gk_ 59 ?_); refine gq_ 12 Tryz.func59 #[.int .i64 ((rd_T73 l0 a1).f0)] ?_; (with_reducible refine (impl_needsOf.calls k ((rd_T73 l0 a1).f0) t350 _ A5.out).mono ?_); rintro e w' ⟨rfl, ⟨nd, rfl⟩⟩; refine ⟨_, rfl, ?_⟩))
 go_loopg [5, 6] k (fun kq v5 v6 w' => ∃ (x5_1 : Int) (x6_1 : Int), v5 = .int .i64 x5_1 ∧ v6 = .int .i64 x6_1 ∧ Aside0 (impl_partSize.l0 kq l0 a1 x5_1 x6_1 = some r) ∧ Aside0 (kq ≤ k) ∧ Drawn0 w w')
 case atStart => exact ⟨(1), (t350), sr_, sr_, H', ⟨Nat.le_refl _⟩, by repeat (first | exact Drawn0.refl _ | apply Drawn0.step)⟩
 clear H'
 obtain ⟨x5_1, x6_1, rfl, rfl, HA, HK1, ⟨m1, rfl⟩⟩ := hrel
 cases gk with
 | zero => exact absurd HA.out (by simp [impl_partSize.l0])
 | succ k1 => ?_
 have H := HA.out
 clear HA
 simp only [impl_partSize.l0] at H
 by_cases c6 : x6_1 > 0
 case neg => rw [if_neg c6] at H; have c6b0 : decide (0 < x6_1) = false := decide_eq_false c6; clear c6; obtain rfl := Option.some.inj H; go_wp2; go_ret; (exact ⟨by first | rfl | (simp; done) | (simp [*]; done), by repeat (first | exact Drawn0.refl _ | apply Drawn0.step)⟩)
 rw [if_pos c6] at H
 have c6b0 : decide (0 < x6_1) = true := decide_eq_true c6
 clear c6
 revert H; refine bn_ ?_; rintro t351 A7 H; try dsimp only at H
 have H' := am_ H
 clear H
 go_wp2_with (first | ((with_reducible refine gk_ 37 ?_); refine gq_ 22 Tryz.func37 #[.slice (some ad349) l0.length c0, .int .i64 (wrap64 (a1 - x5_1))] ?_; (with_reducible refine (ih k1 (by have := HK1.out; omega) _ _ l0 (wrap64 (a1 - x5_1)) t351 _ ?side1 ?_ A7.out).mono ?_); (case side1 => repeat (first | exact HR0.out | (with_reducible refine Kd.C_alloc ?_ _) | (with_reducible refine Kd.C_drewN ?_ _) | (with_reducible refine Kd.C_drew ?_))); exact HC0.out; rintro e w' ⟨rfl, ⟨nd, rfl⟩⟩; refine ⟨_, rfl, ?_⟩))
 go_roundg k1
 case measure => have := HK1.out; omega
 case rel => exact ⟨(wrap64 (x5_1 + t351)), (wrap64 (x6_1 - 1)), sr_, sr_, H', ⟨by have := HK1.out; omega⟩, by repeat (first | exact Drawn0.refl _ | apply Drawn0.step)⟩

/-! ### impl_partNeeds: function 45 -/
def impl_partNeeds.l0 : Nat → List (S73) → List Int → Int → Int → Option (List Int)
 | 0, _, _, _, _ => none
 | k + 1, x0, x5, x6, x7 => if x7 ≥ 0 then (if 0 ≤ x7 then (if x7 < (x5.length : Int) then ((impl_partSize.f k x0 x6).bind fun t358 => (impl_partNeeds.l0 k x0 (x5.set (x7 : Int).toNat x6) (wrap64 (x6 - t358)) (wrap64 (x7 - 1)))) else (none)) else (none)) else (some x5)
def impl_partNeeds.f (k : Nat) (l0 : List (S73)) (a1 : Int) : Option (List Int) := if 0 ≤ a1 then (if a1 < (l0.length : Int) then ((impl_needsOf.f k ((rd_T73 l0 a1).f0)).bind fun t353 => (if 0 ≤ t353 then (if (t353 : Int).toNat ≤ 35184372088832 then ((some (List.replicate (t353 : Int).toNat 0 : List Int)).bind fun y354 => (impl_partNeeds.l0 k l0 y354 (wrap64 (a1 - 1)) (wrap64 ((y354.length : Int) - 1)))) else (none)) else (none))) else (none)) else (none)
theorem impl_partNeeds.calls (k : Nat) (A0 : Option Addr) (c0 : Nat) (l0 : List (S73)) (a1 : Int) (r : List Int) (w : World) (hr0 : Kd.C k73 w A0 l0.length l0) (hc0 : l0.length ≤ c0) (h : impl_partNeeds.f k l0 a1 = some r) :
  Calls Tryz.prog 45 #[.slice A0 l0.length c0, .int .i64 a1] w fun e w' => ∃ v0_ : Value, e = .returned (v0_) ∧ Kd.R (Kd.int .i64) 3 w' w.heap.size (fun _ => True) v0_ r ∧ Below w.heap.size w w' := by
 have HR0 := am_ hr0
 have HC0 := am_ hc0
 clear hr0 hc0
 have HB := am_ (Below.refl w.heap.size w)
 have H := h
 unfold impl_partNeeds.f at H
 clear h
 revert H; refine pd_ fun c3b0 H => ?_
 revert H; refine pd_ fun c4b0 H => ?_
 revert H; refine bn_ ?_; rintro t353 A5 H; try dsimp only at H
 revert H; refine pf_ fun c6 H => ?_
 have c6b0 := eq_true c6
 have c6b1 := decide_eq_true c6
 clear c6
 revert H; refine pf_ fun c7 H => ?_
 have c7b0 := eq_true c7
 have c7b1 := decide_eq_true c7
 clear c7
 obtain ⟨y354, hy354⟩ : ∃ y_ : List Int, y_ = (List.replicate (t353 : Int).toNat 0) := ⟨_, rfl⟩
 (try with_reducible replace H := (Option.bind_some _ _).symm.trans H); (try dsimp only at H); (try rw [← hy354] at H)
 have Ny354 := am_ hy354
 clear hy354
 have H' := am_ H
 clear H
 have p352 : 0 ≤ (a1 : Int) := od_
 have q352 : a1 < (l0.length : Int) := od_
 obtain ⟨ad352, e352, hx352_0, hx352_1⟩ := at_T73 HR0.out a1 p352 q352
 cases e352
 replace p352 := eq_true p352
 replace q352 := eq_true q352
 go_enter Tryz.func45, Tryz.ntmps45
 go_wp2_with (first | ((with_reducible refine gk_ 59 ?_); refine gq_ 13 Tryz.func59 #[.int .i64 ((rd_T73 l0 a1).f0)] ?_; (with_reducible refine (impl_needsOf.calls k ((rd_T73 l0 a1).f0) t353 _ A5.out).mono ?_); rintro e w' ⟨rfl, ⟨nd, rfl⟩⟩; refine ⟨_, rfl, ?_⟩) | ((with_reducible refine gate_dst (N := 14) rfl ?_); refine Kd.R_make (Kd.int .i64) _ 3 rfl (N := 14) rfl 36 _ _ rfl t353 rfl rfl Tryz.underlying36 (.int .i64 0) 8 info3 rfl (by decide) (by omega) 0 (ok := fun _ => True) (okp := fun _ => True) rfl (fun _ hk => hk) trivial (od_) (Nat.le_trans (Nat.mul_le_mul_right _ (od_ : t353.toNat ≤ 35184372088832)) (by omega)) (Below.refl _ _) (Nat.le_refl _) ?_; intro v355 w8 ho9 hb hg_ hnew_; clear hg_ hnew_; (first | rw [← Ny354.out] at ho9 | (simp only [Int.reduceToNat] at ho9; rw [← Ny354.out] at ho9)); have HO356 := Kd.R_lo ho9 HB; replace HB := hbs_ HB hb; clear hb ho9; obtain ⟨Ao10, co10, eo10⟩ := Kd.R_slice HO356.out; subst eo10))
 go_loopg [6, 7] k (fun kq v6 v7 w' => ∃ (x5_1 : List Int) (x6_1 : Int) (x7_1 : Int), v6 = .int .i64 x6_1 ∧ v7 = .int .i64 x7_1 ∧ Aside0 (impl_partNeeds.l0 kq l0 x5_1 x6_1 x7_1 = some r) ∧ Aside0 (kq ≤ k) ∧ Aside0 (Kd.R (Kd.int .i64) 3 w' w.heap.size (fun _ => True) (.slice Ao10 y354.length co10) x5_1) ∧ Aside0 (Below w.heap.size w w'))
 case atStart => exact ⟨(y354), (wrap64 (a1 - 1)), (wrap64 ((y354.length : Int) - 1)), sr_, sr_, H', ⟨Nat.le_refl _⟩, ⟨Kd.R_p HO356⟩, ⟨hb_ HB⟩⟩
 clear H'
 obtain ⟨x5_1, x6_1, x7_1, rfl, rfl, HA, HK1, HO_5, HB⟩ := hrel
 have hl5_1 := (Kd.R_reads' HO_5.out).1
 rw [hl5_1] at HO_5
 (try simp only [hl5_1])
 cases gk with
 | zero => exact absurd HA.out (by simp [impl_partNeeds.l0])
 | succ k1 => ?_
 have H := HA.out
 clear HA
 simp only [impl_partNeeds.l0] at H
 by_cases c11 : x7_1 ≥ 0
 case neg => rw [if_neg c11] at H; have c11b0 : decide (0 ≤ x7_1) = false := decide_eq_false c11; clear c11; obtain rfl := Option.some.inj H; go_wp2; go_ret; (exact ⟨_, se_, Kd.R_p HO_5, hb_ HB⟩)
 rw [if_pos c11] at H
 have c11b0 : decide (0 ≤ x7_1) = true := decide_eq_true c11
 clear c11
 revert H; refine pd_ fun c12b0 H => ?_
 revert H; refine pd_ fun c13b0 H => ?_
 obtain ⟨y357, hy357⟩ : ∃ y_ : List Int, y_ = (x5_1.set (x7_1 : Int).toNat x6_1) := ⟨_, rfl⟩
 (try with_reducible replace H := (Option.bind_some _ _).symm.trans H); (try dsimp only at H); (try rw [← hy357] at H)
 have Ny357 := am_ hy357
 clear hy357
 revert H; refine bn_ ?_; rintro t358 A15 H; try dsimp only at H
 have H' := am_ H
 clear H
 have p14 : 0 ≤ (x7_1 : Int) := od_
 have q14 : (x7_1 : Int) < ((x5_1.length : Int) : Int) := od_
 obtain ⟨go14, co14, eo14, gb14, gl14, cl14, HG14⟩ := Kd.R_form HO_5.out (by omega)
 (first | cases eo14 | (injection eo14 with ea_ en_ ec_; (first | subst ea_ | (injection ea_ with ea_; subst ea_)); subst ec_; clear en_))
 have GB14 := am_ gb14
 have GG14 := am_ HG14
 clear gb14 gl14 HG14
 obtain ⟨hx14_0, hf14_0⟩ := Kd.R_celln 0 HO_5.out (x7_1 : Int) p14 q14
 replace p14 := eq_true p14
 replace q14 := eq_true q14
 have HP16 := Kd.R_putg HO_5.out (x7_1 : Int) x6_1
 go_wp2_with (first | ((with_reducible refine gate_store (t := 3) (p := 27) rfl ?_); refine store_event (t := 3) (p := 27) (v := ?vo_w17) (w1 := (wr.setCell ⟨go14, (x7_1 : Int).toNat, none⟩ (.int .i64 x6_1))) ?hg ?ho ?hn ?hr ?_; (case ho => rfl); (case hg => rfl); (case hn => rfl); (case hr => first | (go_simp; done) | (go_simp; rfl)); intro w17 hw; have hg : wr.grownBy w17 (some go14) := (by rw [hw]; exact HP16.2); have hp_ : Kd.R (Kd.int .i64) 3 w17 w.heap.size (fun _ => True) (.slice (some ⟨go14, 0, none⟩) x5_1.length co10) y357 := (by rw [hw, Ny357.out]; exact HP16.1); clear HP16; replace HO_5 := am_ (hp_); replace HB := am_ ((by rw [hw]; exact below_set (HB.out) GB14.out : Below w.heap.size w w17)); clear hg hw hp_) | ((with_reducible refine gk_ 37 ?_); refine gq_ 31 Tryz.func37 #[.slice (some ad352) l0.length c0, .int .i64 x6_1] ?_; (with_reducible refine (impl_partSize.calls k1 _ _ l0 x6_1 t358 _ ?_ ?_ A15.out).mono ?_); exact Kd.C_w HR0 HB; exact HC0.out; rintro e w' ⟨rfl, ⟨nd, rfl⟩⟩; refine ⟨_, rfl, ?_⟩))
 (try simp only [← hl5_1])
 go_roundg k1
 case measure => have := HK1.out; omega
 case rel => exact ⟨(y357), (wrap64 (x6_1 - t358)), (wrap64 (x7_1 - 1)), sr_, sr_, H', ⟨by have := HK1.out; omega⟩, ⟨by (try simp only [hl5_1]); (with_reducible repeat (first | apply Kd.R_alloc | apply Kd.R_drewN | apply Kd.R_drew)); exact HO_5.out⟩, ⟨hb_ HB⟩⟩

/-! ### strings_Split: function 33 -/
/-- The names of the fields, as the program's own array of them is laid. -/
def fieldNames_ : List ByteArray := [(⟨#[116, 111, 110, 110, 101, 115]⟩ : ByteArray), (⟨#[103, 114, 97, 100, 101]⟩ : ByteArray), (⟨#[114, 111, 99, 107]⟩ : ByteArray), (⟨#[108, 101, 118, 101, 108]⟩ : ByteArray), (⟨#[109, 101, 116, 97, 108]⟩ : ByteArray)]
/-- What the program's array of names holds; and the library's variable MaxLen holds some number. -/
def LaidW (w : World) : Prop := (∃ m, w.cell? ⟨1, 0, none⟩ = some (.int .i64 m)) ∧ w.var? Tryz.prog "loop.example/g00914/impl.fieldNames" = some (fieldNames_.map Value.string).toArray ∧ Lib.TabIs Tryz.prog w "internal/strconv.uint64pow10" .u64 Lib.pow10Tab
theorem var_below {n : String} {cs : Array Value} {w W : World} (h : w.var? Tryz.prog n = some cs) (hb : Below w.heap.size w W) : W.var? Tryz.prog n = some cs := by
 unfold World.var? at *
 cases hg : Tryz.prog.globalNamed n with
 | none => rw [hg] at h; cases h
 | some g =>
  rw [hg] at h
  simp only [Option.bind_some] at h ⊢
  have hlt : g < w.heap.size := by
   rcases Nat.lt_or_ge g w.heap.size with h' | h'
   ·exact h'
   ·rw [Array.getElem?_eq_none h'] at h; cases h
  rw [hb.block g hlt]
  exact h
theorem LaidW.below {w W : World} (h : LaidW w) (hb : Below w.heap.size w W) : LaidW W := by
 obtain ⟨⟨m, hm⟩, hn, ht⟩ := h
 have hlt : 1 < w.heap.size := World.block_lt_of_cell? _ _ hm
 refine ⟨⟨m, ?_⟩, var_below hn hb, var_below ht hb⟩
 rw [← hm]
 unfold World.cell?
 rw [hb.block 1 hlt]
theorem LaidW.step {w W : World} (h : Aside0 (LaidW w)) (hb : Below w.heap.size w W) : LaidW W := h.out.below hb
theorem LaidW.name {w : World} (h : LaidW w) (j : Nat) (hj : j < 5) : w.cell? ⟨0, j, none⟩ = some (.string (fieldNames_.getD j ByteArray.empty)) := by
 have hc := World.var?_cell (g := 0) (by kernel_rfl) h.2.1 j
 rw [hc]
 have hj : j = 0 ∨ j = 1 ∨ j = 2 ∨ j = 3 ∨ j = 4 := by omega
 rcases hj with rfl | rfl | rfl | rfl | rfl <;> rfl
theorem LaidW.names {w : World} (h : LaidW w) : Kd.C Kd.string w (some ⟨0, 0, none⟩) 5 fieldNames_ := by
 refine Kd.C_of_reads (d := ByteArray.empty) (h1 := fun _ => rfl) ⟨rfl, by omega, fun _ => ⟨⟨0, 0, none⟩, rfl, fun j hj => ?_⟩⟩
 have hc := World.var?_cell (g := 0) (by kernel_rfl) h.2.1 j
 rw [show ((⟨0, 0, none⟩ : Addr).add j) = ⟨0, j, none⟩ by simp [Addr.add]; omega]
 rw [hc]
 have hj : j = 0 ∨ j = 1 ∨ j = 2 ∨ j = 3 ∨ j = 4 := by omega
 rcases hj with rfl | rfl | rfl | rfl | rfl <;> rfl
def strings_Split.f (a0 a1 : ByteArray) : Option (List ByteArray) := if a0.size ≤ 4294967280 then (if 1 ≤ a1.size then some (Lib.splitB a1 0 (Lib.countB a0 a1) a0) else none) else none
theorem strings_Split.calls (a0 a1 : ByteArray) (r : List ByteArray) (w : World) (h : strings_Split.f a0 a1 = some r) (hL : LaidW w) :
  Calls Tryz.prog 33 #[.string a0, .string a1] w fun e w' => ∃ v0_ : Value, e = .returned (v0_) ∧ Kd.R Kd.string 9 w' w.heap.size (fun _ => True) v0_ r ∧ Below w.heap.size w w' := by
 unfold strings_Split.f at h
 by_cases h0 : a0.size ≤ 4294967280
 case neg => (rw [if_neg h0] at h; cases h)
 rw [if_pos h0] at h
 by_cases h1 : 1 ≤ a1.size
 case neg => (rw [if_neg h1] at h; cases h)
 rw [if_pos h1] at h
 obtain rfl := Option.some.inj h
 obtain ⟨⟨m, hm⟩, _⟩ := hL
 refine (Tryz.strings_Split a0 a1 m w (by omega) hm h1).mono ?_
 rintro e w' ⟨he, hw⟩
 have hlen : (Lib.splitB a1 0 (Lib.countB a0 a1) a0).length = Lib.countB a0 a1 + 1 := Lib.splitB_all a1 h1 0 _ a0 rfl
 have hle := Lib.countB_le a1 h1 a0.size a0 (Nat.le_refl _)
 refine ⟨_, he, ?_, ?_⟩
 ·rw [hw, ← hlen]
  refine Kd.R_of_own ?_ (fun _ _ => trivial)
  have := World.ownsRow_lit (base := w.heap.size) (e := 9) (size := 1) w ((Lib.splitB a1 0 (Lib.countB a0 a1) a0).map Value.string).toArray (Lib.splitB a1 0 (Lib.countB a0 a1) a0).length (Nat.le_refl _) (by rw [hlen]; simp only [maxLen]; omega) (by simp)
  simpa [encs] using this
 rw [hw]; exact below_alloc (Below.refl _ _) _

/-! ### strconv_Itoa: function 46 -/
def strconv_Itoa.f (a0 : Int) : Option (ByteArray) := if 0 ≤ a0 then (if a0 ≤ 9223372036854775807 then some (⟨(Lib.decDigits a0.toNat).toArray⟩ : ByteArray) else none) else none
theorem strconv_Itoa.calls (a0 : Int) (r : ByteArray) (w : World) (h : strconv_Itoa.f a0 = some r) (hL : LaidW w) :
  Calls Tryz.prog 46 #[.int .i64 a0] w fun e w' => e = .returned (.string r) ∧ Below w.heap.size w w' := by
 unfold strconv_Itoa.f at h
 by_cases h0 : 0 ≤ a0
 case neg => (rw [if_neg h0] at h; cases h)
 rw [if_pos h0] at h
 by_cases h1 : a0 ≤ 9223372036854775807
 ·rw [if_pos h1] at h
  obtain rfl := Option.some.inj h
  refine (Tryz.strconv_Itoa a0 (by omega) h1 w hL.2.2).mono ?_
  rintro e w' ⟨he, k, os, hw⟩
  refine ⟨?_, ?_⟩
  ·rw [he]
   obtain ⟨n, rfl⟩ := Int.eq_ofNat_of_zero_le h0
   rw [Lib.itoa_nonneg]; simp
  rw [hw]; exact Lib.below_grow _ _ (Nat.le_refl _) k os
 rw [if_neg h1] at h; cases h

end Go.Proofs.YtihjlepgmppedaaGreatDoor.PFnRules
