-- Laid for this claim by wip/tools/print2.sh, a changed copy of the kit's print (wip/tools/patch_print.py): not by print.sh. Changed by wip/fix/laid.py. Changed by wip/fix/strsize.py.
import Derived.Test.YthphbkkkbolcnaaGreatDoorPFnModelsx6
import Derived.Test.YthphbkkkbolcnaaGreatDoorVFnModels
namespace Go.Proofs.YthphbkkkbolcnaaGreatDoor.PFnModels
set_option maxHeartbeats 8000000
set_option maxRecDepth 100000
open Go.RowKit Go.Proofs.YthphbkkkbolcnaaGreatDoorW.PrintWords Go.Proofs.YthphbkkkbolcnaaGreatDoorW.PrintLast Go.Proofs.YthphbkkkbolcnaaGreatDoorW.PrintMore
set_option linter.unusedVariables false
set_option linter.unusedSimpArgs false

/-! ### impl_GridText: function 29 -/
def impl_GridText.f (a0_0 : Int) (a0_1 : Int) (a0_2 : Int) : Option (ByteArray × Bool) := (impl_IsGrid.f a0_0 a0_1 a0_2).bind fun t307 => (if t307 = true then ((strconv_Itoa.f a0_0).bind fun t308 => (if t308.size + 1 ≤ 9223372036854775807 then ((strconv_Itoa.f a0_1).bind fun t309 => (if (t308 ++ (⟨#[120]⟩ : ByteArray)).size + t309.size ≤ 9223372036854775807 then (if ((t308 ++ (⟨#[120]⟩ : ByteArray)) ++ t309).size + 1 ≤ 9223372036854775807 then ((strconv_Itoa.f a0_2).bind fun t310 => (if (((t308 ++ (⟨#[120]⟩ : ByteArray)) ++ t309) ++ (⟨#[120]⟩ : ByteArray)).size + t310.size ≤ 9223372036854775807 then (some ((((t308 ++ (⟨#[120]⟩ : ByteArray)) ++ t309) ++ (⟨#[120]⟩ : ByteArray)) ++ t310, true)) else (none))) else (none)) else (none))) else (none))) else (some ((⟨#[]⟩ : ByteArray), false)))
def impl_GridText.T3 : Bool × List (List Nat × List Nat) := (true, [([], []), ([0], [0]), ([1], [1]), ([2], [2]), ([], []), ([4], [4]), ([5, 2], [5]), ([3, 6], [3, 6]), ([7], [7]), ([], []), ([9], [9]), ([10, 6], [10]), ([8, 11], [8, 11]), ([12, 11, 0, 1, 2, 3, 4, 5, 6, 7, 8, 9, 10, 11, 12], [12]), ([13, 0, 1, 2, 3, 4, 5, 6, 7, 8, 9, 10, 11, 12, 13], [])])
def impl_GridText.B3 : List Nat := [0, 1, 3, 7, 0, 16, 55, 127, 255, 0, 512, 1655, 4095, 8191, 16383]
theorem impl_GridText.tab3 : rtab .any (opsOf Tryz.f29 3) = impl_GridText.T3 := by kernel_rfl
theorem impl_GridText.bits3 : waitsOk impl_GridText.T3.2 impl_GridText.B3 = true := by kernel_rfl
theorem impl_GridText.calls (a0_0 : Int) (a0_1 : Int) (a0_2 : Int) (r1 : ByteArray) (r2 : Bool) (w : World) (h : impl_GridText.f a0_0 a0_1 a0_2 = some (r1, r2)) (hL : LaidW w) :
  Calls Tryz.prog 29 #[.agg #[.int .i64 a0_0, .int .i64 a0_1, .int .i64 a0_2]] w fun e w' => e = .returned (.tuple #[.string r1, .bool r2]) ∧ Below w.heap.size w w' := by
 have HLw := am_ hL
 clear hL
 have hu25 := Tryz.underlying25
 have HB := am_ (Below.refl w.heap.size w)
 have H := h
 unfold impl_GridText.f at H
 clear h
 revert H; refine bn_ ?_; rintro t307 A2 H; try dsimp only at H
 by_cases c3 : t307 = true
 ·subst c3
  rw [if_pos rfl] at H
  revert H; refine bn_ ?_; rintro t308 A4 H; try dsimp only at H
  revert H; refine pf_ fun c5 H => ?_
  have c5b0 := eq_true c5
  have c5b1 := decide_eq_true c5
  try have c5b2 : (9223372036854775807 < t308.size + 1) = False := eq_false (Nat.not_lt.2 c5)
  revert H; refine bn_ ?_; rintro t309 A6 H; try dsimp only at H
  revert H; refine pf_ fun c7 H => ?_
  have c7b0 := eq_true c7
  have c7b1 := decide_eq_true c7
  try have c7b2 : (9223372036854775807 < (t308 ++ (⟨#[120]⟩ : ByteArray)).size + t309.size) = False := eq_false (Nat.not_lt.2 c7)
  have c7b3 : (9223372036854775807 < t308.size + 1 + t309.size) = False := eq_false (Nat.not_lt.2 (by have h_ := c7; simp only [ByteArray.size_append] at h_; exact h_))
  revert H; refine pf_ fun c8 H => ?_
  have c8b0 := eq_true c8
  have c8b1 := decide_eq_true c8
  try have c8b2 : (9223372036854775807 < ((t308 ++ (⟨#[120]⟩ : ByteArray)) ++ t309).size + 1) = False := eq_false (Nat.not_lt.2 c8)
  have c8b3 : (9223372036854775807 < t308.size + 1 + t309.size + 1) = False := eq_false (Nat.not_lt.2 (by have h_ := c8; simp only [ByteArray.size_append] at h_; exact h_))
  revert H; refine bn_ ?_; rintro t310 A9 H; try dsimp only at H
  revert H; refine pf_ fun c10 H => ?_
  have c10b0 := eq_true c10
  have c10b1 := decide_eq_true c10
  try have c10b2 : (9223372036854775807 < (((t308 ++ (⟨#[120]⟩ : ByteArray)) ++ t309) ++ (⟨#[120]⟩ : ByteArray)).size + t310.size) = False := eq_false (Nat.not_lt.2 c10)
  have c10b3 : (9223372036854775807 < t308.size + 1 + t309.size + 1 + t310.size) = False := eq_false (Nat.not_lt.2 (by have h_ := c10; simp only [ByteArray.size_append] at h_; exact h_))
  simp only [Option.some.injEq, Prod.mk.injEq] at H
  obtain ⟨rfl, rfl⟩ := H
  go_enter Tryz.func29, Tryz.ntmps29
  try go_wp2_with (first | ((with_reducible refine gate_dst (N := 1) rfl ?_); refine bv_ 1 (cs := #[.int .i64 a0_0, .int .i64 a0_1, .int .i64 a0_2]) (t := 25) ?_; intro gb306 hg w11 hbox hb; have BK306 := am_ (hbox); have GW306 := gs_ hg HB; have GE306 := gs_ hg HB; replace HB := hbs_ HB hb; clear hb hbox hg; obtain ⟨hcz12_0, hcz12_1, hcz12_2, hfz12_0, hfz12_1, hfz12_2⟩ := bx3 BK306) | ((with_reducible refine gk_ 33 ?_); refine gq_ 5 Tryz.func33 #[.agg #[.int .i64 a0_0, .int .i64 a0_1, .int .i64 a0_2]] ?_; (with_reducible refine (impl_IsGrid.calls a0_0 a0_1 a0_2 true _ A2.out).mono ?_); rintro e w13 ⟨rfl, hb⟩; refine ⟨_, rfl, ?_⟩; replace BK306 := kb_ BK306 hb; replace HB := hbs_ HB hb))
  replace BK306 := am_ (blk_drew BK306.out)
  replace HB := am_ (below_drew1 HB.out)
  refine start_ (n := 15) (S := fun w' => w'.cell? ⟨gb306, 0, none⟩ = some (.int .i64 a0_0) ∧ w'.cell? ⟨gb306, 1, none⟩ = some (.int .i64 a0_1) ∧ w'.cell? ⟨gb306, 2, none⟩ = some (.int .i64 a0_2)) (ds := []) (bb 15 0) (by kernel_rfl) rfl rfl ⟨(blk_cell BK306.out 0).trans rfl, (blk_cell BK306.out 1).trans rfl, (blk_cell BK306.out 2).trans rfl⟩ (fun hHeld => ?_); refine with_tabW impl_GridText.tab3 impl_GridText.bits3 (fun HT_ HW_ => ?_)
  generalize w13.drew = w14 at BK306 HB hHeld ⊢
  refine pm_ HT_ 0 7 15 1 ?_
  refine pm_ HT_ 4 11 15 17 ?_
  refine pm_ HT_ 9 16 15 529 ?_
  refine tk_ HT_ HW_ hHeld 1 (some 8) (bb 15 531) (h := ?_)
  refine tk_ HT_ HW_ hHeld 5 (some 12) (bb 15 563) (h := ?_)
  refine tk_ HT_ HW_ hHeld 10 (some 17) (bb 15 1587) (h := ?_)
  refine one_ (i := 2) (N := some 9) (bb 15 1591) rfl rfl (one_of HT_.out (by kernel_rfl)) (by decide) (fun K hK => ?_)
  refine goes_ Tryz.func56 (by kernel_rfl) rfl #[.int .i64 a0_0] (by rfl) rfl rfl (by (try simp only [List.map_toArray, List.map_cons, List.map_nil]); first | done | rfl | (simp only [List.length_drop, List.length_take]; rfl)) ?_
  with_reducible refine (strconv_Itoa.calls a0_0 t308 _ A4.out (by exact LaidW.step HLw (hb_ HB))).mono ?_
  rintro e w15 ⟨rfl, hb⟩
  refine ⟨_, rfl, ?_⟩
  replace BK306 := am_ (blk_below (kp_ BK306) hb)
  replace HB := am_ (below_step (hb_ HB) hb)
  refine hK.out _ _ ⟨(blk_cell BK306.out 0).trans rfl, (blk_cell BK306.out 1).trans rfl, (blk_cell BK306.out 2).trans rfl⟩ (fun hHeld => ?_)
  clear hK K
  refine nm_ (some 9) (h := ?_)
  refine pm_ HT_ 3 10 15 1599 ?_
  refine one_ (i := 6) (N := some 13) (bb 15 1663) rfl rfl (one_of HT_.out (by kernel_rfl)) (by decide) (fun K hK => ?_)
  refine goes_ Tryz.func56 (by kernel_rfl) rfl #[.int .i64 a0_1] (by rfl) rfl rfl (by (try simp only [List.map_toArray, List.map_cons, List.map_nil]); first | done | rfl | (simp only [List.length_drop, List.length_take]; rfl)) ?_
  with_reducible refine (strconv_Itoa.calls a0_1 t309 _ A6.out (by exact LaidW.step HLw (hb_ HB))).mono ?_
  rintro e w16 ⟨rfl, hb⟩
  refine ⟨_, rfl, ?_⟩
  replace BK306 := am_ (blk_below (kp_ BK306) hb)
  replace HB := am_ (below_step (hb_ HB) hb)
  refine hK.out _ _ ⟨(blk_cell BK306.out 0).trans rfl, (blk_cell BK306.out 1).trans rfl, (blk_cell BK306.out 2).trans rfl⟩ (fun hHeld => ?_)
  clear hK K
  refine nm_ (some 13) (h := ?_)
  refine pm_ HT_ 7 14 15 1791 ?_
  refine pm_ HT_ 8 15 15 2047 ?_
  refine one_ (i := 11) (N := some 18) (bb 15 4095) rfl rfl (one_of HT_.out (by kernel_rfl)) (by decide) (fun K hK => ?_)
  refine goes_ Tryz.func56 (by kernel_rfl) rfl #[.int .i64 a0_2] (by rfl) rfl rfl (by (try simp only [List.map_toArray, List.map_cons, List.map_nil]); first | done | rfl | (simp only [List.length_drop, List.length_take]; rfl)) ?_
  with_reducible refine (strconv_Itoa.calls a0_2 t310 _ A9.out (by exact LaidW.step HLw (hb_ HB))).mono ?_
  rintro e w17 ⟨rfl, hb⟩
  refine ⟨_, rfl, ?_⟩
  replace BK306 := am_ (blk_below (kp_ BK306) hb)
  replace HB := am_ (below_step (hb_ HB) hb)
  refine hK.out _ _ ⟨(blk_cell BK306.out 0).trans rfl, (blk_cell BK306.out 1).trans rfl, (blk_cell BK306.out 2).trans rfl⟩ (fun hHeld => ?_)
  clear hK K
  refine nm_ (some 18) (h := ?_)
  refine pm_ HT_ 12 19 15 8191 ?_
  refine pm_ HT_ 13 2 15 16383 ?_
  refine pm_ HT_ 14 3 15 32767 ?_
  refine done_ (done_of HT_.out (by kernel_rfl)) ?_
  try go_wp2
  go_ret2
  exact ad_ (hb_ HB)
 replace c3 := Bool.eq_false_iff.mpr c3
 subst c3
 rw [if_neg (show ¬ (false = true) by decide)] at H
 simp only [Option.some.injEq, Prod.mk.injEq] at H
 obtain ⟨rfl, rfl⟩ := H
 go_enter Tryz.func29, Tryz.ntmps29
 go_wp2_with (first | ((with_reducible refine gate_dst (N := 1) rfl ?_); refine bv_ 1 (cs := #[.int .i64 a0_0, .int .i64 a0_1, .int .i64 a0_2]) (t := 25) ?_; intro gb306 hg w18 hbox hb; have BK306 := am_ (hbox); have GW306 := gs_ hg HB; have GE306 := gs_ hg HB; replace HB := hbs_ HB hb; clear hb hbox hg; obtain ⟨hcz19_0, hcz19_1, hcz19_2, hfz19_0, hfz19_1, hfz19_2⟩ := bx3 BK306) | ((with_reducible refine gk_ 33 ?_); refine gq_ 5 Tryz.func33 #[.agg #[.int .i64 a0_0, .int .i64 a0_1, .int .i64 a0_2]] ?_; (with_reducible refine (impl_IsGrid.calls a0_0 a0_1 a0_2 false _ A2.out).mono ?_); rintro e w20 ⟨rfl, hb⟩; refine ⟨_, rfl, ?_⟩; replace BK306 := kb_ BK306 hb; replace HB := hbs_ HB hb))
 go_ret2
 exact ad_ (hb_ HB)

/-! ### strings_Join: function 57 -/
def strings_Join.f (l0 : List ByteArray) (a1 : ByteArray) : Option (ByteArray × List ByteArray) := if l0.length ≤ 140737488355328 then (if (Lib.join (l0.map (·.data.toList)) a1.data.toList).length ≤ 140737488355328 then some ((⟨(Lib.join (l0.map (·.data.toList)) a1.data.toList).toArray⟩ : ByteArray), l0) else none) else none
theorem join_none_ : (none : Option Nat) = none := rfl
section
open Go.Sort Go.Shelf Go.Lib
theorem strings_Join.calls (P0_ : Nat → Prop) (u9000_ : Value) (l0 : List ByteArray) (a1 : ByteArray) (r1 : ByteArray) (r2 : List ByteArray) (w0 w : World) (hB : Below w0.heap.size w0 w) (ho0 : Kd.R Kd.string 9 w w0.heap.size P0_ u9000_ l0) (h : strings_Join.f l0 a1 = some (r1, r2)) :
 Calls Tryz.prog 57 #[u9000_, .string a1] w fun e w' => e = .returned (.string r1) ∧ Kd.R Kd.string 9 w' w0.heap.size (fun k_ => (P0_ k_ ∨ w.heap.size ≤ k_)) u9000_ r2 ∧ Below w0.heap.size w0 w' ∧ Kept w w' (fun k_ => P0_ k_) := by
 unfold strings_Join.f at h
 by_cases h0 : l0.length ≤ 140737488355328
 case neg => (rw [if_neg h0] at h; cases h)
 rw [if_pos h0] at h
 by_cases h1 : (Lib.join (l0.map (·.data.toList)) a1.data.toList).length ≤ 140737488355328
 case neg => (rw [if_neg h1] at h; cases h)
 rw [if_pos h1] at h
 simp only [Option.some.injEq, Prod.mk.injEq] at h
 obtain ⟨rfl, rfl⟩ := h
 have hall : ∀ w', Below w.heap.size w w' → Kd.R Kd.string 9 w' w0.heap.size (fun k_ => (P0_ k_ ∨ w.heap.size ≤ k_)) u9000_ l0 ∧ Below w0.heap.size w0 w' ∧ Kept w w' (fun k_ => P0_ k_) := fun w' hb =>
  ⟨Kd.R_mono (Kd.R_below ho0 hb) (fun _ h => .inl h), below_step hB hb, hb.size, fun i hi _ => hb.block i hi⟩
 have ho := Kd.own_of_R ho0
 by_cases hv : u9000_ = .slice none 0 0
 ·subst hv
  have hn : l0.length = 0 := by
   rcases ho.2 with ⟨_, hn⟩ | ⟨g, cap, cur, e, _⟩
   ·exact hn
   ·cases e
  obtain rfl := List.length_eq_zero_iff.1 hn
  refine (Tryz.strings_Join_none none 0 a1 w).mono ?_
  rintro e w' ⟨he, rfl⟩
  exact ⟨by rw [he]; simp [Lib.join], hall _ (Below.refl _ _)⟩
 unfold encs at ho
 obtain ⟨g, cap, rfl, hg, hlt, hcap, _, _, hh⟩ := Lib.holds_of_ownsRow ho hv
 refine (Tryz.strings_Join g 0 cap l0 a1 w ?_ hlt h0 hcap h1).mono ?_
 ·intro j x hx
  obtain ⟨hj, hx⟩ := List.getElem?_eq_some_iff.1 hx
  have h2 := (hh j (by simpa using hj)).1
  rw [h2]
  simp [hj, hx]
 rintro e w' ⟨he, hb⟩
 exact ⟨he, hall _ hb⟩
end

/-! ### impl_numbersText: function 30 -/
def impl_numbersText.l0 : Nat → List ByteArray → List Int → Int → Int → Option (ByteArray)
 | 0, _, _, _, _ => none
 | k + 1, x3, x7, x8, x9 => if x9 < x8 then (if 0 ≤ x9 then (if x9 < (x7.length : Int) then ((strconv_Itoa.f (rd x7 x9)).bind fun t315 => (if x3.length < 8796093022208 then (impl_numbersText.l0 k (x3 ++ [t315]) x7 x8 (wrap64 (x9 + 1))) else (none))) else (none)) else (none)) else ((strings_Join.f x3 (⟨#[32]⟩ : ByteArray)).bind fun bt319 => (some bt319.1))
def impl_numbersText.f (k : Nat) (l0 : List Int) : Option (ByteArray) := impl_numbersText.l0 k (([] : List ByteArray)) l0 (l0.length : Int) 0
theorem impl_numbersText.calls (k : Nat) (A0 : Option Addr) (c0 : Nat) (l0 : List Int) (r : ByteArray) (w : World) (hr0 : Kd.C (Kd.int .i64) w A0 l0.length l0) (hc0 : l0.length ≤ c0) (h : impl_numbersText.f k l0 = some r) (hL : LaidW w) :
  Calls Tryz.prog 30 #[.slice A0 l0.length c0] w fun e w' => e = .returned (.string r) ∧ Below w.heap.size w w' := by
 have HLw := am_ hL
 clear hL
 have HR0 := am_ hr0
 have HC0 := am_ hc0
 clear hr0 hc0
 have HB := am_ (Below.refl w.heap.size w)
 have H := h
 unfold impl_numbersText.f at H
 clear h
 obtain ⟨y311, hy311⟩ : ∃ y_ : List ByteArray, y_ = (([] : List ByteArray)) := ⟨_, rfl⟩
 replace H : (impl_numbersText.l0 k y311 l0 (l0.length : Int) 0) = some r := by first | (rw [hy311]; with_reducible exact H) | (have H2_ := (Option.bind_some _ _).symm.trans H; rw [hy311]; with_reducible exact H2_) | (have H2_ := (Option.bind_some _ _).symm.trans H; with_reducible exact H2_) | with_reducible exact H | (rw [hy311]; exact H) | exact H
 have Ny311 := am_ hy311
 clear hy311
 have H' := am_ H
 clear H
 go_enter Tryz.func30, Tryz.ntmps30
 go_wp2_with (first | ((with_reducible refine gate_dst (N := 6) rfl ?_); refine Kd.R_lit Kd.string _ 9 ?hg (N := 6) ?hd (xs := ([] : List ByteArray)) (inner := []) (ok := fun _ => True) (okp := fun _ => True) ?hr ?hp (fun _ hk => hk) trivial (Below.refl _ _) (Nat.le_refl _) (by simp) ?_; (case hd => rfl); (case hg => rfl); (case hr => first | (go_simp; done) | (go_simp; rfl)); (case hp => exact (Reps.none _ _)); intro v312 w2 ho3 hb hg_ hnew_; clear hg_ hnew_; (first | rw [← Ny311.out] at ho3 | (simp only [Int.reduceToNat] at ho3; rw [← Ny311.out] at ho3)); have HO313 := Kd.R_lo ho3 HB; replace HB := hbs_ HB hb; clear hb ho3))
 go_loopg [3, 9] k (fun kq v3 v9 w' => ∃ (x3_1 : List ByteArray) (x9_1 : Int), v9 = .int .i64 x9_1 ∧ Aside0 (impl_numbersText.l0 kq x3_1 l0 (l0.length : Int) x9_1 = some r) ∧ Aside0 (kq ≤ k) ∧ Aside0 (Kd.R Kd.string 9 w' w.heap.size (fun _ => True) v3 x3_1) ∧ Aside0 (Below w.heap.size w w'))
 case atStart => exact ⟨(y311), (0), sr_, H', ⟨Nat.le_refl _⟩, ⟨Kd.R_p HO313⟩, ⟨hb_ HB⟩⟩
 clear H'
 obtain ⟨x3_1, x9_1, rfl, HA, HK1, HO_3, HB⟩ := hrel
 cases gk with
 | zero => exact absurd HA.out (by simp [impl_numbersText.l0])
 | succ k1 => ?_
 have H := HA.out
 clear HA
 simp only [impl_numbersText.l0] at H
 by_cases c4 : x9_1 < (l0.length : Int)
 ·rw [if_pos c4] at H
  have c4b0 := decide_eq_true c4
  clear c4
  revert H; refine pd_ fun c5b0 H => ?_
  revert H; refine pd_ fun c6b0 H => ?_
  revert H; refine bn_ ?_; rintro t315 A7 H; try dsimp only at H
  revert H; refine pf_ fun c8 H => ?_
  have LMc8 := am_ c8
  clear c8
  obtain ⟨y316, hy316⟩ : ∃ y_ : List ByteArray, y_ = (x3_1 ++ [t315]) := ⟨_, rfl⟩
  (try with_reducible replace H := (Option.bind_some _ _).symm.trans H); (try dsimp only at H); (try rw [← hy316] at H)
  have Ny316 := am_ hy316
  clear hy316
  have H' := am_ H
  clear H
  have p314 : 0 ≤ (x9_1 : Int) := od_
  have q314 : x9_1 < (l0.length : Int) := od_
  obtain ⟨ad314, e314, hx314_0⟩ := Kd.at_int HR0.out x9_1 p314 q314
  cases e314
  try replace hx314_0 := hc_ HB hx314_0
  replace p314 := eq_true p314
  replace q314 := eq_true q314
  go_wp2_with (first | ((with_reducible refine gk_ 56 ?_); refine gq_ 15 Tryz.func56 #[.int .i64 (rd l0 x9_1)] ?_; (with_reducible refine (strconv_Itoa.calls (rd l0 x9_1) t315 _ A7.out (by exact LaidW.step HLw (hb_ HB))).mono ?_); rintro e w9 ⟨rfl, hb⟩; refine ⟨_, rfl, ?_⟩; replace HO_3 := Kd.R_b HO_3 hb; replace HB := hbs_ HB hb) | ((with_reducible refine gate_builtin (b := .append) (xs := #[.tmp 13, .tmp 16]) rfl ?_); at_builtin; refine Kd.R_append Kd.string (w0 := w) w.heap.size rfl (.tmp 13) (.tmp 16) 58 9 (.string ⟨#[]⟩) 16 rfl Tryz.underlying58 info9 rfl (by decide) (by omega) u3 x3_1 t315 [.string t315] (fun _ => True) (fun _ => False) rfl rfl ?aP (fun _ hk => hk.elim) ?aF ?aO ?aB ?aS ?aL ?_; (case aP => exact rfl); (case aB => exact (hb_ HB)); (case aF => exact (fun _ _ => trivial)); (case aO => exact (Kd.R_p HO_3)); (case aS => exact (below_size (hb_ HB))); (case aL => have := LMc8.out; omega); intro v317 w10 ho hb hg hat; rw [← Ny316.out] at ho; have HO318 := am_ (ho); replace HB := am_ (hb); clear HO_3; clear ho hb hg hat))
  go_roundg k1
  case measure => have := HK1.out; omega
  case rel => exact ⟨(y316), (wrap64 (x9_1 + 1)), sr_, H', ⟨by have := HK1.out; omega⟩, ⟨Kd.R_p HO318⟩, ⟨hb_ HB⟩⟩
 rw [if_neg c4] at H
 have c4b0 := decide_eq_false c4
 clear c4
 revert H; refine bn_ ?_; rintro ⟨t319, t320⟩ A11 H; try dsimp only at H
 obtain rfl := Option.some.inj H
 obtain ⟨Ao12, co12, eo12⟩ := Kd.R_slice HO_3.out
 subst eo12
 go_wp2_with (first | ((with_reducible refine gk_ 57 ?_); refine gq_ 20 Tryz.func57 #[.slice Ao12 x3_1.length co12, .string ⟨#[32]⟩] ?_; (with_reducible refine (strings_Join.calls (fun k_ => some k_ = (.slice Ao12 x3_1.length co12 : Value).ownBlock) (.slice Ao12 x3_1.length co12) x3_1 (⟨#[32]⟩ : ByteArray) t319 t320 w _ ?_ ?_ A11.out).mono ?_); exact hb_ HB; exact Kd.R_tight rfl HO_3.out; rintro e w13 ⟨rfl, hy0, hb, hkp⟩; refine ⟨_, rfl, ?_⟩; replace HO_3 := am_ (Kd.R_reok rfl hy0 (fun k_ e_ => HO_3.out.1 k_ e_)); replace HB := am_ (hb)))
 go_ret
 exact ad_ (hb_ HB)

/-! ### impl_ModelText: function 6 -/
def impl_ModelText.l0 : Nat → ByteArray → Int → Int → Int → Int → Int → List Int → List Int → List Int → Option (ByteArray × Bool)
 | 0, _, _, _, _, _, _, _, _, _ => none
 | k + 1, x6, x22, x23, x322000, x322001, x322002, x322003, x322004, x322005 => if x23 < x22 then (if 0 ≤ x23 then (if x23 < (x322003.length : Int) then (if x23 < (x322004.length : Int) then (if x23 < (x322005.length : Int) then ((impl_numbersText.f k (([rd x322003 x23, rd x322004 x23, rd x322005 x23] : List Int))).bind fun t331 => (if t331.size + 1 ≤ 9223372036854775807 then (if x6.size + (t331 ++ (⟨#[10]⟩ : ByteArray)).size ≤ 9223372036854775807 then (impl_ModelText.l0 k (x6 ++ (t331 ++ (⟨#[10]⟩ : ByteArray))) x22 (wrap64 (x23 + 1)) x322000 x322001 x322002 x322003 x322004 x322005) else (none)) else (none))) else (none)) else (none)) else (none)) else (none)) else (some (x6, true))
def impl_ModelText.f (k : Nat) (a0_0 : Int) (a0_1 : Int) (a0_2 : Int) (l0_3 : List Int) (l0_4 : List Int) (l0_5 : List Int) : Option (ByteArray × Bool) := (impl_IsModel.f k a0_0 a0_1 a0_2 l0_3 l0_4 l0_5).bind fun t322 => (if t322 = true then ((impl_GridText.f a0_0 a0_1 a0_2).bind fun bt323 => (if 6 + bt323.1.size ≤ 9223372036854775807 then (if ((⟨#[109, 111, 100, 101, 108, 32]⟩ : ByteArray) ++ bt323.1).size + 1 ≤ 9223372036854775807 then (impl_ModelText.l0 k (((⟨#[109, 111, 100, 101, 108, 32]⟩ : ByteArray) ++ bt323.1) ++ (⟨#[10]⟩ : ByteArray)) (l0_3.length : Int) 0 a0_0 a0_1 a0_2 l0_3 l0_4 l0_5) else (none)) else (none))) else (some ((⟨#[]⟩ : ByteArray), false)))
def impl_ModelText.T8 : Bool × List (List Nat × List Nat) := (true, [([], []), ([], []), ([1], [1]), ([], []), ([2, 3], [2, 3]), ([4], [4]), ([], []), ([6], [6]), ([], []), ([7, 8], [7, 8]), ([9], [9]), ([], []), ([11], [11]), ([], []), ([12, 13], [12, 13]), ([14], [14]), ([5, 10, 15], [5, 10, 15]), ([16], [16]), ([17], [17]), ([0, 18], [0, 18]), ([19, 17, 0, 1, 2, 3, 4, 5, 6, 7, 8, 9, 10, 11, 12, 13, 14, 15, 16, 17, 18, 19], [0, 19])])
def impl_ModelText.B8 : List Nat := [0, 0, 2, 0, 14, 30, 0, 64, 0, 448, 960, 0, 2048, 0, 14336, 30720, 65534, 131070, 262142, 524287, 1048575]
theorem impl_ModelText.tab8 : rtab .any (opsOf Tryz.f6 8) = impl_ModelText.T8 := by kernel_rfl
theorem impl_ModelText.bits8 : waitsOk impl_ModelText.T8.2 impl_ModelText.B8 = true := by kernel_rfl
theorem impl_ModelText.calls (k : Nat) (a0_0 : Int) (a0_1 : Int) (a0_2 : Int) (A0_3 : Option Addr) (c0_3 : Nat) (l0_3 : List Int) (A0_4 : Option Addr) (c0_4 : Nat) (l0_4 : List Int) (A0_5 : Option Addr) (c0_5 : Nat) (l0_5 : List Int) (r1 : ByteArray) (r2 : Bool) (w : World) (hr0_3 : Kd.C (Kd.int .i64) w A0_3 l0_3.length l0_3) (hc0_3 : l0_3.length ≤ c0_3) (hr0_4 : Kd.C (Kd.int .i64) w A0_4 l0_4.length l0_4) (hc0_4 : l0_4.length ≤ c0_4) (hr0_5 : Kd.C (Kd.int .i64) w A0_5 l0_5.length l0_5) (hc0_5 : l0_5.length ≤ c0_5) (h : impl_ModelText.f k a0_0 a0_1 a0_2 l0_3 l0_4 l0_5 = some (r1, r2)) (hL : LaidW w) :
  Calls Tryz.prog 6 #[.agg #[.int .i64 a0_0, .int .i64 a0_1, .int .i64 a0_2, .slice A0_3 l0_3.length c0_3, .slice A0_4 l0_4.length c0_4, .slice A0_5 l0_5.length c0_5]] w fun e w' => e = .returned (.tuple #[.string r1, .bool r2]) ∧ Below w.heap.size w w' := by
 have HLw := am_ hL
 clear hL
 have hu28 := Tryz.underlying28
 have hu25 := Tryz.underlying25
 have HR0_3 := am_ hr0_3
 have HC0_3 := am_ hc0_3
 clear hr0_3 hc0_3
 have HR0_4 := am_ hr0_4
 have HC0_4 := am_ hc0_4
 clear hr0_4 hc0_4
 have HR0_5 := am_ hr0_5
 have HC0_5 := am_ hc0_5
 clear hr0_5 hc0_5
 have HB := am_ (Below.refl w.heap.size w)
 have H := h
 unfold impl_ModelText.f at H
 clear h
 revert H; refine bn_ ?_; rintro t322 A2 H; try dsimp only at H
 by_cases c3 : t322 = true
 ·subst c3
  rw [if_pos rfl] at H
  revert H; refine bn_ ?_; rintro ⟨t323, t324⟩ A4 H; try dsimp only at H
  revert H; refine pf_ fun c5 H => ?_
  have c5b0 := eq_true c5
  have c5b1 := decide_eq_true c5
  try have c5b2 : (9223372036854775807 < 6 + t323.size) = False := eq_false (Nat.not_lt.2 c5)
  revert H; refine pf_ fun c6 H => ?_
  have c6b0 := eq_true c6
  have c6b1 := decide_eq_true c6
  try have c6b2 : (9223372036854775807 < ((⟨#[109, 111, 100, 101, 108, 32]⟩ : ByteArray) ++ t323).size + 1) = False := eq_false (Nat.not_lt.2 c6)
  have c6b3 : (9223372036854775807 < 6 + t323.size + 1) = False := eq_false (Nat.not_lt.2 (by have h_ := c6; simp only [ByteArray.size_append] at h_; exact h_))
  have H' := am_ H
  clear H
  go_enter Tryz.func6, Tryz.ntmps6
  go_wp2_with (first | ((with_reducible refine gate_dst (N := 1) rfl ?_); refine bv_ 1 (cs := #[.int .i64 a0_0, .int .i64 a0_1, .int .i64 a0_2, .slice A0_3 l0_3.length c0_3, .slice A0_4 l0_4.length c0_4, .slice A0_5 l0_5.length c0_5]) (t := 28) ?_; intro gb321 hg w7 hbox hb; have BK321 := am_ (hbox); have GW321 := gs_ hg HB; have GE321 := gs_ hg HB; replace HB := hbs_ HB hb; clear hb hbox hg; obtain ⟨hcz8_0, hcz8_1, hcz8_2, hcz8_3, hcz8_4, hcz8_5, hfz8_0, hfz8_1, hfz8_2, hfz8_3, hfz8_4, hfz8_5⟩ := bx6 BK321) | ((with_reducible refine gk_ 8 ?_); refine gq_ 9 Tryz.func8 #[.agg #[.int .i64 a0_0, .int .i64 a0_1, .int .i64 a0_2, .slice A0_3 l0_3.length c0_3, .slice A0_4 l0_4.length c0_4, .slice A0_5 l0_5.length c0_5]] ?_; (with_reducible refine (impl_IsModel.calls k a0_0 a0_1 a0_2 _ _ l0_3 _ _ l0_4 _ _ l0_5 true _ ?_ ?_ ?_ ?_ ?_ ?_ A2.out).mono ?_); exact Kd.C_w HR0_3 HB; exact HC0_3.out; exact Kd.C_w HR0_4 HB; exact HC0_4.out; exact Kd.C_w HR0_5 HB; exact HC0_5.out; rintro e w9 ⟨rfl, hb⟩; refine ⟨_, rfl, ?_⟩; replace BK321 := kb_ BK321 hb; replace HB := hbs_ HB hb; obtain ⟨hcz10_0, hcz10_1, hcz10_2, hcz10_3, hcz10_4, hcz10_5, hfz10_0, hfz10_1, hfz10_2, hfz10_3, hfz10_4, hfz10_5⟩ := bx6 BK321) | ((with_reducible refine gk_ 29 ?_); refine gq_ 14 Tryz.func29 #[.agg #[.int .i64 a0_0, .int .i64 a0_1, .int .i64 a0_2]] ?_; (with_reducible refine (impl_GridText.calls a0_0 a0_1 a0_2 t323 t324 _ A4.out (by exact LaidW.step HLw (hb_ HB))).mono ?_); rintro e w11 ⟨rfl, hb⟩; refine ⟨_, rfl, ?_⟩; replace BK321 := kb_ BK321 hb; replace HB := hbs_ HB hb; obtain ⟨hcz12_0, hcz12_1, hcz12_2, hcz12_3, hcz12_4, hcz12_5, hfz12_0, hfz12_1, hfz12_2, hfz12_3, hfz12_4, hfz12_5⟩ := bx6 BK321))
  go_loopg [6, 23] k (fun kq v6 v23 w' => ∃ (x6_1 : ByteArray) (x23_1 : Int), v6 = .string x6_1 ∧ v23 = .int .i64 x23_1 ∧ Aside0 (impl_ModelText.l0 kq x6_1 (l0_3.length : Int) x23_1 a0_0 a0_1 a0_2 l0_3 l0_4 l0_5 = some (r1, r2)) ∧ Aside0 (kq ≤ k) ∧ Aside0 (w'.heap[gb321]? = some (.cells #[.int .i64 a0_0, .int .i64 a0_1, .int .i64 a0_2, (.slice A0_3 l0_3.length c0_3), (.slice A0_4 l0_4.length c0_4), (.slice A0_5 l0_5.length c0_5)] 28 (0, 0))) ∧ Aside0 (Below w.heap.size w w'))
  case atStart => exact ⟨(((⟨#[109, 111, 100, 101, 108, 32]⟩ : ByteArray) ++ t323) ++ (⟨#[10]⟩ : ByteArray)), (0), sr_, sr_, H', ⟨Nat.le_refl _⟩, ⟨kp_ BK321⟩, ⟨hb_ HB⟩⟩
  clear H'
  obtain ⟨x6_1, x23_1, rfl, rfl, HA, HK1, BK321, HB⟩ := hrel
  cases gk with
  | zero => exact absurd HA.out (by simp [impl_ModelText.l0])
  | succ k1 => ?_
  have H := HA.out
  clear HA
  simp only [impl_ModelText.l0] at H
  by_cases c13 : x23_1 < (l0_3.length : Int)
  case neg => rw [if_neg c13] at H; have c13b0 := decide_eq_false c13; clear c13; simp only [Option.some.injEq, Prod.mk.injEq] at H; obtain ⟨rfl, rfl⟩ := H; go_wp2; go_ret2; exact ad_ (hb_ HB)
  rw [if_pos c13] at H
  have c13b0 := decide_eq_true c13
  clear c13
  revert H; refine pd_ fun c14b0 H => ?_
  revert H; refine pd_ fun c15b0 H => ?_
  revert H; refine pd_ fun c16b0 H => ?_
  revert H; refine pd_ fun c17b0 H => ?_
  obtain ⟨y328, hy328⟩ : ∃ y_ : List Int, y_ = (([rd l0_3 x23_1, rd l0_4 x23_1, rd l0_5 x23_1] : List Int)) := ⟨_, rfl⟩
  (try with_reducible replace H := (Option.bind_some _ _).symm.trans H); (try dsimp only at H); (try rw [← hy328] at H)
  have Ny328 := am_ hy328
  clear hy328
  revert H; refine bn_ ?_; rintro t331 A18 H; try dsimp only at H
  revert H; refine pf_ fun c19 H => ?_
  have c19b0 := eq_true c19
  have c19b1 := decide_eq_true c19
  try have c19b2 : (9223372036854775807 < t331.size + 1) = False := eq_false (Nat.not_lt.2 c19)
  revert H; refine pf_ fun c20 H => ?_
  have c20b0 := eq_true c20
  have c20b1 := decide_eq_true c20
  try have c20b2 : (9223372036854775807 < x6_1.size + (t331 ++ (⟨#[10]⟩ : ByteArray)).size) = False := eq_false (Nat.not_lt.2 c20)
  have c20b3 : (9223372036854775807 < x6_1.size + (t331.size + 1)) = False := eq_false (Nat.not_lt.2 (by have h_ := c20; simp only [ByteArray.size_append] at h_; exact h_))
  have H' := am_ H
  clear H
  try go_wp2
  replace BK321 := am_ (blk_drew BK321.out)
  replace HB := am_ (below_drew1 HB.out)
  have p325 : 0 ≤ (x23_1 : Int) := od_
  have q325 : x23_1 < (l0_3.length : Int) := od_
  obtain ⟨ad325, e325, hx325_0⟩ := Kd.at_int HR0_3.out x23_1 p325 q325
  have hw325_0 := hx325_0
  cases e325
  try replace hx325_0 := hc_ HB hx325_0
  replace p325 := eq_true p325
  replace q325 := eq_true q325
  have p326 : 0 ≤ (x23_1 : Int) := od_
  have q326 : x23_1 < (l0_4.length : Int) := od_
  obtain ⟨ad326, e326, hx326_0⟩ := Kd.at_int HR0_4.out x23_1 p326 q326
  have hw326_0 := hx326_0
  cases e326
  try replace hx326_0 := hc_ HB hx326_0
  replace p326 := eq_true p326
  replace q326 := eq_true q326
  have p327 : 0 ≤ (x23_1 : Int) := od_
  have q327 : x23_1 < (l0_5.length : Int) := od_
  obtain ⟨ad327, e327, hx327_0⟩ := Kd.at_int HR0_5.out x23_1 p327 q327
  have hw327_0 := hx327_0
  cases e327
  try replace hx327_0 := hc_ HB hx327_0
  replace p327 := eq_true p327
  replace q327 := eq_true q327
  refine start_ (n := 21) (S := fun w' => w'.cell? ⟨gb321, 0, none⟩ = some (.int .i64 a0_0) ∧ w'.cell? ⟨gb321, 1, none⟩ = some (.int .i64 a0_1) ∧ w'.cell? ⟨gb321, 2, none⟩ = some (.int .i64 a0_2) ∧ w'.cell? ⟨gb321, 3, none⟩ = some (.slice (some ad325) l0_3.length c0_3) ∧ w'.cell? ⟨gb321, 4, none⟩ = some (.slice (some ad326) l0_4.length c0_4) ∧ w'.cell? ⟨gb321, 5, none⟩ = some (.slice (some ad327) l0_5.length c0_5) ∧ w'.cell? (ad325.add (x23_1).toNat) = some (.int .i64 (rd l0_3 x23_1)) ∧ w'.cell? (ad326.add (x23_1).toNat) = some (.int .i64 (rd l0_4 x23_1)) ∧ w'.cell? (ad327.add (x23_1).toNat) = some (.int .i64 (rd l0_5 x23_1))) (ds := []) (bb 21 0) (by kernel_rfl) rfl rfl ⟨(blk_cell BK321.out 0).trans rfl, (blk_cell BK321.out 1).trans rfl, (blk_cell BK321.out 2).trans rfl, (blk_cell BK321.out 3).trans rfl, (blk_cell BK321.out 4).trans rfl, (blk_cell BK321.out 5).trans rfl, (hcl_ HB hw325_0), (hcl_ HB hw326_0), (hcl_ HB hw327_0)⟩ (fun hHeld => ?_); refine with_tabW impl_ModelText.tab8 impl_ModelText.bits8 (fun HT_ HW_ => ?_)
  generalize wr.drew = w21 at BK321 HB hx325_0 hx326_0 hx327_0 hHeld ⊢
  refine pm_ HT_ 0 26 21 1 ?_
  refine pm_ HT_ 1 27 21 3 ?_
  refine pm_ HT_ 3 29 21 11 ?_
  refine pm_ HT_ 6 32 21 75 ?_
  refine pm_ HT_ 8 34 21 331 ?_
  refine pm_ HT_ 11 37 21 2379 ?_
  refine pm_ HT_ 13 39 21 10571 ?_
  refine tk_ HT_ HW_ hHeld 2 (some 28) (bb 21 10575) (h := ?_)
  refine pm_ HT_ 4 30 21 10591 ?_
  refine tk_ HT_ HW_ hHeld 5 (some 31) (bb 21 10623) (h := ?_)
  refine tk_ HT_ HW_ hHeld 7 (some 33) (bb 21 10751) (h := ?_)
  refine pm_ HT_ 9 35 21 11263 ?_
  refine tk_ HT_ HW_ hHeld 10 (some 36) (bb 21 12287) (h := ?_)
  refine tk_ HT_ HW_ hHeld 12 (some 38) (bb 21 16383) (h := ?_)
  refine pm_ HT_ 14 40 21 32767 ?_
  refine tk_ HT_ HW_ hHeld 15 (some 41) (bb 21 65535) (h := ?_)
  refine one_ (i := 16) (N := some 42) (bb 21 131071) rfl rfl (one_of HT_.out (by kernel_rfl)) (by decide) (fun K hK => ?_)
  refine Kd.R_lit_step (Kd.int .i64) _ 3 ?hg (N := 42) ?hd (xs := ([rd l0_3 x23_1, rd l0_4 x23_1, rd l0_5 x23_1] : List Int)) (inner := [.int .i64 (rd l0_3 x23_1), .int .i64 (rd l0_4 x23_1), .int .i64 (rd l0_5 x23_1)]) (ok := fun _ => True) (okp := fun _ => True) ?hr ?hp (fun _ hk => hk) trivial (Below.refl _ _) (Nat.le_refl _) (by simp) ?_; (case hd => rfl); (case hg => rfl); (case hr => first | (go_simp; done) | (go_simp; rfl)); (case hp => exact (Reps.one (show Kd.M (Kd.int .i64) _ _ _ (rd l0_3 x23_1) [.int .i64 (rd l0_3 x23_1)] from rfl) (Reps.one (show Kd.M (Kd.int .i64) _ _ _ (rd l0_4 x23_1) [.int .i64 (rd l0_4 x23_1)] from rfl) (Reps.one (show Kd.M (Kd.int .i64) _ _ _ (rd l0_5 x23_1) [.int .i64 (rd l0_5 x23_1)] from rfl) (Reps.none _ _)))))
  intro v329 w22 ho23 hb hg_ hnew_
  clear hg_ hnew_
  (first | rw [← Ny328.out] at ho23 | (simp only [Int.reduceToNat] at ho23; rw [← Ny328.out] at ho23))
  have HO330 := am_ (Kd.R_lower ho23 (below_size (hb_ HB)))
  replace BK321 := am_ (blk_below (kp_ BK321) hb)
  replace HB := am_ (below_step (hb_ HB) hb)
  clear hb ho23
  obtain ⟨Ao24, co24, eo24⟩ := Kd.R_slice HO330.out
  (first | subst eo24 | (injection eo24 with f1_ f2_ f3_; have f4_ := f1_.symm; have f5_ := f3_.symm; clear f1_ f2_ f3_; subst f4_; subst f5_))
  refine hK.out _ _ ⟨(blk_cell BK321.out 0).trans rfl, (blk_cell BK321.out 1).trans rfl, (blk_cell BK321.out 2).trans rfl, (blk_cell BK321.out 3).trans rfl, (blk_cell BK321.out 4).trans rfl, (blk_cell BK321.out 5).trans rfl, (hcl_ HB hw325_0), (hcl_ HB hw326_0), (hcl_ HB hw327_0)⟩ (fun hHeld => ?_)
  clear hK K
  refine nm_ (some 42) (h := ?_)
  refine one_ (i := 17) (N := some 43) (bb 21 262143) rfl rfl (one_of HT_.out (by kernel_rfl)) (by decide) (fun K hK => ?_)
  refine goes_ Tryz.func30 (by kernel_rfl) rfl #[.slice Ao24 y328.length co24] (by rfl) rfl rfl (by (try simp only [List.map_toArray, List.map_cons, List.map_nil]); first | done | rfl | (simp only [List.length_drop, List.length_take]; rfl)) ?_
  with_reducible refine (impl_numbersText.calls k1 _ _ y328 t331 _ ?side1 ?side2 A18.out (by exact LaidW.step HLw (hb_ HB))).mono ?_
  (case side1 => exact Kd.C_o HO330)
  (case side2 => exact (Kd.R_reads' HO330.out).2.1)
  rintro e w25 ⟨rfl, hb⟩
  refine ⟨_, rfl, ?_⟩
  replace HO330 := am_ (Kd.R_below (Kd.R_p HO330) hb)
  replace BK321 := am_ (blk_below (kp_ BK321) hb)
  replace HB := am_ (below_step (hb_ HB) hb)
  refine hK.out _ _ ⟨(blk_cell BK321.out 0).trans rfl, (blk_cell BK321.out 1).trans rfl, (blk_cell BK321.out 2).trans rfl, (blk_cell BK321.out 3).trans rfl, (blk_cell BK321.out 4).trans rfl, (blk_cell BK321.out 5).trans rfl, (hcl_ HB hw325_0), (hcl_ HB hw326_0), (hcl_ HB hw327_0)⟩ (fun hHeld => ?_)
  clear hK K
  refine nm_ (some 43) (h := ?_)
  refine pm_ HT_ 18 44 21 524287 ?_
  refine pm_ HT_ 19 45 21 1048575 ?_
  refine pm_ HT_ 20 6 21 2097151 ?_
  refine done_ (done_of HT_.out (by kernel_rfl)) ?_
  try go_wp2
  go_roundg k1
  case measure => have := HK1.out; omega
  case rel => exact ⟨(x6_1 ++ (t331 ++ (⟨#[10]⟩ : ByteArray))), (wrap64 (x23_1 + 1)), sr_, sr_, H', ⟨by have := HK1.out; omega⟩, ⟨kp_ BK321⟩, ⟨hb_ HB⟩⟩
 replace c3 := Bool.eq_false_iff.mpr c3
 subst c3
 rw [if_neg (show ¬ (false = true) by decide)] at H
 simp only [Option.some.injEq, Prod.mk.injEq] at H
 obtain ⟨rfl, rfl⟩ := H
 go_enter Tryz.func6, Tryz.ntmps6
 go_wp2_with (first | ((with_reducible refine gate_dst (N := 1) rfl ?_); refine bv_ 1 (cs := #[.int .i64 a0_0, .int .i64 a0_1, .int .i64 a0_2, .slice A0_3 l0_3.length c0_3, .slice A0_4 l0_4.length c0_4, .slice A0_5 l0_5.length c0_5]) (t := 28) ?_; intro gb321 hg w26 hbox hb; have BK321 := am_ (hbox); have GW321 := gs_ hg HB; have GE321 := gs_ hg HB; replace HB := hbs_ HB hb; clear hb hbox hg; obtain ⟨hcz27_0, hcz27_1, hcz27_2, hcz27_3, hcz27_4, hcz27_5, hfz27_0, hfz27_1, hfz27_2, hfz27_3, hfz27_4, hfz27_5⟩ := bx6 BK321) | ((with_reducible refine gk_ 8 ?_); refine gq_ 9 Tryz.func8 #[.agg #[.int .i64 a0_0, .int .i64 a0_1, .int .i64 a0_2, .slice A0_3 l0_3.length c0_3, .slice A0_4 l0_4.length c0_4, .slice A0_5 l0_5.length c0_5]] ?_; (with_reducible refine (impl_IsModel.calls k a0_0 a0_1 a0_2 _ _ l0_3 _ _ l0_4 _ _ l0_5 false _ ?_ ?_ ?_ ?_ ?_ ?_ A2.out).mono ?_); exact Kd.C_w HR0_3 HB; exact HC0_3.out; exact Kd.C_w HR0_4 HB; exact HC0_4.out; exact Kd.C_w HR0_5 HB; exact HC0_5.out; rintro e w28 ⟨rfl, hb⟩; refine ⟨_, rfl, ?_⟩; replace BK321 := kb_ BK321 hb; replace HB := hbs_ HB hb))
 go_ret2
 exact ad_ (hb_ HB)

end Go.Proofs.YthphbkkkbolcnaaGreatDoor.PFnModels
