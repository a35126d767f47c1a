-- Laid for this claim by wip/tools/print2.sh, a changed copy of the kit's print (wip/tools/patch_print.py): not by print.sh.
import Derived.Test.YtceajigggcihnaaPFnCoarsex6
import Derived.Test.YtceajigggcihnaaVFnCoarse
namespace Go.Proofs.Ytceajigggcihnaa.PFnCoarse
open Go.RowKit Go.Proofs.YtceajigggcihnaaW.PrintWords Go.Proofs.YtceajigggcihnaaW.PrintLast Go.Proofs.YtceajigggcihnaaW.PrintMore
attribute [local go_sem] max2_int min2_int max_two min_two max_three min_three max_four min_four
set_option linter.unusedVariables false
set_option linter.unusedSimpArgs false

/-! ### spec_SortPieces: function 30 -/
def spec_SortPieces.f (k : Nat) (l0 : List (S29)) : Option (List Int × Bool) := (spec_sbList.f k l0).bind fun t203 => (if t203 = true then ((spec_sbSort.f k l0).bind fun t204 => (some (t204, true))) else (some (([] : List Int), false)))
set_option maxHeartbeats 8000000 in
set_option maxRecDepth 100000 in
theorem spec_SortPieces.calls (k : Nat) (A0 : Option Addr) (c0 : Nat) (l0 : List (S29)) (r1 : List Int) (r2 : Bool) (w : World) (hr0 : Kd.C k29 w A0 l0.length l0) (hc0 : l0.length ≤ c0) (h : spec_SortPieces.f k l0 = some (r1, r2)) :
  Calls Try.prog 30 #[.slice A0 l0.length c0] w fun e w' => ∃ v0_ : Value, e = .returned (.tuple #[v0_, .bool r2]) ∧ Kd.R (Kd.int .i64) 3 w' w.heap.size (fun _ => True) v0_ r1 ∧ Below w.heap.size w w' := by
 have HR0 := Aside0.mk hr0
 have HC0 := Aside0.mk hc0
 clear hr0 hc0
 have HB := Aside0.mk (Below.refl w.heap.size w)
 have H := h
 unfold spec_SortPieces.f at H
 clear h
 replace H := Option.bind_eq_some_iff.mp H
 obtain ⟨t203, A20, H⟩ := H
 try dsimp only at H
 have A2 := Aside0.mk A20
 clear A20
 by_cases c3 : t203 = true
 ·subst c3
  rw [if_pos rfl] at H
  replace H := Option.bind_eq_some_iff.mp H
  obtain ⟨t204, A40, H⟩ := H
  try dsimp only at H
  have A4 := Aside0.mk A40
  clear A40
  simp only [Option.some.injEq, Prod.mk.injEq] at H
  obtain ⟨rfl, rfl⟩ := H
  go_enter Try.func30, Try.ntmps30
  go_wp2_with (first | ((with_reducible refine gate_callee (f := 65) rfl ?_); refine gl_ (some 5) Try.func65 #[.slice A0 l0.length c0] rfl rfl rfl ?_; (with_reducible refine (spec_sbList.calls k _ _ l0 true _ ?side1 ?side2 A2.out).mono ?_); (case side1 => repeat (first | exact HR0.out | (with_reducible refine Kd.C_alloc ?_ _) | (with_reducible refine Kd.C_drewN ?_ _) | (with_reducible refine Kd.C_drew ?_))); (case side2 => exact HC0.out); rintro e w5 ⟨rfl, hb⟩; refine ⟨_, rfl, ?_⟩; replace HB := hbs_ HB hb) | ((with_reducible refine gate_callee (f := 75) rfl ?_); refine gl_ (some 8) Try.func75 #[.slice A0 l0.length c0] rfl rfl rfl ?_; (with_reducible refine (spec_sbSort.calls k _ _ l0 t204 _ ?side1 ?side2 A4.out).mono ?_); (case side1 => exact Kd.C_w HR0 HB); (case side2 => exact HC0.out); rintro e w6 ⟨v205, rfl, ho0, hb⟩; refine ⟨_, rfl, ?_⟩; have HO206 := Kd.R_lo ho0 HB; replace HB := hbs_ HB hb))
  go_ret2
  exact ⟨_, by first | rfl | (simp [errW_none, errW_some] <;> rfl) | (simp [*, errW_none, errW_some] <;> rfl), Kd.R_p HO206, hb_ HB⟩
 replace c3 := Bool.eq_false_iff.mpr c3
 subst c3
 rw [if_neg (show ¬ (false = true) by decide)] at H
 simp only [Option.some.injEq, Prod.mk.injEq] at H
 obtain ⟨rfl, rfl⟩ := H
 go_enter Try.func30, Try.ntmps30
 go_wp2_with (first | ((with_reducible refine gate_callee (f := 65) rfl ?_); refine gl_ (some 5) Try.func65 #[.slice A0 l0.length c0] rfl rfl rfl ?_; (with_reducible refine (spec_sbList.calls k _ _ l0 false _ ?side1 ?side2 A2.out).mono ?_); (case side1 => repeat (first | exact HR0.out | (with_reducible refine Kd.C_alloc ?_ _) | (with_reducible refine Kd.C_drewN ?_ _) | (with_reducible refine Kd.C_drew ?_))); (case side2 => exact HC0.out); rintro e w7 ⟨rfl, hb⟩; refine ⟨_, rfl, ?_⟩; replace HB := hbs_ HB hb))
 go_ret2
 exact ⟨_, by first | rfl | (simp [errW_none, errW_some] <;> rfl) | (simp [*, errW_none, errW_some] <;> rfl), by first | exact Kd.R_nil _ _ _ _ _ | exact Kd.N_nil _ _ _ _ _ | exact Kd.V_nil _ _ _ _ _ | exact Kd.Q_nil _ _ _ _ _ | exact Kd.S_nil _ _ _ _ _, hb_ HB⟩

/-! ### impl_sortedPieces: function 76 -/
def cmpV (p q : S29) : Int := if p.f0 = 0 ∨ q.f0 = 0 then min q.f0 1 - min p.f0 1 else wrap64 (wrap64 (q.f1 * p.f0) - wrap64 (p.f1 * q.f0))
def okP (p : S29) : Prop := 0 ≤ p.f0 ∧ p.f0 ≤ 10000 ∧ 0 ≤ p.f1 ∧ p.f1 ≤ 10000000
def spEnc (n : Nat) (x : Nat) : Value := .int .i64 ((x % n : Nat) : Int)
def spCf (l : List S29) (x y : Nat) : Int := cmpV (l.getD (x % l.length) z29) (l.getD (y % l.length) z29)
def spOk (l : List S29) : Bool := decide (1 ≤ l.length ∧ l.length ≤ 20) && l.all (fun p => decide (0 ≤ p.f0 ∧ p.f0 ≤ 10000 ∧ 0 ≤ p.f1 ∧ p.f1 ≤ 10000000))
def spSort (l : List S29) : List Int := (Sort.insertionSort (ltOf (spCf l)) (List.range l.length).toArray 0 l.length).toList.map (fun x => ((x % l.length : Nat) : Int))
def impl_sortedPieces.f (l : List S29) : Option (List Int) := if spOk l = true then some (spSort l) else none
theorem sp_none : (none : Option Nat) = none := rfl
section
open Go.Sort Go.Shelf Go.Lib
theorem ret_i {a b : Int} (h : a = b) : Ending.returned (.int .i64 a) = .returned (.int .i64 b) := by rw [h]
theorem grown2 (W : World) (o1 o2 : Obj) : ∃ m os', ((W.alloc o1).alloc o2).drew = grow (W.drewN m) os' := ⟨1, #[o1, o2], by rw [alloc_eq_grow, alloc_eq_grow, grow_grow]; rfl⟩
set_option maxHeartbeats 4000000 in
set_option maxRecDepth 100000 in
theorem cmp_calls (gb : Nat) (ad : Addr) (n c x y : Nat) (p q : S29) (W : World) (hp : okP p) (hq : okP q) (hx : x < n) (hy : y < n)
  (hgb : gb < W.heap.size) (hbx : (ad.add (x * 3)).block < W.heap.size) (hby : (ad.add (y * 3)).block < W.heap.size) (hbox : W.cell? ⟨gb, 0, none⟩ = some (.slice (some ad) n c))
  (hx0 : W.cell? (ad.add (x * 3)) = some (.int .i64 p.f0)) (hx1 : W.cell? ⟨(ad.add (x * 3)).block, (ad.add (x * 3)).off + 1, none⟩ = some (.int .i64 p.f1)) (hx2 : W.cell? ⟨(ad.add (x * 3)).block, (ad.add (x * 3)).off + 2, none⟩ = some (.int .i64 p.f2))
  (hy0 : W.cell? (ad.add (y * 3)) = some (.int .i64 q.f0)) (hy1 : W.cell? ⟨(ad.add (y * 3)).block, (ad.add (y * 3)).off + 1, none⟩ = some (.int .i64 q.f1)) (hy2 : W.cell? ⟨(ad.add (y * 3)).block, (ad.add (y * 3)).off + 2, none⟩ = some (.int .i64 q.f2)) :
  Calls Try.prog 110 #[.int .i64 x, .int .i64 y, .pointer (some ⟨gb, 0, none⟩)] W fun e w' => e = .returned (.int .i64 (cmpV p q)) ∧ ∃ m os', w' = grow (W.drewN m) os' := by
 obtain ⟨p0, p1, p2, p3⟩ := hp
 obtain ⟨q0, q1, q2, q3⟩ := hq
 have hu29 := Try.underlying29
 go_enter Try.func110, Try.ntmps110
 go_wp2
 have hxi : (x : Int) < (n : Int) := by omega
 have hyi : (y : Int) < (n : Int) := by omega
 go_region
 all_goals go_wp2
 all_goals (go_ret; refine ⟨ret_i (by unfold cmpV; (try simp only [beq_iff_eq, beq_eq_false_iff_ne, ne_eq] at *); by_cases hc : p.f0 = 0 ∨ q.f0 = 0 <;> (first | rw [if_pos hc] | rw [if_neg hc]) <;> omega), grown2 _ _ _⟩)
theorem size_inner {α : Type} [Inhabited α] (lt : α → α → Bool) (a : Nat) : ∀ (j : Nat) (d : Array α), (insInner lt a j d).size = d.size
 | 0, d => rfl
 | j + 1, d => by
  rw [insInner]
  split
  ·rw [size_inner lt a j, size_swp]
  ·rfl
theorem size_outer {α : Type} [Inhabited α] (lt : α → α → Bool) (a b : Nat) : ∀ (m i : Nat) (d : Array α), b - i = m → (insOuter lt a b i d).size = d.size := by
 intro m
 induction m with
 | zero => intro i d h; rw [insOuter, if_neg (by omega)]
 | succ m ih =>
  intro i d h
  rw [insOuter]
  by_cases c : i < b
  ·rw [if_pos c, ih _ _ (by omega), size_inner]
  ·rw [if_neg c]
theorem size_ins {α : Type} [Inhabited α] (lt : α → α → Bool) (d : Array α) (a b : Nat) : (Sort.insertionSort lt d a b).size = d.size := size_outer lt a b _ _ d rfl
theorem ins_none {α : Type} [Inhabited α] (lt : α → α → Bool) (d : Array α) (n : Nat) : Sort.insertionSort lt d n n = d := by
 unfold Sort.insertionSort
 rw [insOuter, if_neg (by omega)]
set_option maxHeartbeats 4000000 in
set_option maxRecDepth 100000 in
theorem stable_under {α : Type} [Inhabited α] (enc : α → Value) (cf : α → α → Int) (g : Nat) (cb : Array Value) (blk cap : Nat) (d : Array α) (w : World) (eg : ∀ args w, (callFunc g args).run Try.prog w = .ok (.enter g args) w)
  (hcmp : CmpLays1 Try.prog g cb enc cf blk 0 d.size w) (R : Row1 enc w blk 0 d) (h20 : d.size < 20) :
  Calls Try.prog 122 #[.slice (some ⟨blk, 0, none⟩) d.size cap, .int .i64 d.size, .func (.func g) #[] cb] w fun e w' => e = .returned (.tuple #[]) ∧ SW enc w blk 0 (Sort.insertionSort (ltOf cf) d 0 d.size) w' := by
 have hc := Try.insertionSortCmpFunc_s enc cf g cb blk 0 cap 0 d.size d d w w eg hcmp R rfl (SW.start R.hH) (Nat.zero_le _) (Nat.le_refl _) (by omega)
 rw [show ((0 : Nat) : Int) = 0 from rfl] at hc
 clear hcmp
 go_enter Try.func122, Try.ntmps122
 go_wp2
 refine wp_loop_rounds 1 ?_
 rw [rounds_succ]
 go_wp2_with ((with_reducible refine hc.mono ?_); rintro e w1 ⟨rfl, S⟩; replace S := Aside0.mk S)
 refine wp_loop_rounds 1 ?_
 rw [rounds_succ]
 go_wp2
 all_goals first | (exfalso; omega) | (go_end0; exact ⟨rfl, S.out⟩)
set_option maxHeartbeats 4000000 in
set_option maxRecDepth 100000 in
theorem stable_at {α : Type} [Inhabited α] (enc : α → Value) (cf : α → α → Int) (g : Nat) (cb : Array Value) (blk cap : Nat) (d : Array α) (w : World) (eg : ∀ args w, (callFunc g args).run Try.prog w = .ok (.enter g args) w)
  (hcmp : CmpLays1 Try.prog g cb enc cf blk 0 d.size w) (R : Row1 enc w blk 0 d) (h20 : d.size = 20) :
  Calls Try.prog 122 #[.slice (some ⟨blk, 0, none⟩) d.size cap, .int .i64 d.size, .func (.func g) #[] cb] w fun e w' => e = .returned (.tuple #[]) ∧ SW enc w blk 0 (Sort.insertionSort (ltOf cf) d 0 d.size) w' := by
 have hc := Try.insertionSortCmpFunc_s enc cf g cb blk 0 cap 0 d.size d d w w eg hcmp R rfl (SW.start R.hH) (Nat.zero_le _) (Nat.le_refl _) (by omega)
 have hn := fun (d1 : Array α) (h1 : d.size = d1.size) w1 S => Try.insertionSortCmpFunc_s enc cf g cb blk 0 cap 20 20 d d1 w w1 eg hcmp R h1 S (Nat.le_refl _) (by omega) (by omega)
 have hz : d.size = (Sort.insertionSort (ltOf cf) d 0 20).size := (size_ins _ d 0 20).symm
 rw [h20] at hc ⊢
 have hn2 := hn _ hz
 rw [← hz, h20] at hn2
 rw [show ((0 : Nat) : Int) = 0 from rfl, show ((20 : Nat) : Int) = 20 from rfl] at hc
 rw [show ((20 : Nat) : Int) = 20 from rfl] at hn2 ⊢
 clear hcmp hn
 go_enter Try.func122, Try.ntmps122
 go_wp2
 refine wp_loop_rounds 2 ?_
 rw [rounds_succ]
 go_wp2_with ((with_reducible refine hc.mono ?_); rintro e w1 ⟨rfl, S⟩; replace S := Aside0.mk S)
 rw [rounds_succ]
 go_wp2_with ((with_reducible refine (hn2 _ S.out).mono ?_); rintro e w2 ⟨rfl, S2⟩; replace S2 := Aside0.mk S2)
 refine wp_loop_rounds 1 ?_
 rw [rounds_succ]
 go_wp2
 go_end0
 exact ⟨rfl, by have := S2.out; rwa [ins_none] at this⟩
theorem stable_calls {α : Type} [Inhabited α] (enc : α → Value) (cf : α → α → Int) (g : Nat) (cb : Array Value) (blk cap : Nat) (d : Array α) (w : World) (eg : ∀ args w, (callFunc g args).run Try.prog w = .ok (.enter g args) w)
  (hcmp : CmpLays1 Try.prog g cb enc cf blk 0 d.size w) (R : Row1 enc w blk 0 d) (h20 : d.size ≤ 20) :
  Calls Try.prog 122 #[.slice (some ⟨blk, 0, none⟩) d.size cap, .int .i64 d.size, .func (.func g) #[] cb] w fun e w' => e = .returned (.tuple #[]) ∧ SW enc w blk 0 (Sort.insertionSort (ltOf cf) d 0 d.size) w' := by
 by_cases h : d.size = 20
 ·exact stable_at enc cf g cb blk cap d w eg hcmp R h
 ·exact stable_under enc cf g cb blk cap d w eg hcmp R (by omega)
set_option maxHeartbeats 4000000 in
set_option maxRecDepth 100000 in
theorem sortstable_calls {α : Type} [Inhabited α] (enc : α → Value) (cf : α → α → Int) (g : Nat) (cb : Array Value) (blk cap : Nat) (d : Array α) (w : World) (eg : ∀ args w, (callFunc g args).run Try.prog w = .ok (.enter g args) w)
  (hcmp : CmpLays1 Try.prog g cb enc cf blk 0 d.size w) (R : Row1 enc w blk 0 d) (h20 : d.size ≤ 20) :
  Calls Try.prog 109 #[.slice (some ⟨blk, 0, none⟩) d.size cap, .func (.func g) #[] cb] w fun e w' => e = .returned (.tuple #[]) ∧ SW enc w blk 0 (Sort.insertionSort (ltOf cf) d 0 d.size) w' := by
 have hc := stable_calls enc cf g cb blk cap d w eg hcmp R h20
 clear hcmp
 go_enter Try.func109, Try.ntmps109
 go_wp2_with ((with_reducible refine hc.mono ?_); rintro e w1 ⟨rfl, S⟩; replace S := Aside0.mk S)
 go_end0
 exact ⟨rfl, S.out⟩
theorem sw_cell {α : Type} [Inhabited α] (enc : α → Value) (w : World) (g m : Nat) (dk : Array α) (os : Array Obj) (a : Addr) (v : Value) (h : w.cell? a = some v) (hne : a.block ≠ g) : (sortWorld enc w g 0 m dk os).cell? a = some v := by
 have hlt : a.block < w.heap.size := World.block_lt_of_cell? w _ h
 unfold sortWorld
 rw [cell?_grow _ _ _ (by rw [size_putRow]; exact hlt), cell?_putRow_other enc _ g 0 _ _ (Or.inl hne)]
 exact h
theorem add_block (ad : Addr) (k : Nat) : (ad.add k).block = ad.block := by unfold Addr.add; split <;> rfl
theorem sp_cmp (l : List S29) (gb g : Nat) (A0 : Option Addr) (c0 : Nat) (w : World) (hbox : w.cell? ⟨gb, 0, none⟩ = some (.slice A0 l.length c0)) (hr : Kd.C k29 w A0 l.length l) (hok : spOk l = true) (hne : gb ≠ g) (hng : ∀ ad, A0 = some ad → ad.block ≠ g) (size : Nat) :
  CmpLays1 Try.prog 110 #[.pointer (some ⟨gb, 0, none⟩)] (spEnc l.length) (spCf l) g 0 size w := by
 unfold spOk at hok
 rw [Bool.and_eq_true, decide_eq_true_eq, List.all_eq_true] at hok
 obtain ⟨⟨hn1, hn2⟩, hv⟩ := hok
 intro m os dk _ x y
 have hx : x % l.length < l.length := Nat.mod_lt _ (by omega)
 have hy : y % l.length < l.length := Nat.mod_lt _ (by omega)
 obtain ⟨ad, e1, x0, x1, x2⟩ := at_T29 hr ((x % l.length : Nat) : Int) (by omega) (by omega)
 obtain ⟨ad', e2, y0, y1, y2⟩ := at_T29 hr ((y % l.length : Nat) : Int) (by omega) (by omega)
 subst e1
 obtain rfl : ad = ad' := by injection e2
 rw [Int.toNat_natCast] at x0 x1 x2 y0 y1 y2
 have hg : ∀ k, (ad.add k).block ≠ g := fun k => by rw [add_block]; exact hng ad rfl
 have ht : ∀ i : Nat, rd_T29 l (i : Int) = l.getD i z29 := fun i => by unfold rd_T29; rw [Int.toNat_natCast]
 rw [ht] at x0 x1 x2 y0 y1 y2
 have hp : ∀ i, i < l.length → okP (l.getD i z29) := fun i hi => by
  rw [List.getD_eq_getElem?_getD, List.getElem?_eq_getElem hi]
  have h_ := hv _ (List.getElem_mem hi)
  rw [decide_eq_true_eq] at h_
  exact h_
 have hle : w.heap.size ≤ (sortWorld (spEnc l.length) w g 0 m dk os).heap.size := SW.le ⟨m, os, rfl⟩
 have X0 := sw_cell (spEnc l.length) w g m dk os _ _ x0 (hg _)
 have X1 := sw_cell (spEnc l.length) w g m dk os _ _ x1 (hg _)
 have X2 := sw_cell (spEnc l.length) w g m dk os _ _ x2 (hg _)
 have Y0 := sw_cell (spEnc l.length) w g m dk os _ _ y0 (hg _)
 have Y1 := sw_cell (spEnc l.length) w g m dk os _ _ y1 (hg _)
 have Y2 := sw_cell (spEnc l.length) w g m dk os _ _ y2 (hg _)
 exact cmp_calls gb ad l.length c0 (x % l.length) (y % l.length) _ _ _ (hp _ hx) (hp _ hy) hx hy (World.block_lt_of_cell? _ _ (sw_cell (spEnc l.length) w g m dk os _ _ hbox hne)) (World.block_lt_of_cell? _ _ X0) (World.block_lt_of_cell? _ _ Y0) (sw_cell (spEnc l.length) w g m dk os _ _ hbox hne) X0 X1 X2 Y0 Y1 Y2
theorem encs_range (n : Nat) : encs (Value.int .i64) ((List.range n).map Int.ofNat) = (List.range n).map (spEnc n) := by
 unfold encs
 rw [List.map_map]
 apply List.map_congr_left
 intro x hx
 have hx := List.mem_range.1 hx
 show Value.int .i64 (Int.ofNat x) = spEnc n x
 unfold spEnc
 rw [Nat.mod_eq_of_lt hx]; rfl
/-- behind the sort -/
theorem sp_after (l : List S29) (g cap base : Nat) (wr w1 : World) (hR : Kd.R (Kd.int .i64) 3 wr base (fun _ => True) (.slice (some ⟨g, 0, none⟩) l.length cap) ((List.range l.length).map Int.ofNat))
  (S : SW (spEnc l.length) wr g 0 (Sort.insertionSort (ltOf (spCf l)) (List.range l.length).toArray 0 l.length) w1) : Kd.R (Kd.int .i64) 3 w1 base (fun _ => True) (.slice (some ⟨g, 0, none⟩) l.length cap) (spSort l) := by
 have ho := Kd.own_of_R hR
 rw [encs_range, List.length_map, List.length_range] at ho
 obtain ⟨m, os, rfl⟩ := S
 have hlt : g < wr.heap.size := by
  obtain ⟨_, hx⟩ := ho
  rcases hx with ⟨e, _⟩ | ⟨g', cap', cur, e, _, hg, _⟩
  ·cases e
  ·injection e with e _ _
   injection e with e
   injection e with e
   subst e
   exact blk_lt hg
 generalize hd : Sort.insertionSort (ltOf (spCf l)) (List.range l.length).toArray 0 l.length = d
 have hs : d.toList.length = l.length := by rw [← hd, Array.length_toList, size_ins]; simp
 have hb := Lib.ownsRow_putRow (q := m) (k := l.length) (ys := d.toList) ho hs (Nat.le_refl _)
 rw [Array.toArray_toList, List.take_of_length_le (by omega)] at hb
 have e : spSort l = d.toList.map (fun x => ((x % l.length : Nat) : Int)) := by unfold spSort; rw [hd]
 have hl : (spSort l).length = l.length := by rw [e, List.length_map, hs]
 refine Kd.R_of_own (h1 := fun _ => rfl) ?_ (fun _ _ => trivial)
 rw [hl, e]
 have e2 : encs (Value.int .i64) (d.toList.map (fun x => ((x % l.length : Nat) : Int))) = d.toList.map (spEnc l.length) := by unfold encs; rw [List.map_map]; rfl
 rw [e2]
 refine own_move hb (fun k hk => ?_)
 have hk : k = g := by simpa [Value.ownBlock] using hk.symm
 subst hk
 unfold sortWorld
 exact heap_grow_old _ _ (by rw [size_putRow]; exact hlt)
theorem sp_below {α : Type} [Inhabited α] {enc : α → Value} {d : Array α} {B g : Nat} {w wr w1 : World} (hb : Below B w wr) (hg : B ≤ g) (hB : B ≤ wr.heap.size) (S : SW enc wr g 0 d w1) : Below B w w1 := by
 obtain ⟨m, os, rfl⟩ := S
 unfold sortWorld
 have h := Lib.below_putRow (enc := enc) (q := m) (d := d) hb hg
 exact ⟨h.os, h.tape, h.output, Nat.le_trans h.size (by simp [grow]), fun k hk => by rw [heap_grow_old _ _ (by rw [size_putRow]; exact Nat.lt_of_lt_of_le hk hB)]; exact h.block k hk⟩
set_option maxHeartbeats 8000000 in
set_option maxRecDepth 100000 in
theorem impl_sortedPieces.calls (A0 : Option Addr) (c0 : Nat) (l0 : List S29) (r : List Int) (w : World) (hr0 : Kd.C k29 w A0 l0.length l0) (hc0 : l0.length ≤ c0) (h : impl_sortedPieces.f l0 = some r) :
 Calls Try.prog 76 #[.slice A0 l0.length c0] w fun e w' => ∃ v0_ : Value, e = .returned (v0_) ∧ Kd.R (Kd.int .i64) 3 w' w.heap.size (fun _ => True) v0_ r ∧ Below w.heap.size w w' := by
 unfold impl_sortedPieces.f at h
 by_cases hok : spOk l0 = true
 case neg => rw [if_neg hok] at h; cases h
 rw [if_pos hok] at h
 obtain rfl := Option.some.inj h
 clear h
 have hn : 1 ≤ l0.length ∧ l0.length ≤ 20 := by unfold spOk at hok; rw [Bool.and_eq_true, decide_eq_true_eq] at hok; exact hok.1
 have hn1 := hn.1
 have hn2 := hn.2
 clear hn
 have HOK := Aside0.mk hok
 clear hok
 have HR0 := Aside0.mk hr0
 clear hr0
 have HB := Aside0.mk (Below.refl w.heap.size w)
 go_enter Try.func76, Try.ntmps76
 go_wp2_with (first | ((with_reducible refine gate_dst (N := 1) rfl ?_); refine bv_ 1 (cs := #[.slice A0 l0.length c0]) (t := 42) ?_; intro gb1 hg w4 hbox hb; have BK1 := Aside0.mk (hbox); have GE1 := gs_ hg HB; replace HB := hbs_ HB hb; clear hb hbox hg; have hcz1 : w4.cell? ⟨gb1, 0, none⟩ = some (.slice A0 l0.length c0) := (blk_cell BK1.out 0).trans rfl) | ((with_reducible refine gate_dst (N := 5) rfl ?_); refine Kd.R_lit (Kd.int .i64) _ 3 ?hg (N := 5) ?hd (xs := ([] : List Int)) (inner := []) (ok := fun _ => True) (okp := fun _ => True) ?hr ?hp (fun _ hk => hk) trivial (Below.refl _ _) (Nat.le_refl _) (by simp) ?_; (case hd => rfl); (case hg => rfl); (case hr => first | (go_simp; done) | (go_simp; rfl)); (case hp => exact (Reps.none _ _)); intro v5 w5 ho5 hb hg_ hnew_; clear hg_ hnew_; have HO5 := Kd.R_lo ho5 HB; replace BK1 := kb_ BK1 hb; replace HB := hbs_ HB hb; clear hb ho5 hcz1; have hcz1 : w5.cell? ⟨gb1, 0, none⟩ = some (.slice A0 l0.length c0) := (blk_cell BK1.out 0).trans rfl))
 go_loopg [3, 8] l0.length (fun kq v3 v8 w' => ∃ (i : Nat), v8 = .int .i64 (i : Int) ∧ i ≤ l0.length ∧ l0.length - i ≤ kq ∧ Aside0 (Kd.R (Kd.int .i64) 3 w' w.heap.size (fun _ => True) v3 ((List.range i).map Int.ofNat)) ∧ Aside0 (w'.heap[gb1]? = some (.cells #[.slice A0 l0.length c0] 42 (0, 0))) ∧ Aside0 (Below w.heap.size w w'))
 case atStart => exact ⟨0, rfl, Nat.zero_le _, Nat.le_refl _, ⟨Kd.R_p HO5⟩, ⟨kp_ BK1⟩, ⟨hb_ HB⟩⟩
 clear HO5 BK1 HB
 obtain ⟨i, rfl, hi, hik, HO, BK, HB⟩ := hrel
 by_cases hlt : i < l0.length
 ·have hltz : (i : Int) < (l0.length : Int) := by omega
  have HL := Aside0.mk (show ((List.range i).map Int.ofNat).length + 1 < 17592186044416 by simp; omega)
  obtain ⟨ys, hys⟩ : ∃ ys : List Int, ys = (List.range i).map Int.ofNat := ⟨_, rfl⟩
  rw [← hys] at HO HL
  have Hys := Aside0.mk hys
  clear hys
  go_wp2_with (first | ((with_reducible refine gate_builtin (b := .append) (xs := #[.tmp 11, .tmp 13]) rfl ?_); at_builtin; refine Kd.R_append (Kd.int .i64) (w0 := w) w.heap.size rfl (.tmp 11) (.tmp 13) 24 3 (.int .i64 0) 8 rfl Try.underlying24 info3 rfl (by decide) (by omega) _ ys (i : Int) [.int .i64 (i : Int)] (fun _ => True) (fun _ => False) rfl rfl ?aP (fun _ hk => hk.elim) ?aF ?aO ?aB ?aS ?aL ?_; (case aP => exact rfl); (case aB => exact (hb_ HB)); (case aF => exact (fun _ _ => trivial)); (case aO => exact (Kd.R_p HO)); (case aS => exact (below_size (hb_ HB))); (case aL => have := HL.out; omega); intro v6 w6 ho hb hg hat; have HO6 := Aside0.mk (ho); replace BK := Aside0.mk (blk_grown (kp_ BK) hg (Kd.R_ne HO.out BK.out (by decide))); replace HB := Aside0.mk (hb); clear HO; clear ho hb hg hat))
  go_roundg (l0.length - (i + 1))
  case measure => omega
  case rel => exact ⟨i + 1, by first | rfl | go_num, by omega, by omega, ⟨by have e_ : (List.range (i + 1)).map Int.ofNat = ys ++ [(i : Int)] := (by rw [Hys.out, List.range_succ, List.map_append]; rfl); rw [e_]; exact Kd.R_p HO6⟩, ⟨kp_ BK⟩, ⟨hb_ HB⟩⟩
 obtain rfl : i = l0.length := by omega
 clear hlt hik hi
 have hltz : ¬ ((l0.length : Int) < (l0.length : Int)) := by omega
 obtain ⟨go, cap, eo, gb, gl, cl, HG⟩ := Kd.R_form HO.out (by simp; omega)
 rw [List.length_map, List.length_range] at eo
 subst eo
 have hne : gb1 ≠ go := by rintro rfl; rw [BK.out] at HG; injection HG with HG; injection HG with _ HG; cases HG
 have hcz : wr.cell? ⟨gb1, 0, none⟩ = some (.slice A0 l0.length c0) := (blk_cell BK.out 0).trans rfl
 have hng : ∀ ad, A0 = some ad → ad.block ≠ go := by
  intro ad he
  obtain ⟨ad', e1, x0, _, _⟩ := at_T29 HR0.out 0 (by omega) (by omega)
  obtain rfl : ad = ad' := by rw [he] at e1; injection e1
  have h1 := World.block_lt_of_cell? w _ x0
  rw [add_block] at h1
  omega
 have hcmp := sp_cmp l0 gb1 go A0 c0 wr hcz (Kd.C_w HR0 HB) HOK.out hne hng (List.range l0.length).toArray.size
 obtain ⟨g2, cap2, e2, _, hglt, _, _, _, hh⟩ := Lib.holds_of_ownsRow (by have h_ := Kd.own_of_R HO.out; rw [encs_range] at h_; exact h_) (by simp)
 obtain ⟨rfl, rfl⟩ : go = g2 ∧ cap = cap2 := by injection e2 with f1 _ f3; injection f1 with f1; injection f1 with f1; exact ⟨f1, f3⟩
 clear e2
 have hcall := sortstable_calls (spEnc l0.length) (spCf l0) 110 #[.pointer (some ⟨gb1, 0, none⟩)] go cap (List.range l0.length).toArray wr (enters_of Try.func110 (by kernel_rfl) rfl) hcmp ⟨fun _ => rfl, hh, hglt⟩ (by simp; omega)
 have hsz : (List.range l0.length).toArray.size = l0.length := by simp
 rw [hsz] at hcall
 clear hcmp hh hng hsz
 go_wp2_with ((with_reducible refine hcall.mono ?_); rintro e w7 ⟨rfl, S⟩; replace S := Aside0.mk S; have HO7 := Aside0.mk (sp_after l0 go cap _ _ _ HO.out S.out); replace HB := Aside0.mk (sp_below HB.out gb (Below.size HB.out) S.out); clear S HO BK)
 go_ret
 exact ⟨_, by first | rfl | (simp; done), Kd.R_p HO7, hb_ HB⟩
end

/-! ### impl_SortPieces: function 31 -/
def impl_SortPieces.f (k : Nat) (l0 : List (S29)) : Option (List Int × Bool) := (impl_arePieces.f k l0).bind fun t207 => (if t207 = true then ((impl_sortedPieces.f l0).bind fun t208 => (some (t208, true))) else (some (([] : List Int), false)))
set_option maxHeartbeats 8000000 in
set_option maxRecDepth 100000 in
theorem impl_SortPieces.calls (k : Nat) (A0 : Option Addr) (c0 : Nat) (l0 : List (S29)) (r1 : List Int) (r2 : Bool) (w : World) (hr0 : Kd.C k29 w A0 l0.length l0) (hc0 : l0.length ≤ c0) (h : impl_SortPieces.f k l0 = some (r1, r2)) :
  Calls Try.prog 31 #[.slice A0 l0.length c0] w fun e w' => ∃ v0_ : Value, e = .returned (.tuple #[v0_, .bool r2]) ∧ Kd.R (Kd.int .i64) 3 w' w.heap.size (fun _ => True) v0_ r1 ∧ Below w.heap.size w w' := by
 have HR0 := Aside0.mk hr0
 have HC0 := Aside0.mk hc0
 clear hr0 hc0
 have HB := Aside0.mk (Below.refl w.heap.size w)
 have H := h
 unfold impl_SortPieces.f at H
 clear h
 replace H := Option.bind_eq_some_iff.mp H
 obtain ⟨t207, A20, H⟩ := H
 try dsimp only at H
 have A2 := Aside0.mk A20
 clear A20
 by_cases c3 : t207 = true
 ·subst c3
  rw [if_pos rfl] at H
  replace H := Option.bind_eq_some_iff.mp H
  obtain ⟨t208, A40, H⟩ := H
  try dsimp only at H
  have A4 := Aside0.mk A40
  clear A40
  simp only [Option.some.injEq, Prod.mk.injEq] at H
  obtain ⟨rfl, rfl⟩ := H
  go_enter Try.func31, Try.ntmps31
  go_wp2_with (first | ((with_reducible refine gate_callee (f := 68) rfl ?_); refine gl_ (some 5) Try.func68 #[.slice A0 l0.length c0] rfl rfl rfl ?_; (with_reducible refine (impl_arePieces.calls k _ _ l0 true _ ?side1 ?side2 A2.out).mono ?_); (case side1 => repeat (first | exact HR0.out | (with_reducible refine Kd.C_alloc ?_ _) | (with_reducible refine Kd.C_drewN ?_ _) | (with_reducible refine Kd.C_drew ?_))); (case side2 => exact HC0.out); rintro e w5 ⟨rfl, hb⟩; refine ⟨_, rfl, ?_⟩; replace HB := hbs_ HB hb) | ((with_reducible refine gate_callee (f := 76) rfl ?_); refine gl_ (some 8) Try.func76 #[.slice A0 l0.length c0] rfl rfl rfl ?_; (with_reducible refine (impl_sortedPieces.calls _ _ l0 t208 _ ?side1 ?side2 A4.out).mono ?_); (case side1 => exact Kd.C_w HR0 HB); (case side2 => exact HC0.out); rintro e w6 ⟨v209, rfl, ho0, hb⟩; refine ⟨_, rfl, ?_⟩; have HO210 := Kd.R_lo ho0 HB; replace HB := hbs_ HB hb))
  go_ret2
  exact ⟨_, by first | rfl | (simp [errW_none, errW_some] <;> rfl) | (simp [*, errW_none, errW_some] <;> rfl), Kd.R_p HO210, hb_ HB⟩
 replace c3 := Bool.eq_false_iff.mpr c3
 subst c3
 rw [if_neg (show ¬ (false = true) by decide)] at H
 simp only [Option.some.injEq, Prod.mk.injEq] at H
 obtain ⟨rfl, rfl⟩ := H
 go_enter Try.func31, Try.ntmps31
 go_wp2_with (first | ((with_reducible refine gate_callee (f := 68) rfl ?_); refine gl_ (some 5) Try.func68 #[.slice A0 l0.length c0] rfl rfl rfl ?_; (with_reducible refine (impl_arePieces.calls k _ _ l0 false _ ?side1 ?side2 A2.out).mono ?_); (case side1 => repeat (first | exact HR0.out | (with_reducible refine Kd.C_alloc ?_ _) | (with_reducible refine Kd.C_drewN ?_ _) | (with_reducible refine Kd.C_drew ?_))); (case side2 => exact HC0.out); rintro e w7 ⟨rfl, hb⟩; refine ⟨_, rfl, ?_⟩; replace HB := hbs_ HB hb))
 go_ret2
 exact ⟨_, by first | rfl | (simp [errW_none, errW_some] <;> rfl) | (simp [*, errW_none, errW_some] <;> rfl), by first | exact Kd.R_nil _ _ _ _ _ | exact Kd.N_nil _ _ _ _ _ | exact Kd.V_nil _ _ _ _ _ | exact Kd.Q_nil _ _ _ _ _ | exact Kd.S_nil _ _ _ _ _, hb_ HB⟩

/-! ### spec_moMetal: function 105 -/
def spec_moMetal.f (a0_0 : Int) (a0_1 : Int) (a0_2 : Int) (l0_3 : List Int) (l0_4 : List Int) (l0_5 : List Int) (a1 : Int) : Option (Int) := if 0 ≤ a1 then (if a1 < (l0_3.length : Int) then (if a1 < (l0_4.length : Int) then (some (wrap64 ((rd l0_3 a1) * (rd l0_4 a1)))) else (none)) else (none)) else (none)
set_option maxHeartbeats 8000000 in
set_option maxRecDepth 100000 in
theorem spec_moMetal.calls (a0_0 : Int) (a0_1 : Int) (a0_2 : Int) (A0_3 : Option Addr) (c0_3 : Nat) (l0_3 : List Int) (A0_4 : Option Addr) (c0_4 : Nat) (l0_4 : List Int) (A0_5 : Option Addr) (c0_5 : Nat) (l0_5 : List Int) (a1 : Int) (r : Int) (w : World) (hr0_3 : Kd.C (Kd.int .i64) w A0_3 l0_3.length l0_3) (hc0_3 : l0_3.length ≤ c0_3) (hr0_4 : Kd.C (Kd.int .i64) w A0_4 l0_4.length l0_4) (hc0_4 : l0_4.length ≤ c0_4) (hr0_5 : Kd.C (Kd.int .i64) w A0_5 l0_5.length l0_5) (hc0_5 : l0_5.length ≤ c0_5) (h : spec_moMetal.f a0_0 a0_1 a0_2 l0_3 l0_4 l0_5 a1 = some r) :
  Calls Try.prog 105 #[.agg #[.int .i64 a0_0, .int .i64 a0_1, .int .i64 a0_2, .slice A0_3 l0_3.length c0_3, .slice A0_4 l0_4.length c0_4, .slice A0_5 l0_5.length c0_5], .int .i64 a1] w fun e w' => e = .returned (.int .i64 r) ∧ Below w.heap.size w w' := by
 have hu34 := Try.underlying34
 have HR0_3 := Aside0.mk hr0_3
 have HC0_3 := Aside0.mk hc0_3
 clear hr0_3 hc0_3
 have HR0_4 := Aside0.mk hr0_4
 have HC0_4 := Aside0.mk hc0_4
 clear hr0_4 hc0_4
 have HR0_5 := Aside0.mk hr0_5
 have HC0_5 := Aside0.mk hc0_5
 clear hr0_5 hc0_5
 have HB := Aside0.mk (Below.refl w.heap.size w)
 have H := h
 unfold spec_moMetal.f at H
 clear h
 by_cases c3 : 0 ≤ a1
 case neg => rw [if_neg c3] at H; exact absurd H (by simp)
 rw [if_pos c3] at H
 have c3b0 := decide_eq_true c3
 clear c3
 by_cases c4 : a1 < (l0_3.length : Int)
 case neg => rw [if_neg c4] at H; exact absurd H (by simp)
 rw [if_pos c4] at H
 have c4b0 := decide_eq_true c4
 clear c4
 by_cases c5 : a1 < (l0_4.length : Int)
 case neg => rw [if_neg c5] at H; exact absurd H (by simp)
 rw [if_pos c5] at H
 have c5b0 := decide_eq_true c5
 clear c5
 obtain rfl := Option.some.inj H
 go_enter Try.func105, Try.ntmps105
 go_wp2_with (first | ((with_reducible refine gate_dst (N := 2) rfl ?_); refine bv_ 2 (cs := #[.int .i64 a0_0, .int .i64 a0_1, .int .i64 a0_2, .slice A0_3 l0_3.length c0_3, .slice A0_4 l0_4.length c0_4, .slice A0_5 l0_5.length c0_5]) (t := 34) ?_; intro gb211 hg w6 hbox hb; have BK211 := Aside0.mk (hbox); have GW211 := gs_ hg HB; have GE211 := gs_ hg HB; replace HB := hbs_ HB hb; clear hb hbox hg; obtain ⟨hcz7_0, hcz7_1, hcz7_2, hcz7_3, hcz7_4, hcz7_5, hfz7_0, hfz7_1, hfz7_2, hfz7_3, hfz7_4, hfz7_5⟩ := bx6 BK211; have p212 : 0 ≤ (a1 : Int) := of_decide_eq_true (by first | (with_reducible assumption) | assumption); have q212 : a1 < (l0_3.length : Int) := of_decide_eq_true (by first | (with_reducible assumption) | assumption); obtain ⟨ad212, e212, hx212_0⟩ := Kd.at_int HR0_3.out a1 p212 q212; cases e212; replace hx212_0 := hc_ HB hx212_0; replace p212 := eq_true p212; replace q212 := eq_true q212; have p213 : 0 ≤ (a1 : Int) := of_decide_eq_true (by first | (with_reducible assumption) | assumption); have q213 : a1 < (l0_4.length : Int) := of_decide_eq_true (by first | (with_reducible assumption) | assumption); obtain ⟨ad213, e213, hx213_0⟩ := Kd.at_int HR0_4.out a1 p213 q213; cases e213; replace hx213_0 := hc_ HB hx213_0; replace p213 := eq_true p213; replace q213 := eq_true q213))
 repeat (go_quiet (first | ((with_reducible refine gate_dst (N := 2) rfl ?_); refine bv_ 2 (cs := #[.int .i64 a0_0, .int .i64 a0_1, .int .i64 a0_2, .slice A0_3 l0_3.length c0_3, .slice A0_4 l0_4.length c0_4, .slice A0_5 l0_5.length c0_5]) (t := 34) ?_; intro gb211 hg w6 hbox hb; have BK211 := Aside0.mk (hbox); have GW211 := gs_ hg HB; have GE211 := gs_ hg HB; replace HB := hbs_ HB hb; clear hb hbox hg; obtain ⟨hcz7_0, hcz7_1, hcz7_2, hcz7_3, hcz7_4, hcz7_5, hfz7_0, hfz7_1, hfz7_2, hfz7_3, hfz7_4, hfz7_5⟩ := bx6 BK211; have p212 : 0 ≤ (a1 : Int) := of_decide_eq_true (by first | (with_reducible assumption) | assumption); have q212 : a1 < (l0_3.length : Int) := of_decide_eq_true (by first | (with_reducible assumption) | assumption); obtain ⟨ad212, e212, hx212_0⟩ := Kd.at_int HR0_3.out a1 p212 q212; cases e212; replace hx212_0 := hc_ HB hx212_0; replace p212 := eq_true p212; replace q212 := eq_true q212; have p213 : 0 ≤ (a1 : Int) := of_decide_eq_true (by first | (with_reducible assumption) | assumption); have q213 : a1 < (l0_4.length : Int) := of_decide_eq_true (by first | (with_reducible assumption) | assumption); obtain ⟨ad213, e213, hx213_0⟩ := Kd.at_int HR0_4.out a1 p213 q213; cases e213; replace hx213_0 := hc_ HB hx213_0; replace p213 := eq_true p213; replace q213 := eq_true q213)); try go_wp2_with (first | ((with_reducible refine gate_dst (N := 2) rfl ?_); refine bv_ 2 (cs := #[.int .i64 a0_0, .int .i64 a0_1, .int .i64 a0_2, .slice A0_3 l0_3.length c0_3, .slice A0_4 l0_4.length c0_4, .slice A0_5 l0_5.length c0_5]) (t := 34) ?_; intro gb211 hg w6 hbox hb; have BK211 := Aside0.mk (hbox); have GW211 := gs_ hg HB; have GE211 := gs_ hg HB; replace HB := hbs_ HB hb; clear hb hbox hg; obtain ⟨hcz7_0, hcz7_1, hcz7_2, hcz7_3, hcz7_4, hcz7_5, hfz7_0, hfz7_1, hfz7_2, hfz7_3, hfz7_4, hfz7_5⟩ := bx6 BK211; have p212 : 0 ≤ (a1 : Int) := of_decide_eq_true (by first | (with_reducible assumption) | assumption); have q212 : a1 < (l0_3.length : Int) := of_decide_eq_true (by first | (with_reducible assumption) | assumption); obtain ⟨ad212, e212, hx212_0⟩ := Kd.at_int HR0_3.out a1 p212 q212; cases e212; replace hx212_0 := hc_ HB hx212_0; replace p212 := eq_true p212; replace q212 := eq_true q212; have p213 : 0 ≤ (a1 : Int) := of_decide_eq_true (by first | (with_reducible assumption) | assumption); have q213 : a1 < (l0_4.length : Int) := of_decide_eq_true (by first | (with_reducible assumption) | assumption); obtain ⟨ad213, e213, hx213_0⟩ := Kd.at_int HR0_4.out a1 p213 q213; cases e213; replace hx213_0 := hc_ HB hx213_0; replace p213 := eq_true p213; replace q213 := eq_true q213)))
 go_ret
 exact ad_ (hb_ HB)

/-! ### spec_sbOf: function 62 -/
def spec_sbOf.f (a0_0 : Int) (a0_1 : Int) (a0_2 : Int) (l0_3 : List Int) (l0_4 : List Int) (l0_5 : List Int) (a1 : Int) : Option (Int × Int × Int) := if 0 ≤ a1 then (if a1 < (l0_3.length : Int) then ((spec_moMetal.f a0_0 a0_1 a0_2 l0_3 l0_4 l0_5 a1).bind fun t217 => (if a1 < (l0_5.length : Int) then (some (rd l0_3 a1, t217, rd l0_5 a1)) else (none))) else (none)) else (none)
def spec_sbOf.T1 : Bool × List (List Nat × List Nat) := (true, [([], []), ([0], [0]), ([], []), ([1, 2], [1, 2]), ([3], [3]), ([], []), ([], []), ([5, 6], [5, 6]), ([], []), ([8], [8]), ([], []), ([9, 10], [9, 10]), ([11], [11]), ([4, 7, 12], [4, 7, 12]), ([13, 7, 0, 1, 2, 3, 4, 5, 6, 7, 8, 9, 10, 11, 12, 13], [13])])
def spec_sbOf.B1 : List Nat := [0, 1, 0, 7, 15, 0, 0, 96, 0, 256, 0, 1792, 3840, 8191, 16383]
theorem spec_sbOf.tab1 : rtab .any (opsOf Try.f62 1) = spec_sbOf.T1 := by kernel_rfl
theorem spec_sbOf.bits1 : waitsOk spec_sbOf.T1.2 spec_sbOf.B1 = true := by kernel_rfl
set_option maxHeartbeats 8000000 in
set_option maxRecDepth 100000 in
theorem spec_sbOf.calls (a0_0 : Int) (a0_1 : Int) (a0_2 : Int) (A0_3 : Option Addr) (c0_3 : Nat) (l0_3 : List Int) (A0_4 : Option Addr) (c0_4 : Nat) (l0_4 : List Int) (A0_5 : Option Addr) (c0_5 : Nat) (l0_5 : List Int) (a1 : Int) (r1 : Int) (r2 : Int) (r3 : Int) (w : World) (hr0_3 : Kd.C (Kd.int .i64) w A0_3 l0_3.length l0_3) (hc0_3 : l0_3.length ≤ c0_3) (hr0_4 : Kd.C (Kd.int .i64) w A0_4 l0_4.length l0_4) (hc0_4 : l0_4.length ≤ c0_4) (hr0_5 : Kd.C (Kd.int .i64) w A0_5 l0_5.length l0_5) (hc0_5 : l0_5.length ≤ c0_5) (h : spec_sbOf.f a0_0 a0_1 a0_2 l0_3 l0_4 l0_5 a1 = some (r1, r2, r3)) :
  Calls Try.prog 62 #[.agg #[.int .i64 a0_0, .int .i64 a0_1, .int .i64 a0_2, .slice A0_3 l0_3.length c0_3, .slice A0_4 l0_4.length c0_4, .slice A0_5 l0_5.length c0_5], .int .i64 a1] w fun e w' => e = .returned (.agg #[.int .i64 r1, .int .i64 r2, .int .i64 r3]) ∧ Below w.heap.size w w' := by
 have hu34 := Try.underlying34
 have hu29 := Try.underlying29
 have HR0_3 := Aside0.mk hr0_3
 have HC0_3 := Aside0.mk hc0_3
 clear hr0_3 hc0_3
 have HR0_4 := Aside0.mk hr0_4
 have HC0_4 := Aside0.mk hc0_4
 clear hr0_4 hc0_4
 have HR0_5 := Aside0.mk hr0_5
 have HC0_5 := Aside0.mk hc0_5
 clear hr0_5 hc0_5
 have HB := Aside0.mk (Below.refl w.heap.size w)
 have H := h
 unfold spec_sbOf.f at H
 clear h
 by_cases c3 : 0 ≤ a1
 case neg => rw [if_neg c3] at H; exact absurd H (by simp)
 rw [if_pos c3] at H
 have c3b0 := decide_eq_true c3
 clear c3
 by_cases c4 : a1 < (l0_3.length : Int)
 case neg => rw [if_neg c4] at H; exact absurd H (by simp)
 rw [if_pos c4] at H
 have c4b0 := decide_eq_true c4
 clear c4
 replace H := Option.bind_eq_some_iff.mp H
 obtain ⟨t217, A50, H⟩ := H
 try dsimp only at H
 have A5 := Aside0.mk A50
 clear A50
 by_cases c6 : a1 < (l0_5.length : Int)
 case neg => rw [if_neg c6] at H; exact absurd H (by simp)
 rw [if_pos c6] at H
 have c6b0 := decide_eq_true c6
 clear c6
 simp only [Option.some.injEq, Prod.mk.injEq] at H
 obtain ⟨rfl, rfl, rfl⟩ := H
 go_enter Try.func62, Try.ntmps62
 try go_wp2_with (first | ((with_reducible refine gate_dst (N := 2) rfl ?_); refine bv_ 2 (cs := #[.int .i64 a0_0, .int .i64 a0_1, .int .i64 a0_2, .slice A0_3 l0_3.length c0_3, .slice A0_4 l0_4.length c0_4, .slice A0_5 l0_5.length c0_5]) (t := 34) ?_; intro gb214 hg w7 hbox hb; have BK214 := Aside0.mk (hbox); have GW214 := gs_ hg HB; have GE214 := gs_ hg HB; replace HB := hbs_ HB hb; clear hb hbox hg) | ((with_reducible refine gate_dst (N := 4) rfl ?_); refine bv_ 4 (cs := #[.int .i64 0, .int .i64 0, .int .i64 0]) (t := 29) ?_; intro gb215 hg w8 hbox hb; have BK215 := Aside0.mk (hbox); have GW215 := gs_ hg HB; have GE215 := gs_ hg HB; have NB214_215 := nl_ hg BK214; have NB215_214 := ng_ hg BK214; replace BK214 := kb_ BK214 hb; replace HB := hbs_ HB hb; clear hb hbox hg))
 replace BK214 := Aside0.mk (blk_drew BK214.out)
 replace BK215 := Aside0.mk (blk_drew BK215.out)
 replace HB := Aside0.mk (below_drew1 HB.out)
 obtain ⟨ad216, e216, hx216_0, p216, q216⟩ := ai_ HR0_3.out a1
 have hw216_0 := hx216_0
 cases e216
 replace hx216_0 := hc_ HB hx216_0
 obtain ⟨ad218, e218, hx218_0, p218, q218⟩ := ai_ HR0_5.out a1
 have hw218_0 := hx218_0
 cases e218
 replace hx218_0 := hc_ HB hx218_0
 refine start_ (n := 15) (S := fun w' => w'.cell? ⟨gb214, 0, none⟩ = some (.int .i64 a0_0) ∧ w'.cell? ⟨gb214, 1, none⟩ = some (.int .i64 a0_1) ∧ w'.cell? ⟨gb214, 2, none⟩ = some (.int .i64 a0_2) ∧ w'.cell? ⟨gb214, 3, none⟩ = some (.slice (some ad216) l0_3.length c0_3) ∧ w'.cell? ⟨gb214, 4, none⟩ = some (.slice A0_4 l0_4.length c0_4) ∧ w'.cell? ⟨gb214, 5, none⟩ = some (.slice (some ad218) l0_5.length c0_5) ∧ w'.cell? (ad216.add (a1).toNat) = some (.int .i64 (rd l0_3 a1)) ∧ w'.cell? (ad218.add (a1).toNat) = some (.int .i64 (rd l0_5 a1))) (ds := []) (bb 15 0) (by kernel_rfl) rfl rfl ⟨(blk_cell BK214.out 0).trans rfl, (blk_cell BK214.out 1).trans rfl, (blk_cell BK214.out 2).trans rfl, (blk_cell BK214.out 3).trans rfl, (blk_cell BK214.out 4).trans rfl, (blk_cell BK214.out 5).trans rfl, ((HB.out.cell (World.block_lt_of_cell? w _ hw216_0)).trans hw216_0), ((HB.out.cell (World.block_lt_of_cell? w _ hw218_0)).trans hw218_0)⟩ (fun hHeld => ?_); refine with_tabW spec_sbOf.tab1 spec_sbOf.bits1 (fun HT_ HW_ => ?_)
 generalize w8.drew = w9 at BK214 BK215 HB hx216_0 hx218_0 hHeld ⊢
 refine pl_ HT_ 0 (some 5) (bb 15 1) (h := ?_)
 refine pl_ HT_ 2 (some 7) (bb 15 5) (h := ?_)
 refine pl_ HT_ 6 (some 11) (bb 15 69) (h := ?_)
 refine pl_ HT_ 8 (some 13) (bb 15 325) (h := ?_)
 refine pl_ HT_ 10 (some 15) (bb 15 1349) (h := ?_)
 refine tk_ HT_ HW_ hHeld 1 (some 6) (bb 15 1351) (h := ?_)
 refine pl_ HT_ 3 (some 8) (bb 15 1359) (h := ?_)
 refine tk_ HT_ HW_ hHeld 4 (some 9) (bb 15 1375) (h := ?_)
 refine tk_ HT_ HW_ hHeld 5 (some 10) (bb 15 1407) (h := ?_)
 refine tk_ HT_ HW_ hHeld 9 (some 14) (bb 15 1919) (h := ?_)
 refine pl_ HT_ 11 (some 16) (bb 15 3967) (h := ?_)
 refine tk_ HT_ HW_ hHeld 12 (some 17) (bb 15 8063) (h := ?_)
 refine one_ (i := 7) (N := some 12) (bb 15 8191) rfl rfl (one_of HT_.out (by kernel_rfl)) (by decide) (fun K hK => ?_)
 refine goes_ Try.func105 (by kernel_rfl) rfl #[.agg #[.int .i64 a0_0, .int .i64 a0_1, .int .i64 a0_2, .slice (some ad216) l0_3.length c0_3, .slice A0_4 l0_4.length c0_4, .slice (some ad218) l0_5.length c0_5], .int .i64 a1] (by rfl) rfl rfl (by (try simp only [List.map_toArray, List.map_cons, List.map_nil]); first | done | rfl | (simp only [List.length_drop, List.length_take]; rfl)) ?_
 with_reducible refine (spec_moMetal.calls a0_0 a0_1 a0_2 _ _ l0_3 _ _ l0_4 _ _ l0_5 a1 t217 _ ?side1 ?side2 ?side3 ?side4 ?side5 ?side6 A5.out).mono ?_
 (case side1 => exact Kd.C_w HR0_3 HB)
 (case side2 => exact HC0_3.out)
 (case side3 => exact Kd.C_w HR0_4 HB)
 (case side4 => exact HC0_4.out)
 (case side5 => exact Kd.C_w HR0_5 HB)
 (case side6 => exact HC0_5.out)
 rintro e w10 ⟨rfl, hb⟩
 refine ⟨_, rfl, ?_⟩
 replace BK214 := Aside0.mk (blk_below (kp_ BK214) hb)
 replace BK215 := Aside0.mk (blk_below (kp_ BK215) hb)
 replace HB := Aside0.mk (below_step (hb_ HB) hb)
 refine hK.out _ _ ⟨(blk_cell BK214.out 0).trans rfl, (blk_cell BK214.out 1).trans rfl, (blk_cell BK214.out 2).trans rfl, (blk_cell BK214.out 3).trans rfl, (blk_cell BK214.out 4).trans rfl, (blk_cell BK214.out 5).trans rfl, ((HB.out.cell (World.block_lt_of_cell? w _ hw216_0)).trans hw216_0), ((HB.out.cell (World.block_lt_of_cell? w _ hw218_0)).trans hw218_0)⟩ (fun hHeld => ?_)
 clear hK K
 refine nm_ (some 12) (h := ?_)
 refine pl_ HT_ 13 (some 18) (bb 15 16383) (h := ?_)
 refine one_ (i := 14) (N := none) (bb 15 32767) rfl rfl (one_of HT_.out (by kernel_rfl)) (by decide) (fun K hK => ?_)
 have hs11 : w10.cell? ⟨gb215, 0, none⟩ = some (.int .i64 0) := (blk_cell BK215.out 0).trans rfl
 have hfs11 := blk_frozen BK215.out 0
 have hns11_0 := NB214_215.out
 have hms11_0 := NB215_214.out
 have hs12 : w10.cell? ⟨gb215, 1, none⟩ = some (.int .i64 0) := (blk_cell BK215.out 1).trans rfl
 have hfs12 := blk_frozen BK215.out 1
 have hns12_0 := NB214_215.out
 have hms12_0 := NB215_214.out
 have hs13 : w10.cell? ⟨gb215, 2, none⟩ = some (.int .i64 0) := (blk_cell BK215.out 2).trans rfl
 have hfs13 := blk_frozen BK215.out 2
 have hns13_0 := NB214_215.out
 have hms13_0 := NB215_214.out
 refine skip_ (w1 := ?_) (by rfl) rfl ?_ ?_
 rotate_left
 ·go_simp
  rfl
 refine hK.out _ _ ⟨((cell_far (p := ⟨gb215, _, none⟩) NB214_215.out _).trans (((cell_far (p := ⟨gb215, _, none⟩) NB214_215.out _).trans (((cell_far (p := ⟨gb215, _, none⟩) NB214_215.out _).trans (hHeld.1)))))), ((cell_far (p := ⟨gb215, _, none⟩) NB214_215.out _).trans (((cell_far (p := ⟨gb215, _, none⟩) NB214_215.out _).trans (((cell_far (p := ⟨gb215, _, none⟩) NB214_215.out _).trans (hHeld.2.1)))))), ((cell_far (p := ⟨gb215, _, none⟩) NB214_215.out _).trans (((cell_far (p := ⟨gb215, _, none⟩) NB214_215.out _).trans (((cell_far (p := ⟨gb215, _, none⟩) NB214_215.out _).trans (hHeld.2.2.1)))))), ((cell_far (p := ⟨gb215, _, none⟩) NB214_215.out _).trans (((cell_far (p := ⟨gb215, _, none⟩) NB214_215.out _).trans (((cell_far (p := ⟨gb215, _, none⟩) NB214_215.out _).trans (hHeld.2.2.2.1)))))), ((cell_far (p := ⟨gb215, _, none⟩) NB214_215.out _).trans (((cell_far (p := ⟨gb215, _, none⟩) NB214_215.out _).trans (((cell_far (p := ⟨gb215, _, none⟩) NB214_215.out _).trans (hHeld.2.2.2.2.1)))))), ((cell_far (p := ⟨gb215, _, none⟩) NB214_215.out _).trans (((cell_far (p := ⟨gb215, _, none⟩) NB214_215.out _).trans (((cell_far (p := ⟨gb215, _, none⟩) NB214_215.out _).trans (hHeld.2.2.2.2.2.1)))))), ((cell_far (p := ⟨gb215, _, none⟩) (by first | exact Nat.ne_of_lt (Nat.lt_of_lt_of_le (by have := World.block_lt_of_cell? _ _ hw216_0; first | rwa [add_block] at this | exact this) GW215.out) | (rw [add_block]; exact Nat.ne_of_lt (Nat.lt_of_lt_of_le (by have := World.block_lt_of_cell? _ _ hw216_0; first | rwa [add_block] at this | exact this) GW215.out)) | (show (Addr.add _ _).block ≠ _; rw [add_block]; exact Nat.ne_of_lt (Nat.lt_of_lt_of_le (by have := World.block_lt_of_cell? _ _ hw216_0; first | rwa [add_block] at this | exact this) GW215.out)) | (dsimp only; exact Nat.ne_of_lt (Nat.lt_of_lt_of_le (by have := World.block_lt_of_cell? _ _ hw216_0; first | rwa [add_block] at this | exact this) GW215.out))) _).trans (((cell_far (p := ⟨gb215, _, none⟩) (by first | exact Nat.ne_of_lt (Nat.lt_of_lt_of_le (by have := World.block_lt_of_cell? _ _ hw216_0; first | rwa [add_block] at this | exact this) GW215.out) | (rw [add_block]; exact Nat.ne_of_lt (Nat.lt_of_lt_of_le (by have := World.block_lt_of_cell? _ _ hw216_0; first | rwa [add_block] at this | exact this) GW215.out)) | (show (Addr.add _ _).block ≠ _; rw [add_block]; exact Nat.ne_of_lt (Nat.lt_of_lt_of_le (by have := World.block_lt_of_cell? _ _ hw216_0; first | rwa [add_block] at this | exact this) GW215.out)) | (dsimp only; exact Nat.ne_of_lt (Nat.lt_of_lt_of_le (by have := World.block_lt_of_cell? _ _ hw216_0; first | rwa [add_block] at this | exact this) GW215.out))) _).trans (((cell_far (p := ⟨gb215, _, none⟩) (by first | exact Nat.ne_of_lt (Nat.lt_of_lt_of_le (by have := World.block_lt_of_cell? _ _ hw216_0; first | rwa [add_block] at this | exact this) GW215.out) | (rw [add_block]; exact Nat.ne_of_lt (Nat.lt_of_lt_of_le (by have := World.block_lt_of_cell? _ _ hw216_0; first | rwa [add_block] at this | exact this) GW215.out)) | (show (Addr.add _ _).block ≠ _; rw [add_block]; exact Nat.ne_of_lt (Nat.lt_of_lt_of_le (by have := World.block_lt_of_cell? _ _ hw216_0; first | rwa [add_block] at this | exact this) GW215.out)) | (dsimp only; exact Nat.ne_of_lt (Nat.lt_of_lt_of_le (by have := World.block_lt_of_cell? _ _ hw216_0; first | rwa [add_block] at this | exact this) GW215.out))) _).trans (hHeld.2.2.2.2.2.2.1)))))), ((cell_far (p := ⟨gb215, _, none⟩) (by first | exact Nat.ne_of_lt (Nat.lt_of_lt_of_le (by have := World.block_lt_of_cell? _ _ hw218_0; first | rwa [add_block] at this | exact this) GW215.out) | (rw [add_block]; exact Nat.ne_of_lt (Nat.lt_of_lt_of_le (by have := World.block_lt_of_cell? _ _ hw218_0; first | rwa [add_block] at this | exact this) GW215.out)) | (show (Addr.add _ _).block ≠ _; rw [add_block]; exact Nat.ne_of_lt (Nat.lt_of_lt_of_le (by have := World.block_lt_of_cell? _ _ hw218_0; first | rwa [add_block] at this | exact this) GW215.out)) | (dsimp only; exact Nat.ne_of_lt (Nat.lt_of_lt_of_le (by have := World.block_lt_of_cell? _ _ hw218_0; first | rwa [add_block] at this | exact this) GW215.out))) _).trans (((cell_far (p := ⟨gb215, _, none⟩) (by first | exact Nat.ne_of_lt (Nat.lt_of_lt_of_le (by have := World.block_lt_of_cell? _ _ hw218_0; first | rwa [add_block] at this | exact this) GW215.out) | (rw [add_block]; exact Nat.ne_of_lt (Nat.lt_of_lt_of_le (by have := World.block_lt_of_cell? _ _ hw218_0; first | rwa [add_block] at this | exact this) GW215.out)) | (show (Addr.add _ _).block ≠ _; rw [add_block]; exact Nat.ne_of_lt (Nat.lt_of_lt_of_le (by have := World.block_lt_of_cell? _ _ hw218_0; first | rwa [add_block] at this | exact this) GW215.out)) | (dsimp only; exact Nat.ne_of_lt (Nat.lt_of_lt_of_le (by have := World.block_lt_of_cell? _ _ hw218_0; first | rwa [add_block] at this | exact this) GW215.out))) _).trans (((cell_far (p := ⟨gb215, _, none⟩) (by first | exact Nat.ne_of_lt (Nat.lt_of_lt_of_le (by have := World.block_lt_of_cell? _ _ hw218_0; first | rwa [add_block] at this | exact this) GW215.out) | (rw [add_block]; exact Nat.ne_of_lt (Nat.lt_of_lt_of_le (by have := World.block_lt_of_cell? _ _ hw218_0; first | rwa [add_block] at this | exact this) GW215.out)) | (show (Addr.add _ _).block ≠ _; rw [add_block]; exact Nat.ne_of_lt (Nat.lt_of_lt_of_le (by have := World.block_lt_of_cell? _ _ hw218_0; first | rwa [add_block] at this | exact this) GW215.out)) | (dsimp only; exact Nat.ne_of_lt (Nat.lt_of_lt_of_le (by have := World.block_lt_of_cell? _ _ hw218_0; first | rwa [add_block] at this | exact this) GW215.out))) _).trans (hHeld.2.2.2.2.2.2.2))))))⟩ (fun hHeld => ?_)
 clear hK K
 refine done_ (done_of HT_.out (by kernel_rfl)) ?_
 try go_wp2
 refine bodyPost_ret (results_cell_row rfl _ _ gb215 29 #[.int .i64 (rd l0_3 a1), .int .i64 t217, .int .i64 (rd l0_5 a1)] (0, 0) _ rfl (kpq_ (kputs BK215 [(0, _), (1, _), (2, _)])) Try.underlying29 rfl (by kernel_rfl)) rfl ?_
 exact ad_ (hb_ HB)

/-! ### spec_l1All: function 71 -/
def spec_l1All.l0 : Nat → Int → Int → List Int → Int → Int → Option (Bool)
 | 0, _, _, _, _, _ => none
 | k + 1, x1, x2, x9, x10, x11 => if x11 < x10 then (if 0 ≤ x11 then (if x11 < (x9.length : Int) then ((spec_l1In.f (rd x9 x11) x1 x2).bind fun t220 => (if t220 = true then (spec_l1All.l0 k x1 x2 x9 x10 (wrap64 (x11 + 1))) else (some false))) else (none)) else (none)) else (some true)
def spec_l1All.f (k : Nat) (l0 : List Int) (a1 : Int) (a2 : Int) : Option (Bool) := spec_l1All.l0 k a1 a2 l0 (l0.length : Int) 0
set_option maxHeartbeats 8000000 in
set_option maxRecDepth 100000 in
theorem spec_l1All.calls (k : Nat) (A0 : Option Addr) (c0 : Nat) (l0 : List Int) (a1 : Int) (a2 : Int) (r : Bool) (w : World) (hr0 : Kd.C (Kd.int .i64) w A0 l0.length l0) (hc0 : l0.length ≤ c0) (h : spec_l1All.f k l0 a1 a2 = some r) :
  Calls Try.prog 71 #[.slice A0 l0.length c0, .int .i64 a1, .int .i64 a2] w fun e w' => e = .returned (.bool r) ∧ Drawn0 w w' := by
 have HR0 := Aside0.mk hr0
 have HC0 := Aside0.mk hc0
 clear hr0 hc0
 have H := h
 unfold spec_l1All.f at H
 clear h
 have H' := Aside0.mk H
 clear H
 go_enter Try.func71, Try.ntmps71
 go_wp2
 go_loopg [11] k (fun kq v11 w' => ∃ (x11_1 : Int), v11 = .int .i64 x11_1 ∧ Aside0 (spec_l1All.l0 kq a1 a2 l0 (l0.length : Int) x11_1 = some r) ∧ Aside0 (kq ≤ k) ∧ Drawn0 w w')
 case atStart => exact ⟨(0), (by first | rfl | (simp; done) | (simp [*]; done)), H', ⟨Nat.le_refl _⟩, by repeat (first | exact Drawn0.refl _ | apply Drawn0.step)⟩
 clear H'
 obtain ⟨x11_1, rfl, HA, HK1, ⟨m1, rfl⟩⟩ := hrel
 cases gk with
 | zero => exact absurd HA.out (by simp [spec_l1All.l0])
 | succ k1 => ?_
 have H := HA.out
 clear HA
 simp only [spec_l1All.l0] at H
 by_cases c4 : x11_1 < (l0.length : Int)
 case neg => rw [if_neg c4] at H; have c4b0 := decide_eq_false c4; clear c4; obtain rfl := Option.some.inj H; go_wp2; go_ret; (exact ⟨by first | rfl | (simp; done) | (simp [*]; done), by repeat (first | exact Drawn0.refl _ | apply Drawn0.step)⟩)
 rw [if_pos c4] at H
 have c4b0 := decide_eq_true c4
 clear c4
 by_cases c5 : 0 ≤ x11_1
 case neg => rw [if_neg c5] at H; exact absurd H (by simp)
 rw [if_pos c5] at H
 have c5b0 := decide_eq_true c5
 clear c5
 by_cases c6 : x11_1 < (l0.length : Int)
 case neg => rw [if_neg c6] at H; exact absurd H (by simp)
 rw [if_pos c6] at H
 have c6b0 := decide_eq_true c6
 clear c6
 replace H := Option.bind_eq_some_iff.mp H
 obtain ⟨t220, A70, H⟩ := H
 try dsimp only at H
 have A7 := Aside0.mk A70
 clear A70
 by_cases c8 : t220 = true
 ·subst c8
  rw [if_pos rfl] at H
  have H' := Aside0.mk H
  clear H
  obtain ⟨ad219, e219, hx219_0, p219, q219⟩ := ai_ HR0.out x11_1
  cases e219
  go_wp2_with (first | ((with_reducible refine gate_callee (f := 70) rfl ?_); refine gl_ (some 18) Try.func70 #[.int .i64 (rd l0 x11_1), .int .i64 a1, .int .i64 a2] rfl rfl rfl ?_; (with_reducible refine (spec_l1In.calls (rd l0 x11_1) a1 a2 true _ A7.out).mono ?_); rintro e w' ⟨rfl, ⟨nd, rfl⟩⟩; refine ⟨_, rfl, ?_⟩))
  go_roundg k1
  case measure => have := HK1.out; omega
  case rel => exact ⟨(wrap64 (x11_1 + 1)), (by first | rfl | (simp; done) | (simp [*]; done)), H', ⟨by have := HK1.out; omega⟩, by repeat (first | exact Drawn0.refl _ | apply Drawn0.step)⟩
 replace c8 := Bool.eq_false_iff.mpr c8
 subst c8
 rw [if_neg (show ¬ (false = true) by decide)] at H
 obtain rfl := Option.some.inj H
 obtain ⟨ad219, e219, hx219_0, p219, q219⟩ := ai_ HR0.out x11_1
 cases e219
 go_wp2_with (first | ((with_reducible refine gate_callee (f := 70) rfl ?_); refine gl_ (some 18) Try.func70 #[.int .i64 (rd l0 x11_1), .int .i64 a1, .int .i64 a2] rfl rfl rfl ?_; (with_reducible refine (spec_l1In.calls (rd l0 x11_1) a1 a2 false _ A7.out).mono ?_); rintro e w' ⟨rfl, ⟨nd, rfl⟩⟩; refine ⟨_, rfl, ?_⟩))
 go_ret
 exact ⟨by first | rfl | (simp; done) | (simp [*]; done), by repeat (first | exact Drawn0.refl _ | apply Drawn0.step)⟩

/-! ### spec_grCount: function 79 -/
def spec_grCount.f (a0_0 : Int) (a0_1 : Int) (a0_2 : Int) : Option (Int) := some (wrap64 ((wrap64 (a0_0 * a0_1)) * a0_2))
set_option maxHeartbeats 8000000 in
set_option maxRecDepth 100000 in
theorem spec_grCount.calls (a0_0 : Int) (a0_1 : Int) (a0_2 : Int) (r : Int) (w : World) (h : spec_grCount.f a0_0 a0_1 a0_2 = some r) :
  Calls Try.prog 79 #[.agg #[.int .i64 a0_0, .int .i64 a0_1, .int .i64 a0_2]] w fun e w' => e = .returned (.int .i64 r) ∧ Below w.heap.size w w' := by
 have hu32 := Try.underlying32
 have HB := Aside0.mk (Below.refl w.heap.size w)
 have H := h
 unfold spec_grCount.f at H
 clear h
 obtain rfl := Option.some.inj H
 go_enter Try.func79, Try.ntmps79
 go_wp2_with (first | ((with_reducible refine gate_dst (N := 1) rfl ?_); refine bv_ 1 (cs := #[.int .i64 a0_0, .int .i64 a0_1, .int .i64 a0_2]) (t := 32) ?_; intro gb221 hg w2 hbox hb; have BK221 := Aside0.mk (hbox); have GW221 := gs_ hg HB; have GE221 := gs_ hg HB; replace HB := hbs_ HB hb; clear hb hbox hg; obtain ⟨hcz3_0, hcz3_1, hcz3_2, hfz3_0, hfz3_1, hfz3_2⟩ := bx3 BK221))
 go_ret
 exact ad_ (hb_ HB)

/-! ### spec_grGood: function 98 -/
def spec_grGood.f (a0_0 : Int) (a0_1 : Int) (a0_2 : Int) : Option (Bool) := (spec_l1In.f a0_0 1 8).bind fun t223 => (if t223 = true then ((spec_l1In.f a0_1 1 6).bind fun t224 => (if t224 = true then ((spec_l1In.f a0_2 1 5).bind fun t225 => (if t225 = true then (some (decide ((wrap64 ((wrap64 (a0_0 * a0_1)) * a0_2)) ≤ 120))) else (some false))) else (some false))) else (some false))
set_option maxHeartbeats 8000000 in
set_option maxRecDepth 100000 in
theorem spec_grGood.calls (a0_0 : Int) (a0_1 : Int) (a0_2 : Int) (r : Bool) (w : World) (h : spec_grGood.f a0_0 a0_1 a0_2 = some r) :
  Calls Try.prog 98 #[.agg #[.int .i64 a0_0, .int .i64 a0_1, .int .i64 a0_2]] w fun e w' => e = .returned (.bool r) ∧ Below w.heap.size w w' := by
 have hu32 := Try.underlying32
 have HB := Aside0.mk (Below.refl w.heap.size w)
 have H := h
 unfold spec_grGood.f at H
 clear h
 replace H := Option.bind_eq_some_iff.mp H
 obtain ⟨t223, A20, H⟩ := H
 try dsimp only at H
 have A2 := Aside0.mk A20
 clear A20
 by_cases c3 : t223 = true
 ·subst c3
  rw [if_pos rfl] at H
  replace H := Option.bind_eq_some_iff.mp H
  obtain ⟨t224, A40, H⟩ := H
  try dsimp only at H
  have A4 := Aside0.mk A40
  clear A40
  by_cases c5 : t224 = true
  ·subst c5
   rw [if_pos rfl] at H
   replace H := Option.bind_eq_some_iff.mp H
   obtain ⟨t225, A60, H⟩ := H
   try dsimp only at H
   have A6 := Aside0.mk A60
   clear A60
   by_cases c7 : t225 = true
   ·subst c7
    rw [if_pos rfl] at H
    obtain rfl := Option.some.inj H
    go_enter Try.func98, Try.ntmps98
    go_wp2_with (first | ((with_reducible refine gate_dst (N := 1) rfl ?_); refine bv_ 1 (cs := #[.int .i64 a0_0, .int .i64 a0_1, .int .i64 a0_2]) (t := 32) ?_; intro gb222 hg w8 hbox hb; have BK222 := Aside0.mk (hbox); have GW222 := gs_ hg HB; have GE222 := gs_ hg HB; replace HB := hbs_ HB hb; clear hb hbox hg; obtain ⟨hcz9_0, hcz9_1, hcz9_2, hfz9_0, hfz9_1, hfz9_2⟩ := bx3 BK222) | ((with_reducible refine gate_callee (f := 70) rfl ?_); refine gl_ (some 5) Try.func70 #[.int .i64 a0_0, .int .i64 1, .int .i64 8] rfl rfl rfl ?_; (with_reducible refine (spec_l1In.calls a0_0 1 8 true _ A2.out).mono ?_); rintro e w' ⟨rfl, ⟨nd, rfl⟩⟩; refine ⟨_, rfl, ?_⟩) | (go_at_call 70; (with_reducible refine (spec_l1In.calls a0_1 1 6 true _ A4.out).mono ?_); rintro e w' ⟨rfl, ⟨nd, rfl⟩⟩) | (go_at_call 70; (with_reducible refine (spec_l1In.calls a0_2 1 5 true _ A6.out).mono ?_); rintro e w' ⟨rfl, ⟨nd, rfl⟩⟩))
    go_ret
    exact ad_ (hb_ HB)
   replace c7 := Bool.eq_false_iff.mpr c7
   subst c7
   rw [if_neg (show ¬ (false = true) by decide)] at H
   obtain rfl := Option.some.inj H
   go_enter Try.func98, Try.ntmps98
   go_wp2_with (first | ((with_reducible refine gate_dst (N := 1) rfl ?_); refine bv_ 1 (cs := #[.int .i64 a0_0, .int .i64 a0_1, .int .i64 a0_2]) (t := 32) ?_; intro gb222 hg w10 hbox hb; have BK222 := Aside0.mk (hbox); have GW222 := gs_ hg HB; have GE222 := gs_ hg HB; replace HB := hbs_ HB hb; clear hb hbox hg; obtain ⟨hcz11_0, hcz11_1, hcz11_2, hfz11_0, hfz11_1, hfz11_2⟩ := bx3 BK222) | ((with_reducible refine gate_callee (f := 70) rfl ?_); refine gl_ (some 5) Try.func70 #[.int .i64 a0_0, .int .i64 1, .int .i64 8] rfl rfl rfl ?_; (with_reducible refine (spec_l1In.calls a0_0 1 8 true _ A2.out).mono ?_); rintro e w' ⟨rfl, ⟨nd, rfl⟩⟩; refine ⟨_, rfl, ?_⟩) | (go_at_call 70; (with_reducible refine (spec_l1In.calls a0_1 1 6 true _ A4.out).mono ?_); rintro e w' ⟨rfl, ⟨nd, rfl⟩⟩) | (go_at_call 70; (with_reducible refine (spec_l1In.calls a0_2 1 5 false _ A6.out).mono ?_); rintro e w' ⟨rfl, ⟨nd, rfl⟩⟩))
   go_ret
   exact ad_ (hb_ HB)
  replace c5 := Bool.eq_false_iff.mpr c5
  subst c5
  rw [if_neg (show ¬ (false = true) by decide)] at H
  obtain rfl := Option.some.inj H
  go_enter Try.func98, Try.ntmps98
  go_wp2_with (first | ((with_reducible refine gate_dst (N := 1) rfl ?_); refine bv_ 1 (cs := #[.int .i64 a0_0, .int .i64 a0_1, .int .i64 a0_2]) (t := 32) ?_; intro gb222 hg w12 hbox hb; have BK222 := Aside0.mk (hbox); have GW222 := gs_ hg HB; have GE222 := gs_ hg HB; replace HB := hbs_ HB hb; clear hb hbox hg; obtain ⟨hcz13_0, hcz13_1, hcz13_2, hfz13_0, hfz13_1, hfz13_2⟩ := bx3 BK222) | ((with_reducible refine gate_callee (f := 70) rfl ?_); refine gl_ (some 5) Try.func70 #[.int .i64 a0_0, .int .i64 1, .int .i64 8] rfl rfl rfl ?_; (with_reducible refine (spec_l1In.calls a0_0 1 8 true _ A2.out).mono ?_); rintro e w' ⟨rfl, ⟨nd, rfl⟩⟩; refine ⟨_, rfl, ?_⟩) | (go_at_call 70; (with_reducible refine (spec_l1In.calls a0_1 1 6 false _ A4.out).mono ?_); rintro e w' ⟨rfl, ⟨nd, rfl⟩⟩))
  go_ret
  exact ad_ (hb_ HB)
 replace c3 := Bool.eq_false_iff.mpr c3
 subst c3
 rw [if_neg (show ¬ (false = true) by decide)] at H
 obtain rfl := Option.some.inj H
 go_enter Try.func98, Try.ntmps98
 go_wp2_with (first | ((with_reducible refine gate_dst (N := 1) rfl ?_); refine bv_ 1 (cs := #[.int .i64 a0_0, .int .i64 a0_1, .int .i64 a0_2]) (t := 32) ?_; intro gb222 hg w14 hbox hb; have BK222 := Aside0.mk (hbox); have GW222 := gs_ hg HB; have GE222 := gs_ hg HB; replace HB := hbs_ HB hb; clear hb hbox hg; obtain ⟨hcz15_0, hcz15_1, hcz15_2, hfz15_0, hfz15_1, hfz15_2⟩ := bx3 BK222) | ((with_reducible refine gate_callee (f := 70) rfl ?_); refine gl_ (some 5) Try.func70 #[.int .i64 a0_0, .int .i64 1, .int .i64 8] rfl rfl rfl ?_; (with_reducible refine (spec_l1In.calls a0_0 1 8 false _ A2.out).mono ?_); rintro e w' ⟨rfl, ⟨nd, rfl⟩⟩; refine ⟨_, rfl, ?_⟩))
 go_ret
 exact ad_ (hb_ HB)

end Go.Proofs.Ytceajigggcihnaa.PFnCoarse
