-- Laid for this claim by wip/tools/print2.sh, a changed copy of the kit's print (wip/tools/patch_print.py): not by print.sh.
import Derived.Test.YtceajigggcihnaaPFnExactBestPiecesx0
import Derived.Test.YtceajigggcihnaaPFnExactBestPiecesx4
namespace Go.Proofs.Ytceajigggcihnaa.PFnExactBestPieces
open Go.RowKit Go.Proofs.YtceajigggcihnaaW.PrintWords Go.Proofs.YtceajigggcihnaaW.PrintLast Go.Proofs.YtceajigggcihnaaW.PrintMore
attribute [local go_sem] max2_int min2_int max_two min_two max_three min_three max_four min_four   -- for this text's walks alone
set_option linter.unusedVariables false
set_option linter.unusedSimpArgs false

/-! ### impl_sortedPieces: function 76 -/
def cmpV (p q : S29) : Int := if p.f0 = 0 ∨ q.f0 = 0 then min q.f0 1 - min p.f0 1 else wrap64 (wrap64 (q.f1 * p.f0) - wrap64 (p.f1 * q.f0))
def okP (p : S29) : Prop := 0 ≤ p.f0 ∧ p.f0 ≤ 10000 ∧ 0 ≤ p.f1 ∧ p.f1 ≤ 10000000
def spEnc (n : Nat) (x : Nat) : Value := .int .i64 ((x % n : Nat) : Int)
def spCf (l : List S29) (x y : Nat) : Int := cmpV (l.getD (x % l.length) z29) (l.getD (y % l.length) z29)
def spOk (l : List S29) : Bool := decide (1 ≤ l.length ∧ l.length ≤ 20) && l.all (fun p => decide (0 ≤ p.f0 ∧ p.f0 ≤ 10000 ∧ 0 ≤ p.f1 ∧ p.f1 ≤ 10000000))
def spSort (l : List S29) : List Int := (Sort.insertionSort (ltOf (spCf l)) (List.range l.length).toArray 0 l.length).toList.map (fun x => ((x % l.length : Nat) : Int))
def impl_sortedPieces.f (l : List S29) : Option (List Int) := if spOk l = true then some (spSort l) else none
theorem sp_none : (none : Option Nat) = none := rfl
section
open Go.Sort Go.Shelf Go.Lib
theorem ret_i {a b : Int} (h : a = b) : Ending.returned (.int .i64 a) = .returned (.int .i64 b) := by rw [h]
theorem grown2 (W : World) (o1 o2 : Obj) : ∃ m os', ((W.alloc o1).alloc o2).drew = grow (W.drewN m) os' := ⟨1, #[o1, o2], by rw [alloc_eq_grow, alloc_eq_grow, grow_grow]; rfl⟩
set_option maxHeartbeats 4000000 in
set_option maxRecDepth 100000 in
theorem cmp_calls (gb : Nat) (ad : Addr) (n c x y : Nat) (p q : S29) (W : World) (hp : okP p) (hq : okP q) (hx : x < n) (hy : y < n)
  (hgb : gb < W.heap.size) (hbx : (ad.add (x * 3)).block < W.heap.size) (hby : (ad.add (y * 3)).block < W.heap.size) (hbox : W.cell? ⟨gb, 0, none⟩ = some (.slice (some ad) n c))
  (hx0 : W.cell? (ad.add (x * 3)) = some (.int .i64 p.f0)) (hx1 : W.cell? ⟨(ad.add (x * 3)).block, (ad.add (x * 3)).off + 1, none⟩ = some (.int .i64 p.f1)) (hx2 : W.cell? ⟨(ad.add (x * 3)).block, (ad.add (x * 3)).off + 2, none⟩ = some (.int .i64 p.f2))
  (hy0 : W.cell? (ad.add (y * 3)) = some (.int .i64 q.f0)) (hy1 : W.cell? ⟨(ad.add (y * 3)).block, (ad.add (y * 3)).off + 1, none⟩ = some (.int .i64 q.f1)) (hy2 : W.cell? ⟨(ad.add (y * 3)).block, (ad.add (y * 3)).off + 2, none⟩ = some (.int .i64 q.f2)) :
  Calls Try.prog 110 #[.int .i64 x, .int .i64 y, .pointer (some ⟨gb, 0, none⟩)] W fun e w' => e = .returned (.int .i64 (cmpV p q)) ∧ ∃ m os', w' = grow (W.drewN m) os' := by
 obtain ⟨p0, p1, p2, p3⟩ := hp
 obtain ⟨q0, q1, q2, q3⟩ := hq
 have hu29 := Try.underlying29
 go_enter Try.func110, Try.ntmps110
 go_wp2
 have hxi : (x : Int) < (n : Int) := by omega
 have hyi : (y : Int) < (n : Int) := by omega
 go_region
 all_goals go_wp2
 all_goals (go_ret; refine ⟨ret_i (by unfold cmpV; (try simp only [beq_iff_eq, beq_eq_false_iff_ne, ne_eq] at *); by_cases hc : p.f0 = 0 ∨ q.f0 = 0 <;> (first | rw [if_pos hc] | rw [if_neg hc]) <;> omega), grown2 _ _ _⟩)
theorem size_inner {α : Type} [Inhabited α] (lt : α → α → Bool) (a : Nat) : ∀ (j : Nat) (d : Array α), (insInner lt a j d).size = d.size
 | 0, d => rfl
 | j + 1, d => by
  rw [insInner]
  split
  ·rw [size_inner lt a j, size_swp]
  ·rfl
theorem size_outer {α : Type} [Inhabited α] (lt : α → α → Bool) (a b : Nat) : ∀ (m i : Nat) (d : Array α), b - i = m → (insOuter lt a b i d).size = d.size := by
 intro m
 induction m with
 | zero => intro i d h; rw [insOuter, if_neg (by omega)]
 | succ m ih =>
  intro i d h
  rw [insOuter]
  by_cases c : i < b
  ·rw [if_pos c, ih _ _ (by omega), size_inner]
  ·rw [if_neg c]
theorem size_ins {α : Type} [Inhabited α] (lt : α → α → Bool) (d : Array α) (a b : Nat) : (Sort.insertionSort lt d a b).size = d.size := size_outer lt a b _ _ d rfl
theorem ins_none {α : Type} [Inhabited α] (lt : α → α → Bool) (d : Array α) (n : Nat) : Sort.insertionSort lt d n n = d := by
 unfold Sort.insertionSort
 rw [insOuter, if_neg (by omega)]
set_option maxHeartbeats 4000000 in
set_option maxRecDepth 100000 in
theorem stable_under {α : Type} [Inhabited α] (enc : α → Value) (cf : α → α → Int) (g : Nat) (cb : Array Value) (blk cap : Nat) (d : Array α) (w : World) (eg : ∀ args w, (callFunc g args).run Try.prog w = .ok (.enter g args) w)
  (hcmp : CmpLays1 Try.prog g cb enc cf blk 0 d.size w) (R : Row1 enc w blk 0 d) (h20 : d.size < 20) :
  Calls Try.prog 122 #[.slice (some ⟨blk, 0, none⟩) d.size cap, .int .i64 d.size, .func (.func g) #[] cb] w fun e w' => e = .returned (.tuple #[]) ∧ SW enc w blk 0 (Sort.insertionSort (ltOf cf) d 0 d.size) w' := by
 have hc := Try.insertionSortCmpFunc_s enc cf g cb blk 0 cap 0 d.size d d w w eg hcmp R rfl (SW.start R.hH) (Nat.zero_le _) (Nat.le_refl _) (by omega)
 rw [show ((0 : Nat) : Int) = 0 from rfl] at hc
 clear hcmp
 go_enter Try.func122, Try.ntmps122
 go_wp2
 refine wp_loop_rounds 1 ?_
 rw [rounds_succ]
 go_wp2_with ((with_reducible refine hc.mono ?_); rintro e w1 ⟨rfl, S⟩; replace S := Aside0.mk S)
 refine wp_loop_rounds 1 ?_
 rw [rounds_succ]
 go_wp2
 all_goals first | (exfalso; omega) | (go_end0; exact ⟨rfl, S.out⟩)
set_option maxHeartbeats 4000000 in
set_option maxRecDepth 100000 in
theorem stable_at {α : Type} [Inhabited α] (enc : α → Value) (cf : α → α → Int) (g : Nat) (cb : Array Value) (blk cap : Nat) (d : Array α) (w : World) (eg : ∀ args w, (callFunc g args).run Try.prog w = .ok (.enter g args) w)
  (hcmp : CmpLays1 Try.prog g cb enc cf blk 0 d.size w) (R : Row1 enc w blk 0 d) (h20 : d.size = 20) :
  Calls Try.prog 122 #[.slice (some ⟨blk, 0, none⟩) d.size cap, .int .i64 d.size, .func (.func g) #[] cb] w fun e w' => e = .returned (.tuple #[]) ∧ SW enc w blk 0 (Sort.insertionSort (ltOf cf) d 0 d.size) w' := by
 have hc := Try.insertionSortCmpFunc_s enc cf g cb blk 0 cap 0 d.size d d w w eg hcmp R rfl (SW.start R.hH) (Nat.zero_le _) (Nat.le_refl _) (by omega)
 have hn := fun (d1 : Array α) (h1 : d.size = d1.size) w1 S => Try.insertionSortCmpFunc_s enc cf g cb blk 0 cap 20 20 d d1 w w1 eg hcmp R h1 S (Nat.le_refl _) (by omega) (by omega)
 have hz : d.size = (Sort.insertionSort (ltOf cf) d 0 20).size := (size_ins _ d 0 20).symm
 rw [h20] at hc ⊢
 have hn2 := hn _ hz
 rw [← hz, h20] at hn2
 rw [show ((0 : Nat) : Int) = 0 from rfl, show ((20 : Nat) : Int) = 20 from rfl] at hc
 rw [show ((20 : Nat) : Int) = 20 from rfl] at hn2 ⊢
 clear hcmp hn
 go_enter Try.func122, Try.ntmps122
 go_wp2
 refine wp_loop_rounds 2 ?_
 rw [rounds_succ]
 go_wp2_with ((with_reducible refine hc.mono ?_); rintro e w1 ⟨rfl, S⟩; replace S := Aside0.mk S)
 rw [rounds_succ]
 go_wp2_with ((with_reducible refine (hn2 _ S.out).mono ?_); rintro e w2 ⟨rfl, S2⟩; replace S2 := Aside0.mk S2)
 refine wp_loop_rounds 1 ?_
 rw [rounds_succ]
 go_wp2
 go_end0
 exact ⟨rfl, by have := S2.out; rwa [ins_none] at this⟩
theorem stable_calls {α : Type} [Inhabited α] (enc : α → Value) (cf : α → α → Int) (g : Nat) (cb : Array Value) (blk cap : Nat) (d : Array α) (w : World) (eg : ∀ args w, (callFunc g args).run Try.prog w = .ok (.enter g args) w)
  (hcmp : CmpLays1 Try.prog g cb enc cf blk 0 d.size w) (R : Row1 enc w blk 0 d) (h20 : d.size ≤ 20) :
  Calls Try.prog 122 #[.slice (some ⟨blk, 0, none⟩) d.size cap, .int .i64 d.size, .func (.func g) #[] cb] w fun e w' => e = .returned (.tuple #[]) ∧ SW enc w blk 0 (Sort.insertionSort (ltOf cf) d 0 d.size) w' := by
 by_cases h : d.size = 20
 ·exact stable_at enc cf g cb blk cap d w eg hcmp R h
 ·exact stable_under enc cf g cb blk cap d w eg hcmp R (by omega)
set_option maxHeartbeats 4000000 in
set_option maxRecDepth 100000 in
theorem sortstable_calls {α : Type} [Inhabited α] (enc : α → Value) (cf : α → α → Int) (g : Nat) (cb : Array Value) (blk cap : Nat) (d : Array α) (w : World) (eg : ∀ args w, (callFunc g args).run Try.prog w = .ok (.enter g args) w)
  (hcmp : CmpLays1 Try.prog g cb enc cf blk 0 d.size w) (R : Row1 enc w blk 0 d) (h20 : d.size ≤ 20) :
  Calls Try.prog 109 #[.slice (some ⟨blk, 0, none⟩) d.size cap, .func (.func g) #[] cb] w fun e w' => e = .returned (.tuple #[]) ∧ SW enc w blk 0 (Sort.insertionSort (ltOf cf) d 0 d.size) w' := by
 have hc := stable_calls enc cf g cb blk cap d w eg hcmp R h20
 clear hcmp
 go_enter Try.func109, Try.ntmps109
 go_wp2_with ((with_reducible refine hc.mono ?_); rintro e w1 ⟨rfl, S⟩; replace S := Aside0.mk S)
 go_end0
 exact ⟨rfl, S.out⟩
theorem sw_cell {α : Type} [Inhabited α] (enc : α → Value) (w : World) (g m : Nat) (dk : Array α) (os : Array Obj) (a : Addr) (v : Value) (h : w.cell? a = some v) (hne : a.block ≠ g) : (sortWorld enc w g 0 m dk os).cell? a = some v := by
 have hlt : a.block < w.heap.size := World.block_lt_of_cell? w _ h
 unfold sortWorld
 rw [cell?_grow _ _ _ (by rw [size_putRow]; exact hlt), cell?_putRow_other enc _ g 0 _ _ (Or.inl hne)]
 exact h
theorem add_block (ad : Addr) (k : Nat) : (ad.add k).block = ad.block := by unfold Addr.add; split <;> rfl
theorem sp_cmp (l : List S29) (gb g : Nat) (A0 : Option Addr) (c0 : Nat) (w : World) (hbox : w.cell? ⟨gb, 0, none⟩ = some (.slice A0 l.length c0)) (hr : Kd.C k29 w A0 l.length l) (hok : spOk l = true) (hne : gb ≠ g) (hng : ∀ ad, A0 = some ad → ad.block ≠ g) (size : Nat) :
  CmpLays1 Try.prog 110 #[.pointer (some ⟨gb, 0, none⟩)] (spEnc l.length) (spCf l) g 0 size w := by
 unfold spOk at hok
 rw [Bool.and_eq_true, decide_eq_true_eq, List.all_eq_true] at hok
 obtain ⟨⟨hn1, hn2⟩, hv⟩ := hok
 intro m os dk _ x y
 have hx : x % l.length < l.length := Nat.mod_lt _ (by omega)
 have hy : y % l.length < l.length := Nat.mod_lt _ (by omega)
 obtain ⟨ad, e1, x0, x1, x2⟩ := at_T29 hr ((x % l.length : Nat) : Int) (by omega) (by omega)
 obtain ⟨ad', e2, y0, y1, y2⟩ := at_T29 hr ((y % l.length : Nat) : Int) (by omega) (by omega)
 subst e1
 obtain rfl : ad = ad' := by injection e2
 rw [Int.toNat_natCast] at x0 x1 x2 y0 y1 y2
 have hg : ∀ k, (ad.add k).block ≠ g := fun k => by rw [add_block]; exact hng ad rfl
 have ht : ∀ i : Nat, rd_T29 l (i : Int) = l.getD i z29 := fun i => by unfold rd_T29; rw [Int.toNat_natCast]
 rw [ht] at x0 x1 x2 y0 y1 y2
 have hp : ∀ i, i < l.length → okP (l.getD i z29) := fun i hi => by
  rw [List.getD_eq_getElem?_getD, List.getElem?_eq_getElem hi]
  have h_ := hv _ (List.getElem_mem hi)
  rw [decide_eq_true_eq] at h_
  exact h_
 have hle : w.heap.size ≤ (sortWorld (spEnc l.length) w g 0 m dk os).heap.size := SW.le ⟨m, os, rfl⟩
 have X0 := sw_cell (spEnc l.length) w g m dk os _ _ x0 (hg _)
 have X1 := sw_cell (spEnc l.length) w g m dk os _ _ x1 (hg _)
 have X2 := sw_cell (spEnc l.length) w g m dk os _ _ x2 (hg _)
 have Y0 := sw_cell (spEnc l.length) w g m dk os _ _ y0 (hg _)
 have Y1 := sw_cell (spEnc l.length) w g m dk os _ _ y1 (hg _)
 have Y2 := sw_cell (spEnc l.length) w g m dk os _ _ y2 (hg _)
 exact cmp_calls gb ad l.length c0 (x % l.length) (y % l.length) _ _ _ (hp _ hx) (hp _ hy) hx hy (World.block_lt_of_cell? _ _ (sw_cell (spEnc l.length) w g m dk os _ _ hbox hne)) (World.block_lt_of_cell? _ _ X0) (World.block_lt_of_cell? _ _ Y0) (sw_cell (spEnc l.length) w g m dk os _ _ hbox hne) X0 X1 X2 Y0 Y1 Y2
theorem encs_range (n : Nat) : encs (Value.int .i64) ((List.range n).map Int.ofNat) = (List.range n).map (spEnc n) := by
 unfold encs
 rw [List.map_map]
 apply List.map_congr_left
 intro x hx
 have hx := List.mem_range.1 hx
 show Value.int .i64 (Int.ofNat x) = spEnc n x
 unfold spEnc
 rw [Nat.mod_eq_of_lt hx]; rfl
/-- behind the sort -/
theorem sp_after (l : List S29) (g cap base : Nat) (wr w1 : World) (hR : Kd.R (Kd.int .i64) 3 wr base (fun _ => True) (.slice (some ⟨g, 0, none⟩) l.length cap) ((List.range l.length).map Int.ofNat))
  (S : SW (spEnc l.length) wr g 0 (Sort.insertionSort (ltOf (spCf l)) (List.range l.length).toArray 0 l.length) w1) : Kd.R (Kd.int .i64) 3 w1 base (fun _ => True) (.slice (some ⟨g, 0, none⟩) l.length cap) (spSort l) := by
 have ho := Kd.own_of_R hR
 rw [encs_range, List.length_map, List.length_range] at ho
 obtain ⟨m, os, rfl⟩ := S
 have hlt : g < wr.heap.size := by
  obtain ⟨_, hx⟩ := ho
  rcases hx with ⟨e, _⟩ | ⟨g', cap', cur, e, _, hg, _⟩
  ·cases e
  ·injection e with e _ _
   injection e with e
   injection e with e
   subst e
   exact blk_lt hg
 generalize hd : Sort.insertionSort (ltOf (spCf l)) (List.range l.length).toArray 0 l.length = d
 have hs : d.toList.length = l.length := by rw [← hd, Array.length_toList, size_ins]; simp
 have hb := Lib.ownsRow_putRow (q := m) (k := l.length) (ys := d.toList) ho hs (Nat.le_refl _)
 rw [Array.toArray_toList, List.take_of_length_le (by omega)] at hb
 have e : spSort l = d.toList.map (fun x => ((x % l.length : Nat) : Int)) := by unfold spSort; rw [hd]
 have hl : (spSort l).length = l.length := by rw [e, List.length_map, hs]
 refine Kd.R_of_own (h1 := fun _ => rfl) ?_ (fun _ _ => trivial)
 rw [hl, e]
 have e2 : encs (Value.int .i64) (d.toList.map (fun x => ((x % l.length : Nat) : Int))) = d.toList.map (spEnc l.length) := by unfold encs; rw [List.map_map]; rfl
 rw [e2]
 refine own_move hb (fun k hk => ?_)
 have hk : k = g := by simpa [Value.ownBlock] using hk.symm
 subst hk
 unfold sortWorld
 exact heap_grow_old _ _ (by rw [size_putRow]; exact hlt)
theorem sp_below {α : Type} [Inhabited α] {enc : α → Value} {d : Array α} {B g : Nat} {w wr w1 : World} (hb : Below B w wr) (hg : B ≤ g) (hB : B ≤ wr.heap.size) (S : SW enc wr g 0 d w1) : Below B w w1 := by
 obtain ⟨m, os, rfl⟩ := S
 unfold sortWorld
 have h := Lib.below_putRow (enc := enc) (q := m) (d := d) hb hg
 exact ⟨h.os, h.tape, h.output, Nat.le_trans h.size (by simp [grow]), fun k hk => by rw [heap_grow_old _ _ (by rw [size_putRow]; exact Nat.lt_of_lt_of_le hk hB)]; exact h.block k hk⟩
set_option maxHeartbeats 8000000 in
set_option maxRecDepth 100000 in
theorem impl_sortedPieces.calls (A0 : Option Addr) (c0 : Nat) (l0 : List S29) (r : List Int) (w : World) (hr0 : Kd.C k29 w A0 l0.length l0) (hc0 : l0.length ≤ c0) (h : impl_sortedPieces.f l0 = some r) :
 Calls Try.prog 76 #[.slice A0 l0.length c0] w fun e w' => ∃ v0_ : Value, e = .returned (v0_) ∧ Kd.R (Kd.int .i64) 3 w' w.heap.size (fun _ => True) v0_ r ∧ Below w.heap.size w w' := by
 unfold impl_sortedPieces.f at h
 by_cases hok : spOk l0 = true
 ·rw [if_pos hok] at h
  obtain rfl := Option.some.inj h
  clear h
  have hn : 1 ≤ l0.length ∧ l0.length ≤ 20 := by unfold spOk at hok; rw [Bool.and_eq_true, decide_eq_true_eq] at hok; exact hok.1
  have hn1 := hn.1
  have hn2 := hn.2
  clear hn
  have HOK := Aside0.mk hok
  clear hok
  have HR0 := Aside0.mk hr0
  clear hr0
  have HB := Aside0.mk (Below.refl w.heap.size w)
  go_enter Try.func76, Try.ntmps76
  go_wp2_with (first | ((with_reducible refine gate_dst (N := 1) rfl ?_); refine box_event ?hg (N := 1) ?hd (cs := #[.slice A0 l0.length c0]) (t := 42) ?hr ?_; (case hd => rfl); (case hg => rfl); (case hr => first | (go_simp; done) | (go_simp; rfl)); intro gb1 hg w4 hbox hb; have BK1 := Aside0.mk (hbox); have GE1 := gs_ hg HB; replace HB := hbs_ HB hb; clear hb hbox hg; have hcz1 : w4.cell? ⟨gb1, 0, none⟩ = some (.slice A0 l0.length c0) := (blk_cell BK1.out 0).trans rfl) | ((with_reducible refine gate_dst (N := 5) rfl ?_); refine Kd.R_lit (Kd.int .i64) _ 3 ?hg (N := 5) ?hd (xs := ([] : List Int)) (inner := []) (ok := fun _ => True) (okp := fun _ => True) ?hr ?hp (fun _ hk => hk) trivial (Below.refl _ _) (Nat.le_refl _) (by simp) ?_; (case hd => rfl); (case hg => rfl); (case hr => first | (go_simp; done) | (go_simp; rfl)); (case hp => exact (Reps.none _ _)); intro v5 w5 ho5 hb hg_ hnew_; clear hg_ hnew_; have HO5 := Kd.R_lo ho5 HB; replace BK1 := kb_ BK1 hb; replace HB := hbs_ HB hb; clear hb ho5 hcz1; have hcz1 : w5.cell? ⟨gb1, 0, none⟩ = some (.slice A0 l0.length c0) := (blk_cell BK1.out 0).trans rfl))
  go_loopg [3, 8] l0.length (fun kq v3 v8 w' => ∃ (i : Nat), v8 = .int .i64 (i : Int) ∧ i ≤ l0.length ∧ l0.length - i ≤ kq ∧ Aside0 (Kd.R (Kd.int .i64) 3 w' w.heap.size (fun _ => True) v3 ((List.range i).map Int.ofNat)) ∧ Aside0 (w'.heap[gb1]? = some (.cells #[.slice A0 l0.length c0] 42 (0, 0))) ∧ Aside0 (Below w.heap.size w w'))
  case atStart => exact ⟨0, rfl, Nat.zero_le _, Nat.le_refl _, ⟨Kd.R_p HO5⟩, ⟨kp_ BK1⟩, ⟨hb_ HB⟩⟩
  case round =>
   clear HO5 BK1 HB
   (try clear hcz1)
   obtain ⟨i, rfl, hi, hik, HO, BK, HB⟩ := hrel
   by_cases hlt : i < l0.length
   ·have hltz : (i : Int) < (l0.length : Int) := by omega
    have HL := Aside0.mk (show ((List.range i).map Int.ofNat).length + 1 < 17592186044416 by simp; omega)
    obtain ⟨ys, hys⟩ : ∃ ys : List Int, ys = (List.range i).map Int.ofNat := ⟨_, rfl⟩
    rw [← hys] at HO HL
    have Hys := Aside0.mk hys
    clear hys
    go_wp2_with (first | ((with_reducible refine gate_builtin (b := .append) (xs := #[.tmp 11, .tmp 13]) rfl ?_); at_builtin; refine Kd.R_append (Kd.int .i64) (w0 := w) w.heap.size rfl (.tmp 11) (.tmp 13) 24 3 (.int .i64 0) 8 rfl Try.underlying24 info3 rfl (by decide) (by omega) _ ys (i : Int) [.int .i64 (i : Int)] (fun _ => True) (fun _ => False) rfl rfl ?aP (fun _ hk => hk.elim) ?aF ?aO ?aB ?aS ?aL ?_; (case aP => exact rfl); (case aB => exact (hb_ HB)); (case aF => exact (fun _ _ => trivial)); (case aO => exact (Kd.R_p HO)); (case aS => exact (below_size (hb_ HB))); (case aL => have := HL.out; omega); intro v6 w6 ho hb hg hat; have HO6 := Aside0.mk (ho); replace BK := Aside0.mk (blk_grown (kp_ BK) hg (Kd.R_ne HO.out BK.out (by decide))); replace HB := Aside0.mk (hb); clear HO; clear ho hb hg hat))
    go_roundg (l0.length - (i + 1))
    case measure => omega
    case rel => exact ⟨i + 1, by first | rfl | go_num, by omega, by omega, ⟨by have e_ : (List.range (i + 1)).map Int.ofNat = ys ++ [(i : Int)] := (by rw [Hys.out, List.range_succ, List.map_append]; rfl); rw [e_]; exact Kd.R_p HO6⟩, ⟨kp_ BK⟩, ⟨hb_ HB⟩⟩
   ·obtain rfl : i = l0.length := by omega
    clear hlt hik hi
    have hltz : ¬ ((l0.length : Int) < (l0.length : Int)) := by omega
    obtain ⟨go, cap, eo, gb, gl, cl, HG⟩ := Kd.R_form HO.out (by simp; omega)
    rw [List.length_map, List.length_range] at eo
    subst eo
    have hne : gb1 ≠ go := by rintro rfl; rw [BK.out] at HG; injection HG with HG; injection HG with _ HG; cases HG
    have hcz : wr.cell? ⟨gb1, 0, none⟩ = some (.slice A0 l0.length c0) := (blk_cell BK.out 0).trans rfl
    have hng : ∀ ad, A0 = some ad → ad.block ≠ go := by
     intro ad he
     obtain ⟨ad', e1, x0, _, _⟩ := at_T29 HR0.out 0 (by omega) (by omega)
     obtain rfl : ad = ad' := by rw [he] at e1; injection e1
     have h1 := World.block_lt_of_cell? w _ x0
     rw [add_block] at h1
     omega
    have hcmp := sp_cmp l0 gb1 go A0 c0 wr hcz (Kd.C_w HR0 HB) HOK.out hne hng (List.range l0.length).toArray.size
    obtain ⟨g2, cap2, e2, _, hglt, _, _, _, hh⟩ := Lib.holds_of_ownsRow (by have h_ := Kd.own_of_R HO.out; rw [encs_range] at h_; exact h_) (by simp)
    obtain ⟨rfl, rfl⟩ : go = g2 ∧ cap = cap2 := by injection e2 with f1 _ f3; injection f1 with f1; injection f1 with f1; exact ⟨f1, f3⟩
    clear e2
    have hcall := sortstable_calls (spEnc l0.length) (spCf l0) 110 #[.pointer (some ⟨gb1, 0, none⟩)] go cap (List.range l0.length).toArray wr (enters_of Try.func110 (by kernel_rfl) rfl) hcmp ⟨fun _ => rfl, hh, hglt⟩ (by simp; omega)
    have hsz : (List.range l0.length).toArray.size = l0.length := by simp
    rw [hsz] at hcall
    clear hcmp hh hng hsz
    go_wp2_with ((with_reducible refine hcall.mono ?_); rintro e w7 ⟨rfl, S⟩; replace S := Aside0.mk S; have HO7 := Aside0.mk (sp_after l0 go cap _ _ _ HO.out S.out); replace HB := Aside0.mk (sp_below HB.out gb (Below.size HB.out) S.out); clear S HO BK)
    go_ret
    exact ⟨_, by first | rfl | (simp; done), Kd.R_p HO7, hb_ HB⟩
 ·rw [if_neg hok] at h
  cases h
end

/-! ### slices_Sort_int_int: function 86 -/
def slices_Sort_int_int.f (l : List Int) : Option (List Int) := if l.length < 4611686018427387904 then some (l.mergeSort fun x y => decide (x ≤ y)) else none
theorem sort_none_ : (none : Option Nat) = none := rfl
section
open Go.Sort Go.Shelf Go.Lib
set_option maxHeartbeats 4000000 in
theorem slices_Sort_int_int.calls (P0_ : Nat → Prop) (u9000_ : Value) (l0 : List Int) (r : List Int) (w0 w : World) (hB : Below w0.heap.size w0 w) (ho0 : Kd.R (Kd.int .i64) 3 w w0.heap.size P0_ u9000_ l0) (h : slices_Sort_int_int.f l0 = some r) :
 Calls Try.prog 86 #[u9000_] w fun e w' => e = .returned (.tuple #[]) ∧ Kd.R (Kd.int .i64) 3 w' w0.heap.size (fun k_ => (P0_ k_ ∨ w.heap.size ≤ k_)) u9000_ r ∧ Below w0.heap.size w0 w' ∧ Kept w w' (fun k_ => P0_ k_) := by
 unfold slices_Sort_int_int.f at h
 by_cases hl : l0.length < 4611686018427387904
 ·rw [if_pos hl] at h
  obtain rfl := Option.some.inj h
  clear h
  have ho := Kd.own_of_R ho0
  have hok := ho0.1
  have hlm : (l0.mergeSort fun x y => decide (x ≤ y)).length = l0.length := List.length_mergeSort l0
  by_cases hv : u9000_ = .slice none 0 0
  ·subst hv
   have hn : l0.length = 0 := by
    rcases ho.2 with ⟨_, hn⟩ | ⟨g, cap, cur, e, _⟩
    ·exact hn
    ·cases e
   obtain rfl := List.length_eq_zero_iff.1 hn
   refine (Try.slices_Sort_int_none none 0 w).mono ?_
   rintro e w' ⟨rfl, rfl⟩
   refine ⟨rfl, ?_, hB, Kept.refl _ _⟩
   rw [List.mergeSort_nil]
   exact Kd.R_mono ho0 (fun _ h => .inl h)
  ·unfold encs at ho
   obtain ⟨g, cap, rfl, hg, hlt, _, _, _, hh⟩ := Lib.holds_of_ownsRow ho hv
   refine (Try.slices_Sort_int g 0 cap l0 w hh hlt hl).mono ?_
   rintro e w' ⟨rfl, m, os, rfl⟩
   have hb := Lib.ownsRow_putRow (q := m) (k := l0.length) (ys := l0.mergeSort fun x y => decide (x ≤ y)) ho hlm (Nat.le_refl _)
   rw [List.take_of_length_le (by omega)] at hb
   have hold : ∀ k, k < w.heap.size → (grow (putRow (Value.int .i64) (Sort.ahead w m) g 0 (l0.mergeSort fun x y => decide (x ≤ y)).toArray) os).heap[k]? = (putRow (Value.int .i64) (Sort.ahead w m) g 0 (l0.mergeSort fun x y => decide (x ≤ y)).toArray).heap[k]? :=
    fun k hk => heap_grow_old _ _ (by rw [size_putRow]; exact hk)
   have hs := Below.size hB
   refine ⟨rfl, Kd.R_of_own (h1 := fun _ => rfl) ?_ (fun k hk => .inl (hok k hk)), ?_, ?_⟩
   ·rw [hlm]
    refine own_move (by unfold encs; exact hb) (fun k hk => ?_)
    have hk : k = g := by simpa [Value.ownBlock] using hk.symm
    subst hk
    exact hold k hlt
   ·have h := Lib.below_putRow (enc := Value.int .i64) (q := m) (d := (l0.mergeSort fun x y => decide (x ≤ y)).toArray) hB hg
    exact ⟨h.os, h.tape, h.output, Nat.le_trans h.size (by simp [grow]), fun k hk => by rw [hold k (Nat.lt_of_lt_of_le hk hs)]; exact h.block k hk⟩
   ·refine ⟨by simp [grow, putRow, mapBlock, Sort.ahead], fun i hi hn => ?_⟩
    rw [hold i hi]
    have hne : g ≠ i := by rintro rfl; exact hn (hok g (by simp [Value.ownBlock]))
    simp [putRow, mapBlock, Sort.ahead, Array.getElem?_modify, hne]
 ·rw [if_neg hl] at h
  cases h
end

/-! ### impl_BestPieces: function 38 -/
mutual
def impl_BestPieces.j0 : Nat → List (S29) → Int → Bool → Option (List Int × Bool)
 | 0, _, _, _ => none
 | k + 1, x0, x1, x19 => if x19 = true then (some (([] : List Int), false)) else ((impl_sortedPieces.f x0).bind fun t245 => (impl_BestPieces.l0 k x0 x1 (([] : List Int)) t245 (t245.length : Int) 0))
def impl_BestPieces.l0 : Nat → List (S29) → Int → List Int → List Int → Int → Int → Option (List Int × Bool)
 | 0, _, _, _, _, _, _ => none
 | k + 1, x0, x1, x6, x22, x23, x24 => if x24 < x23 then (if 0 ≤ x24 then (if x24 < (x22.length : Int) then (if x1 ≤ 0 then (if x1 > 0 then (some (([] : List Int), false)) else ((slices_Sort_int_int.f x6).bind fun t249 => (some (t249, true)))) else (if x6.length < 17592186044416 then (if 0 ≤ (rd x22 x24) then (if (rd x22 x24) < (x0.length : Int) then (impl_BestPieces.l0 k x0 (wrap64 (x1 - ((rd_T29 x0 (rd x22 x24)).f0))) (x6 ++ [rd x22 x24]) x22 x23 (wrap64 (x24 + 1))) else (none)) else (none)) else (none))) else (none)) else (none)) else (if x1 > 0 then (some (([] : List Int), false)) else ((slices_Sort_int_int.f x6).bind fun t254 => (some (t254, true))))
end
def impl_BestPieces.f (k : Nat) (l0 : List (S29)) (a1 : Int) : Option (List Int × Bool) := (impl_arePieces.f k l0).bind fun t241 => (if t241 = true then (if a1 < 0 then (impl_BestPieces.j0 k l0 a1 true) else (impl_BestPieces.j0 k l0 a1 (decide (a1 > 200000)))) else (impl_BestPieces.j0 k l0 a1 true))
set_option maxHeartbeats 8000000 in
set_option maxRecDepth 100000 in
theorem impl_BestPieces.calls (k : Nat) (A0 : Option Addr) (c0 : Nat) (l0 : List (S29)) (a1 : Int) (r1 : List Int) (r2 : Bool) (w : World) (hr0 : Kd.C k29 w A0 l0.length l0) (hc0 : l0.length ≤ c0) (h : impl_BestPieces.f k l0 a1 = some (r1, r2)) :
  Calls Try.prog 38 #[.slice A0 l0.length c0, .int .i64 a1] w fun e w' => ∃ v0_ : Value, e = .returned (.tuple #[v0_, .bool r2]) ∧ Kd.R (Kd.int .i64) 3 w' w.heap.size (fun _ => True) v0_ r1 ∧ Below w.heap.size w w' := by
 have HR0 := Aside0.mk hr0
 have HC0 := Aside0.mk hc0
 clear hr0 hc0
 have HB := Aside0.mk (Below.refl w.heap.size w)
 have H : ((impl_arePieces.f k l0).bind fun t241 => (if t241 = true then (if a1 < 0 then (impl_BestPieces.j0 k l0 a1 true) else (impl_BestPieces.j0 k l0 a1 (decide (a1 > 200000)))) else (impl_BestPieces.j0 k l0 a1 true))) = some (r1, r2) := h
 clear h
 have HC3 := Aside0.mk H
 clear H
 go_enter Try.func38, Try.ntmps38
 go_upto_region 1 with (fail)
 go_cut [19] (fun v19 wc => ∃ (kq : Nat) (x19_2 : Bool), v19 = .bool x19_2 ∧ Aside0 (impl_BestPieces.j0 kq l0 a1 x19_2 = some (r1, r2)) ∧ Aside0 (kq ≤ k) ∧ Aside0 (Below w.heap.size w wc))
 case first =>
  have H := HC3.out
  clear HC3
  replace H := Option.bind_eq_some_iff.mp H
  obtain ⟨t241, A40, H⟩ := H
  replace H : (if t241 = true then (if a1 < 0 then (impl_BestPieces.j0 k l0 a1 true) else (impl_BestPieces.j0 k l0 a1 (decide (a1 > 200000)))) else (impl_BestPieces.j0 k l0 a1 true)) = some (r1, r2) := H
  have A4 := Aside0.mk A40
  clear A40
  by_cases c5 : t241 = true
  ·subst c5
   have H1 : (if a1 < 0 then (impl_BestPieces.j0 k l0 a1 true) else (impl_BestPieces.j0 k l0 a1 (decide (a1 > 200000)))) = some (r1, r2) := by rw [if_pos rfl] at H; exact H
   clear H
   have H := H1
   clear H1
   by_cases c6 : a1 < 0
   ·rw [if_pos c6] at H
    have c6b0 : decide (a1 < 0) = true := decide_eq_true c6
    clear c6
    (first | rw [c6b0] | (simp only [i64_w, i32_w]; rw [c6b0]) | skip)
    have H' := Aside0.mk H
    clear H
    go_wp2_with (first | ((with_reducible refine gate_callee (f := 68) rfl ?_); refine gl_ (some 10) Try.func68 #[.slice A0 l0.length c0] rfl rfl rfl ?_; (with_reducible refine (impl_arePieces.calls k _ _ l0 true _ ?side1 ?side2 A4.out).mono ?_); (case side1 => exact Kd.C_w HR0 HB); (case side2 => exact HC0.out); rintro e w7 ⟨rfl, hb⟩; refine ⟨_, rfl, ?_⟩; replace HB := hbs_ HB hb; (try clear hb); (try clear hb2); (try clear hk); (try clear hi)))
    go_meet
    case rel => exact ⟨_, (true), (by first | rfl | (simp; done) | (simp [*]; done)), H', ⟨by first | omega | exact Nat.le_refl _⟩, ⟨hb_ HB⟩⟩
   ·rw [if_neg c6] at H
    have c6b0 : decide (a1 < 0) = false := decide_eq_false c6
    clear c6
    (first | rw [c6b0] | (simp only [i64_w, i32_w]; rw [c6b0]) | skip)
    have H' := Aside0.mk H
    clear H
    go_wp2_with (first | ((with_reducible refine gate_callee (f := 68) rfl ?_); refine gl_ (some 10) Try.func68 #[.slice A0 l0.length c0] rfl rfl rfl ?_; (with_reducible refine (impl_arePieces.calls k _ _ l0 true _ ?side1 ?side2 A4.out).mono ?_); (case side1 => exact Kd.C_w HR0 HB); (case side2 => exact HC0.out); rintro e w8 ⟨rfl, hb⟩; refine ⟨_, rfl, ?_⟩; replace HB := hbs_ HB hb; (try clear hb); (try clear hb2); (try clear hk); (try clear hi)))
    go_meet
    case rel => exact ⟨_, (decide (a1 > 200000)), (by first | rfl | (simp; done) | (simp [*]; done)), H', ⟨by first | omega | exact Nat.le_refl _⟩, ⟨hb_ HB⟩⟩
  ·replace c5 := Bool.eq_false_iff.mpr c5
   subst c5
   have H1 : (impl_BestPieces.j0 k l0 a1 true) = some (r1, r2) := by rw [if_neg (show ¬ (false = true) by decide)] at H; exact H
   clear H
   have H := H1
   clear H1
   have H' := Aside0.mk H
   clear H
   go_wp2_with (first | ((with_reducible refine gate_callee (f := 68) rfl ?_); refine gl_ (some 10) Try.func68 #[.slice A0 l0.length c0] rfl rfl rfl ?_; (with_reducible refine (impl_arePieces.calls k _ _ l0 false _ ?side1 ?side2 A4.out).mono ?_); (case side1 => exact Kd.C_w HR0 HB); (case side2 => exact HC0.out); rintro e w9 ⟨rfl, hb⟩; refine ⟨_, rfl, ?_⟩; replace HB := hbs_ HB hb; (try clear hb); (try clear hb2); (try clear hk); (try clear hi)))
   go_meet
   case rel => exact ⟨_, (true), (by first | rfl | (simp; done) | (simp [*]; done)), H', ⟨by first | omega | exact Nat.le_refl _⟩, ⟨hb_ HB⟩⟩
 case rest =>
  clear HC3
  (try clear p2); (try clear c3); (try clear c5); (try clear c6); (try clear c6b0)
  obtain ⟨kq, x19_2, rfl, HA, HJ2, HB⟩ := hcut
  cases kq with
  | zero => exact absurd HA.out (by simp [impl_BestPieces.j0])
  | succ kj2 =>
   have H := HA.out
   clear HA
   simp only [impl_BestPieces.j0] at H
   by_cases c10 : x19_2 = true
   ·subst c10
    have H1 : (some (([] : List Int), false)) = some (r1, r2) := by rw [if_pos rfl] at H; exact H
    clear H
    have H := H1
    clear H1
    simp only [Option.some.injEq, Prod.mk.injEq] at H
    obtain ⟨rfl, rfl⟩ := H
    go_wp2
    go_ret2
    exact ⟨_, by first | rfl | (simp [errW_none, errW_some] <;> rfl) | (simp [*, errW_none, errW_some] <;> rfl), by first | exact Kd.R_nil _ _ _ _ _ | exact Kd.N_nil _ _ _ _ _ | exact Kd.V_nil _ _ _ _ _ | exact Kd.Q_nil _ _ _ _ _ | exact Kd.S_nil _ _ _ _ _, hb_ HB⟩
   ·replace c10 := Bool.eq_false_iff.mpr c10
    subst c10
    have H1 : ((impl_sortedPieces.f l0).bind fun t245 => (impl_BestPieces.l0 kj2 l0 a1 (([] : List Int)) t245 (t245.length : Int) 0)) = some (r1, r2) := by rw [if_neg (show ¬ (false = true) by decide)] at H; exact H
    clear H
    have H := H1
    clear H1
    obtain ⟨y242, hy242⟩ : ∃ y_ : List Int, y_ = (([] : List Int)) := ⟨_, rfl⟩
    replace H : ((impl_sortedPieces.f l0).bind fun t245 => (impl_BestPieces.l0 kj2 l0 a1 y242 t245 (t245.length : Int) 0)) = some (r1, r2) := by first | (rw [hy242]; with_reducible exact H) | (have H2_ := (Option.bind_some _ _).symm.trans H; rw [hy242]; with_reducible exact H2_) | (have H2_ := (Option.bind_some _ _).symm.trans H; with_reducible exact H2_) | with_reducible exact H | (rw [hy242]; exact H) | exact H
    have Ny242 := Aside0.mk hy242
    clear hy242
    replace H := Option.bind_eq_some_iff.mp H
    obtain ⟨t245, A110, H⟩ := H
    replace H : (impl_BestPieces.l0 kj2 l0 a1 y242 t245 (t245.length : Int) 0) = some (r1, r2) := H
    have A11 := Aside0.mk A110
    clear A110
    have H' := Aside0.mk H
    clear H
    go_wp2_with (first | ((with_reducible refine gate_dst (N := 20) rfl ?_); refine Kd.R_lit (Kd.int .i64) _ 3 ?hg (N := 20) ?hd (xs := ([] : List Int)) (inner := []) (ok := fun _ => True) (okp := fun _ => True) ?hr ?hp (fun _ hk => hk) trivial (Below.refl _ _) (Nat.le_refl _) (by simp) ?_; (case hd => rfl); (case hg => rfl); (case hr => first | (go_simp; done) | (go_simp; rfl)); (case hp => exact (Reps.none _ _)); intro v243 w12 ho13 hb hg_ hnew_; clear hg_ hnew_; (first | rw [← Ny242.out] at ho13 | (simp only [Int.reduceToNat] at ho13; rw [← Ny242.out] at ho13)); have HO244 := Kd.R_lo ho13 HB; replace HB := hbs_ HB hb; clear hb ho13) | ((with_reducible refine gate_callee (f := 76) rfl ?_); refine gl_ (some 22) Try.func76 #[.slice A0 l0.length c0] rfl rfl rfl ?_; (with_reducible refine (impl_sortedPieces.calls _ _ l0 t245 _ ?side1 ?side2 A11.out).mono ?_); (case side1 => exact Kd.C_w HR0 HB); (case side2 => exact HC0.out); rintro e w14 ⟨v246, rfl, ho0, hb⟩; refine ⟨_, rfl, ?_⟩; have HO247 := Kd.R_lo (Kd.R_nw ho0 HO244) HB; replace HO244 := Kd.R_e HO244 ho0 hb; replace HB := hbs_ HB hb; (try clear hb); (try clear hb2); (try clear hk); (try clear hi); (try clear ho0); obtain ⟨Ao15, co15, eo15⟩ := Kd.R_slice HO247.out; subst eo15))
    go_loopg [1, 6, 24] kj2 (fun kq v1 v6 v24 w' => ∃ (x1_2 : Int) (x6_2 : List Int) (x24_2 : Int), v1 = .int .i64 x1_2 ∧ v24 = .int .i64 x24_2 ∧ Aside0 (impl_BestPieces.l0 kq l0 x1_2 x6_2 t245 (t245.length : Int) x24_2 = some (r1, r2)) ∧ Aside0 (kq ≤ kj2) ∧ Aside0 (Kd.R (Kd.int .i64) 3 w' w.heap.size (fun k_ => some k_ ≠ ((.slice Ao15 t245.length co15) : Value).ownBlock) v6 x6_2) ∧ Aside0 (Kd.R (Kd.int .i64) 3 w' w.heap.size (fun k_ => some k_ ≠ (v6 : Value).ownBlock) (.slice Ao15 t245.length co15) t245) ∧ Aside0 (Below w.heap.size w w'))
    case atStart => exact ⟨(a1), (y242), (0), (by first | rfl | (simp; done) | (simp [*]; done)), (by first | rfl | (simp; done) | (simp [*]; done)), H', ⟨Nat.le_refl _⟩, ⟨Kd.R_pp (Kd.R_mono HO244.out (fun _ hk => hk.2))⟩, ⟨Kd.R_pp (Kd.R_mono HO247.out (fun _ hk => hk.2))⟩, ⟨hb_ HB⟩⟩
    case round =>
     clear H'
     (try clear c1); (try clear p2); (try clear c3); (try clear c5); (try clear c6); (try clear c6b0); (try clear c7); (try clear c10)
     obtain ⟨x1_2, x6_2, x24_2, rfl, rfl, HA, HK2, HO_6, HO_22, HB⟩ := hrel
     cases gk with
     | zero => exact absurd HA.out (by simp [impl_BestPieces.l0])
     | succ k2 =>
      have H := HA.out
      clear HA
      simp only [impl_BestPieces.l0] at H
      by_cases c16 : x24_2 < (t245.length : Int)
      ·rw [if_pos c16] at H
       have c16b0 : decide (x24_2 < (t245.length : Int)) = true := decide_eq_true c16
       clear c16
       by_cases c17 : 0 ≤ x24_2
       ·rw [if_pos c17] at H
        have c17b0 : decide (0 ≤ x24_2) = true := decide_eq_true c17
        clear c17
        by_cases c18 : x24_2 < (t245.length : Int)
        ·rw [if_pos c18] at H
         have c18b0 : decide (x24_2 < (t245.length : Int)) = true := decide_eq_true c18
         clear c18
         by_cases c19 : x1_2 ≤ 0
         ·rw [if_pos c19] at H
          have c19b0 : decide (x1_2 ≤ 0) = true := decide_eq_true c19
          clear c19
          by_cases c20 : x1_2 > 0
          ·rw [if_pos c20] at H
           have c20b0 : decide (0 < x1_2) = true := decide_eq_true c20
           clear c20
           simp only [Option.some.injEq, Prod.mk.injEq] at H
           obtain ⟨rfl, rfl⟩ := H
           have p248 : 0 ≤ (x24_2 : Int) := of_decide_eq_true (by first | (with_reducible assumption) | assumption)
           have q248 : x24_2 < (t245.length : Int) := of_decide_eq_true (by first | (with_reducible assumption) | assumption)
           obtain ⟨ad248, e248, hx248_0⟩ := Kd.at_int (Kd.R_reads' HO_22.out).2.2 x24_2 p248 q248
           cases e248
           replace p248 := eq_true p248
           replace q248 := eq_true q248
           go_wp2
           go_ret2
           exact ⟨_, by first | rfl | (simp [errW_none, errW_some] <;> rfl) | (simp [*, errW_none, errW_some] <;> rfl), by first | exact Kd.R_nil _ _ _ _ _ | exact Kd.N_nil _ _ _ _ _ | exact Kd.V_nil _ _ _ _ _ | exact Kd.Q_nil _ _ _ _ _ | exact Kd.S_nil _ _ _ _ _, hb_ HB⟩
          ·rw [if_neg c20] at H
           have c20b0 : decide (0 < x1_2) = false := decide_eq_false c20
           clear c20
           replace H := Option.bind_eq_some_iff.mp H
           obtain ⟨t249, A210, H⟩ := H
           replace H : (some (t249, true)) = some (r1, r2) := H
           have A21 := Aside0.mk A210
           clear A210
           simp only [Option.some.injEq, Prod.mk.injEq] at H
           obtain ⟨rfl, rfl⟩ := H
           have p248 : 0 ≤ (x24_2 : Int) := of_decide_eq_true (by first | (with_reducible assumption) | assumption)
           have q248 : x24_2 < (t245.length : Int) := of_decide_eq_true (by first | (with_reducible assumption) | assumption)
           obtain ⟨ad248, e248, hx248_0⟩ := Kd.at_int (Kd.R_reads' HO_22.out).2.2 x24_2 p248 q248
           cases e248
           replace p248 := eq_true p248
           replace q248 := eq_true q248
           obtain ⟨Ao22, co22, eo22⟩ := Kd.R_slice HO_6.out
           subst eo22
           go_wp2_with (first | ((with_reducible refine gate_callee (f := 86) rfl ?_); refine gl_ (some 45) Try.func86 #[.slice Ao22 x6_2.length co22] rfl rfl rfl ?_; (with_reducible refine (slices_Sort_int_int.calls (fun k_ => some k_ = (.slice Ao22 x6_2.length co22 : Value).ownBlock) (.slice Ao22 x6_2.length co22) x6_2 t249 w _ ?side1 ?side2 A21.out).mono ?_); (case side1 => exact hb_ HB); (case side2 => exact Kd.R_tight rfl HO_6.out); rintro e w23 ⟨rfl, hy0, hb, hkp⟩; refine ⟨_, rfl, ?_⟩; replace HO_6 := Aside0.mk (Kd.R_reok rfl hy0 (fun k_ e_ => HO_6.out.1 k_ e_)); replace HO_22 := Aside0.mk (Kd.R_mono (ok' := fun k_ => some k_ ≠ (.slice Ao22 x6_2.length co22 : Value).ownBlock) (Kd.R_keptB (HO_22.out) hkp (fun k_ hk_ hs_ => (hk_) hs_)) (fun k_ hk_ => hk_.1)); replace HB := Aside0.mk (hb); (try clear hb); (try clear hkp); (try clear hy0)))
           go_ret2
           exact ⟨_, by first | rfl | (simp [errW_none, errW_some] <;> rfl) | (simp [*, errW_none, errW_some] <;> rfl), Kd.R_pp (Kd.R_mono HO_6.out (fun _ hk => trivial)), hb_ HB⟩
         ·rw [if_neg c19] at H
          have c19b0 : decide (x1_2 ≤ 0) = false := decide_eq_false c19
          clear c19
          by_cases c24 : x6_2.length < 17592186044416
          ·rw [if_pos c24] at H
           have LMc24 := Aside0.mk c24
           clear c24
           obtain ⟨y250, hy250⟩ : ∃ y_ : List Int, y_ = (x6_2 ++ [rd t245 x24_2]) := ⟨_, rfl⟩
           replace H : (if 0 ≤ (rd t245 x24_2) then (if (rd t245 x24_2) < (l0.length : Int) then (impl_BestPieces.l0 k2 l0 (wrap64 (x1_2 - ((rd_T29 l0 (rd t245 x24_2)).f0))) y250 t245 (t245.length : Int) (wrap64 (x24_2 + 1))) else (none)) else (none)) = some (r1, r2) := by first | (rw [hy250]; with_reducible exact H) | (have H2_ := (Option.bind_some _ _).symm.trans H; rw [hy250]; with_reducible exact H2_) | (have H2_ := (Option.bind_some _ _).symm.trans H; with_reducible exact H2_) | with_reducible exact H | (rw [hy250]; exact H) | exact H
           have Ny250 := Aside0.mk hy250
           clear hy250
           by_cases c25 : 0 ≤ (rd t245 x24_2)
           ·rw [if_pos c25] at H
            have c25b0 : decide (0 ≤ (rd t245 x24_2)) = true := decide_eq_true c25
            clear c25
            by_cases c26 : (rd t245 x24_2) < (l0.length : Int)
            ·rw [if_pos c26] at H
             have c26b0 : decide ((rd t245 x24_2) < (l0.length : Int)) = true := decide_eq_true c26
             clear c26
             have H' := Aside0.mk H
             clear H
             have p248 : 0 ≤ (x24_2 : Int) := of_decide_eq_true (by first | (with_reducible assumption) | assumption)
             have q248 : x24_2 < (t245.length : Int) := of_decide_eq_true (by first | (with_reducible assumption) | assumption)
             obtain ⟨ad248, e248, hx248_0⟩ := Kd.at_int (Kd.R_reads' HO_22.out).2.2 x24_2 p248 q248
             cases e248
             replace p248 := eq_true p248
             replace q248 := eq_true q248
             go_wp2_with (first | ((with_reducible refine gate_builtin (b := .append) (xs := #[.tmp 30, .tmp 32]) rfl ?_); at_builtin; refine Kd.R_append (Kd.int .i64) (w0 := w) w.heap.size rfl (.tmp 30) (.tmp 32) 24 3 (.int .i64 0) 8 rfl Try.underlying24 info3 rfl (by decide) (by omega) u6 x6_2 (rd t245 x24_2) [.int .i64 (rd t245 x24_2)] (fun k_ => some k_ ≠ (.slice (some ad248) t245.length co15 : Value).ownBlock) (fun _ => False) rfl rfl ?aP (fun _ hk => hk.elim) ?aF ?aO ?aB ?aS ?aL ?_; (case aP => exact rfl); (case aB => exact (hb_ HB)); (case aF => exact (fun k_ hk => Kd.fresh' (Kd.R_lt (Kd.R_p HO_22)) k_ hk)); (case aO => exact (Kd.R_p HO_6)); (case aS => exact (below_size (hb_ HB))); (case aL => have := LMc24.out; omega); intro v251 w27 ho hb hg hat; rw [← Ny250.out] at ho; have HO252 := Aside0.mk (ho); replace HO_22 := Aside0.mk (Kd.R_after (ok := (fun _ => True)) (Kd.R_pp (Kd.R_mono HO_22.out (fun _ hk => ⟨trivial, hk⟩))) hg hat); replace HB := Aside0.mk (hb); clear HO_6; clear ho hb hg hat; have p253 : 0 ≤ ((rd t245 x24_2) : Int) := of_decide_eq_true (by first | (with_reducible assumption) | assumption); have q253 : (rd t245 x24_2) < (l0.length : Int) := of_decide_eq_true (by first | (with_reducible assumption) | assumption); obtain ⟨ad253, e253, hx253_0, hx253_1, hx253_2⟩ := at_T29 HR0.out (rd t245 x24_2) p253 q253; cases e253; replace hx253_0 := (HB.out.cell (World.block_lt_of_cell? w _ hx253_0)).trans hx253_0; replace hx253_1 := (HB.out.cell (World.block_lt_of_cell? w _ hx253_1)).trans hx253_1; replace hx253_2 := (HB.out.cell (World.block_lt_of_cell? w _ hx253_2)).trans hx253_2; replace p253 := eq_true p253; replace q253 := eq_true q253))
             go_roundg k2
             case measure => have := HJ2.out; have := HK2.out; omega
             case rel => exact ⟨(wrap64 (x1_2 - ((rd_T29 l0 (rd t245 x24_2)).f0))), (y250), (wrap64 (x24_2 + 1)), (by first | rfl | (simp; done) | (simp [*]; done)), (by first | rfl | (simp; done) | (simp [*]; done)), H', ⟨by have := HJ2.out; have := HK2.out; omega⟩, ⟨Kd.R_p HO252⟩, ⟨Kd.R_pp (Kd.R_mono HO_22.out (fun _ hk => hk.2))⟩, ⟨hb_ HB⟩⟩
            ·rw [if_neg c26] at H
             exact absurd H (by simp)
           ·rw [if_neg c25] at H
            exact absurd H (by simp)
          ·rw [if_neg c24] at H
           exact absurd H (by simp)
        ·rw [if_neg c18] at H
         exact absurd H (by simp)
       ·rw [if_neg c17] at H
        exact absurd H (by simp)
      ·rw [if_neg c16] at H
       have c16b0 : decide (x24_2 < (t245.length : Int)) = false := decide_eq_false c16
       clear c16
       by_cases c28 : x1_2 > 0
       ·rw [if_pos c28] at H
        have c28b0 : decide (0 < x1_2) = true := decide_eq_true c28
        clear c28
        simp only [Option.some.injEq, Prod.mk.injEq] at H
        obtain ⟨rfl, rfl⟩ := H
        go_wp2
        go_ret2
        exact ⟨_, by first | rfl | (simp [errW_none, errW_some] <;> rfl) | (simp [*, errW_none, errW_some] <;> rfl), by first | exact Kd.R_nil _ _ _ _ _ | exact Kd.N_nil _ _ _ _ _ | exact Kd.V_nil _ _ _ _ _ | exact Kd.Q_nil _ _ _ _ _ | exact Kd.S_nil _ _ _ _ _, hb_ HB⟩
       ·rw [if_neg c28] at H
        have c28b0 : decide (0 < x1_2) = false := decide_eq_false c28
        clear c28
        replace H := Option.bind_eq_some_iff.mp H
        obtain ⟨t254, A290, H⟩ := H
        replace H : (some (t254, true)) = some (r1, r2) := H
        have A29 := Aside0.mk A290
        clear A290
        simp only [Option.some.injEq, Prod.mk.injEq] at H
        obtain ⟨rfl, rfl⟩ := H
        obtain ⟨Ao30, co30, eo30⟩ := Kd.R_slice HO_6.out
        subst eo30
        go_wp2_with (first | ((with_reducible refine gate_callee (f := 86) rfl ?_); refine gl_ (some 45) Try.func86 #[.slice Ao30 x6_2.length co30] rfl rfl rfl ?_; (with_reducible refine (slices_Sort_int_int.calls (fun k_ => some k_ = (.slice Ao30 x6_2.length co30 : Value).ownBlock) (.slice Ao30 x6_2.length co30) x6_2 t254 w _ ?side1 ?side2 A29.out).mono ?_); (case side1 => exact hb_ HB); (case side2 => exact Kd.R_tight rfl HO_6.out); rintro e w31 ⟨rfl, hy0, hb, hkp⟩; refine ⟨_, rfl, ?_⟩; replace HO_6 := Aside0.mk (Kd.R_reok rfl hy0 (fun k_ e_ => HO_6.out.1 k_ e_)); replace HO_22 := Aside0.mk (Kd.R_mono (ok' := fun k_ => some k_ ≠ (.slice Ao30 x6_2.length co30 : Value).ownBlock) (Kd.R_keptB (HO_22.out) hkp (fun k_ hk_ hs_ => (hk_) hs_)) (fun k_ hk_ => hk_.1)); replace HB := Aside0.mk (hb); (try clear hb); (try clear hkp); (try clear hy0)))
        go_ret2
        exact ⟨_, by first | rfl | (simp [errW_none, errW_some] <;> rfl) | (simp [*, errW_none, errW_some] <;> rfl), Kd.R_pp (Kd.R_mono HO_6.out (fun _ hk => trivial)), hb_ HB⟩

end Go.Proofs.Ytceajigggcihnaa.PFnExactBestPieces
