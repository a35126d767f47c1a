-- Laid for this claim by wip/tools/print2.sh, a changed copy of the kit's print (wip/tools/patch_print.py): not by print.sh.
import Derived.Test.YthphbkkkbolcnaaGreatDoorPFnModelsx0
import Derived.Test.YthphbkkkbolcnaaGreatDoorVFnModels
namespace Go.Proofs.YthphbkkkbolcnaaGreatDoor.PFnModels
set_option maxHeartbeats 8000000
set_option maxRecDepth 100000
open Go.RowKit Go.Proofs.YthphbkkkbolcnaaGreatDoorW.PrintWords Go.Proofs.YthphbkkkbolcnaaGreatDoorW.PrintLast Go.Proofs.YthphbkkkbolcnaaGreatDoorW.PrintMore
set_option linter.unusedVariables false
set_option linter.unusedSimpArgs false

/-! ### laws_big: function 4 -/
def laws_big.f (l0 : List Int) (l1 : List Int) : Option (Bool) := if (l0.length : Int) > 1048576 then (some true) else (some (decide ((l1.length : Int) > (wrap64 (1048576 - (l0.length : Int))))))
theorem laws_big.calls (A0 : Option Addr) (c0 : Nat) (l0 : List Int) (A1 : Option Addr) (c1 : Nat) (l1 : List Int) (r : Bool) (w : World) (hr0 : Kd.C (Kd.int .u8) w A0 l0.length l0) (hc0 : l0.length ≤ c0) (hr1 : Kd.C (Kd.int .u8) w A1 l1.length l1) (hc1 : l1.length ≤ c1) (h : laws_big.f l0 l1 = some r) :
  Calls Tryz.prog 4 #[.slice A0 l0.length c0, .slice A1 l1.length c1] w fun e w' => e = .returned (.bool r) ∧ Drawn0 w w' := by
 have HR0 := am_ hr0
 have HC0 := am_ hc0
 clear hr0 hc0
 have HR1 := am_ hr1
 have HC1 := am_ hc1
 clear hr1 hc1
 have H := h
 unfold laws_big.f at H
 clear h
 by_cases c3 : (l0.length : Int) > 1048576
 ·rw [if_pos c3] at H
  have c3b0 : decide (1048576 < (l0.length : Int)) = true := decide_eq_true c3
  have c3b1 : decide (1048576 < l0.length) = true := decide_eq_true (by omega)
  clear c3
  obtain rfl := Option.some.inj H
  go_enter Tryz.func4, Tryz.ntmps4
  go_wp2
  go_ret
  exact ⟨by first | rfl | (simp; done) | (simp [*]; done), by repeat (first | exact Drawn0.refl _ | apply Drawn0.step)⟩
 rw [if_neg c3] at H
 have c3b0 : decide (1048576 < (l0.length : Int)) = false := decide_eq_false c3
 have c3b1 : decide (1048576 < l0.length) = false := decide_eq_false (by omega)
 clear c3
 obtain rfl := Option.some.inj H
 go_enter Tryz.func4, Tryz.ntmps4
 go_wp2
 go_ret
 exact ⟨by first | rfl | (simp; done) | (simp [*]; done), by repeat (first | exact Drawn0.refl _ | apply Drawn0.step)⟩

/-! ### spec_grCount: function 59 -/
def spec_grCount.f (a0_0 : Int) (a0_1 : Int) (a0_2 : Int) : Option (Int) := some (wrap64 ((wrap64 (a0_0 * a0_1)) * a0_2))
theorem spec_grCount.calls (a0_0 : Int) (a0_1 : Int) (a0_2 : Int) (r : Int) (w : World) (h : spec_grCount.f a0_0 a0_1 a0_2 = some r) :
  Calls Tryz.prog 59 #[.agg #[.int .i64 a0_0, .int .i64 a0_1, .int .i64 a0_2]] w fun e w' => e = .returned (.int .i64 r) ∧ Below w.heap.size w w' := by
 have hu25 := Tryz.underlying25
 have HB := am_ (Below.refl w.heap.size w)
 have H := h
 unfold spec_grCount.f at H
 clear h
 obtain rfl := Option.some.inj H
 go_enter Tryz.func59, Tryz.ntmps59
 go_wp2_with (first | ((with_reducible refine gate_dst (N := 1) rfl ?_); refine bv_ 1 (cs := #[.int .i64 a0_0, .int .i64 a0_1, .int .i64 a0_2]) (t := 25) ?_; intro gb101 hg w2 hbox hb; have BK101 := am_ (hbox); have GW101 := gs_ hg HB; have GE101 := gs_ hg HB; replace HB := hbs_ HB hb; clear hb hbox hg; obtain ⟨hcz3_0, hcz3_1, hcz3_2, hfz3_0, hfz3_1, hfz3_2⟩ := bx3 BK101))
 go_ret
 exact ad_ (hb_ HB)

/-- A state of type 75 at block g of W; what its slices lead to came in by w0. -/
def IsS75 (w0 W : World) (g : Nat) (f0 : List Int) (f1 : Int) (f2 : Int) : Prop := ∃ A0 c0, W.heap[g]? = some (.cells #[.slice A0 f0.length c0, .int .i64 f1, .int .u64 f2] 75 (0, 0)) ∧ w0.heap.size ≤ g ∧ Kd.C (Kd.int .u8) w0 A0 f0.length f0
theorem IsS75.grown {w0 W : World} {g : Nat} {f0 : List Int} {f1 : Int} {f2 : Int} {W1 : World} {row : Option Nat} (h : IsS75 w0 W g f0 f1 f2) (hw : W.grownBy W1 row) (hne : some g ≠ row) : IsS75 w0 W1 g f0 f1 f2 := by
 obtain ⟨A0, c0, hb, hg, hr0⟩ := h
 exact ⟨A0, c0, blk_grown hb hw hne, hg, hr0⟩
theorem IsS75.own_neN {w0 W : World} {g : Nat} {f0 : List Int} {f1 : Int} {f2 : Int} {α : Type} {d : Kd α} {e : Nat} {base : Nat} {ok : Nat → Prop} {v : Value} {xs : List α} (h : IsS75 w0 W g f0 f1 f2) (ho : Kd.N d e W base ok v xs) (ht : e ≠ 75) : some g ≠ v.ownBlock := by
 obtain ⟨A0, c0, hb, hg, hr0⟩ := h
 exact Kd.N_ne ho hb ht
theorem IsS75.fresh {w0 W : World} {g : Nat} {f0 : List Int} {f1 : Int} {f2 : Int} (h : IsS75 w0 W g f0 f1 f2) : ∀ k, W.heap.size ≤ k → k ≠ g := by
 obtain ⟨A0, c0, hb, hg, hr0⟩ := h
 exact Kd.freshB hb
theorem IsS75.kept {w0 W : World} {g : Nat} {f0 : List Int} {f1 : Int} {f2 : Int} {W1 : World} {S : Nat → Prop} (h : IsS75 w0 W g f0 f1 f2) (hk : Kept W W1 S) (hne : ¬ S g) : IsS75 w0 W1 g f0 f1 f2 := by
 obtain ⟨A0, c0, hb, hg, hr0⟩ := h
 exact ⟨A0, c0, blk_kept hb hk hne, hg, hr0⟩
theorem IsS75.below {w0 W : World} {g : Nat} {f0 : List Int} {f1 : Int} {f2 : Int} {W1 : World} (h : IsS75 w0 W g f0 f1 f2) (hw : Below W.heap.size W W1) : IsS75 w0 W1 g f0 f1 f2 := h.grown (grown_of_below hw none) (by simp)
theorem IsS75.alloc {w0 W : World} {g : Nat} {f0 : List Int} {f1 : Int} {f2 : Int} (h : IsS75 w0 W g f0 f1 f2) (o : Obj) : IsS75 w0 (W.alloc o) g f0 f1 f2 := h.below (below_alloc (Below.refl _ _) o)
theorem IsS75.drewN {w0 W : World} {g : Nat} {f0 : List Int} {f1 : Int} {f2 : Int} (h : IsS75 w0 W g f0 f1 f2) (m : Nat) : IsS75 w0 (W.drewN m) g f0 f1 f2 := h
theorem IsS75.drew {w0 W : World} {g : Nat} {f0 : List Int} {f1 : Int} {f2 : Int} (h : IsS75 w0 W g f0 f1 f2) : IsS75 w0 W.drew g f0 f1 f2 := h
theorem IsS75.at_ {w0 W : World} {g : Nat} {f0 : List Int} {f1 : Int} {f2 : Int} {w' : World} {m : Nat} (hq : W.drewN m = w') (h : IsS75 w0 W g f0 f1 f2) : IsS75 w0 w' g f0 f1 f2 := by subst hq; exact IsS75.drewN h m
theorem IsS75.apart {w0 W : World} {g : Nat} {f0 : List Int} {f1 : Int} {f2 : Int} {α : Type} {d : Kd α} {e : Nat} {base : Nat} {ok : Nat → Prop} {v : Value} {xs : List α} (h : IsS75 w0 W g f0 f1 f2) (ho : d.R e W base ok v xs) (ht : ∀ q, q ∈ e :: d.E → q ≠ 75) : d.R e W base (fun k => ok k ∧ k ≠ g) v xs := by
 obtain ⟨A0, c0, hb, hg, hr0⟩ := h
 exact Kd.R_types ho hb ht
theorem IsS75.own_ne {w0 W : World} {g : Nat} {f0 : List Int} {f1 : Int} {f2 : Int} {α : Type} {d : Kd α} {e : Nat} {base : Nat} {ok : Nat → Prop} {v : Value} {xs : List α} (h : IsS75 w0 W g f0 f1 f2) (ho : d.R e W base ok v xs) (ht : e ≠ 75) : some g ≠ v.ownBlock := by
 obtain ⟨A0, c0, hb, hg, hr0⟩ := h
 exact Kd.R_ne ho hb ht
theorem IsS75.apartQ {w0 W : World} {g : Nat} {f0 : List Int} {f1 : Int} {f2 : Int} {α : Type} {d : Kd α} {e : Nat} {base : Nat} {ok : Nat → Prop} {v : Value} {xs : List α} (h : IsS75 w0 W g f0 f1 f2) (ho : d.Q e W base ok v xs) (ht : ∀ q, q ∈ e :: d.E → q ≠ 75) : d.Q e W base (fun k => ok k ∧ k ≠ g) v xs := by
 obtain ⟨A0, c0, hb, hg, hr0⟩ := h
 exact Kd.Q_types ho hb ht
theorem IsS75.own_neQ {w0 W : World} {g : Nat} {f0 : List Int} {f1 : Int} {f2 : Int} {α : Type} {d : Kd α} {e : Nat} {base : Nat} {ok : Nat → Prop} {v : Value} {xs : List α} (h : IsS75 w0 W g f0 f1 f2) (ho : d.Q e W base ok v xs) (ht : e ≠ 75) : some g ≠ v.ownBlock := by
 obtain ⟨A0, c0, hb, hg, hr0⟩ := h
 exact Kd.Q_ne ho hb ht
theorem IsS75.apartS {w0 W : World} {g : Nat} {f0 : List Int} {f1 : Int} {f2 : Int} {α : Type} {d : Kd α} {e : Nat} {base : Nat} {ok : Nat → Prop} {v : Value} {xs : List α} (h : IsS75 w0 W g f0 f1 f2) (ho : d.S e W base ok v xs) (ht : ∀ q, q ∈ e :: d.E → q ≠ 75) : d.S e W base (fun k => ok k ∧ k ≠ g) v xs := by
 obtain ⟨A0, c0, hb, hg, hr0⟩ := h
 exact Kd.S_types ho hb ht
theorem IsS75.own_neS {w0 W : World} {g : Nat} {f0 : List Int} {f1 : Int} {f2 : Int} {α : Type} {d : Kd α} {e : Nat} {base : Nat} {ok : Nat → Prop} {v : Value} {xs : List α} (h : IsS75 w0 W g f0 f1 f2) (ho : d.S e W base ok v xs) (ht : e ≠ 75) : some g ≠ v.ownBlock := by
 obtain ⟨A0, c0, hb, hg, hr0⟩ := h
 exact Kd.S_ne ho hb ht
theorem IsS75.lt {w0 W : World} {g : Nat} {f0 : List Int} {f1 : Int} {f2 : Int} (h : IsS75 w0 W g f0 f1 f2) : g < W.heap.size := by
 obtain ⟨A0, c0, hb, hg, hr0⟩ := h
 exact blk_lt hb
theorem IsS75.ge {w0 W : World} {g : Nat} {f0 : List Int} {f1 : Int} {f2 : Int} (h : IsS75 w0 W g f0 f1 f2) : w0.heap.size ≤ g := by
 obtain ⟨A0, c0, hb, hg, hr0⟩ := h
 exact hg
theorem IsS75.ne_blk {w0 W : World} {g : Nat} {f0 : List Int} {f1 : Int} {f2 : Int} {a : Nat} {cs : Array Value} {t : TypeId} {fr : Nat × Nat} (h : IsS75 w0 W g f0 f1 f2) (hb2 : W.heap[a]? = some (.cells cs t fr)) (ht : t ≠ 75) : g ≠ a := by
 obtain ⟨A0, c0, hb, hg, hr0⟩ := h
 rintro rfl
 rw [hb] at hb2
 injection hb2 with hb2
 injection hb2 with _ ht2
 exact ht ht2.symm
theorem IsS75.far {w0 W : World} {g : Nat} {f0 : List Int} {f1 : Int} {f2 : Int} {p : Addr} (h : IsS75 w0 W g f0 f1 f2) (hne : g ≠ p.block) (u : Value) : IsS75 w0 (W.setCell p u) g f0 f1 f2 := by
 obtain ⟨A0, c0, hb, hg, hr0⟩ := h
 exact ⟨A0, c0, blk_far hb hne u, hg, hr0⟩
theorem cellS75_0 {W : World} {g : Nat} {A0 : Option Addr} {c0 : Nat} {f0 : List Int} {f1 : Int} {f2 : Int} (h : W.heap[g]? = some (.cells #[.slice A0 f0.length c0, .int .i64 f1, .int .u64 f2] 75 (0, 0))) : W.cell? ⟨g, 0, none⟩ = some (.slice A0 f0.length c0) := (blk_cell h 0).trans rfl
theorem cellS75_1 {W : World} {g : Nat} {A0 : Option Addr} {c0 : Nat} {f0 : List Int} {f1 : Int} {f2 : Int} (h : W.heap[g]? = some (.cells #[.slice A0 f0.length c0, .int .i64 f1, .int .u64 f2] 75 (0, 0))) : W.cell? ⟨g, 1, none⟩ = some (.int .i64 f1) := (blk_cell h 1).trans rfl
theorem IsS75.set_1 {w0 W : World} {g : Nat} {f0 : List Int} {f1 : Int} {f2 : Int} (h : IsS75 w0 W g f0 f1 f2) (x : Int) : IsS75 w0 (W.setCell ⟨g, 1, none⟩ (.int .i64 x)) g f0 x f2 := by
 obtain ⟨A0, c0, hb, hg, hr0⟩ := h
 exact ⟨A0, c0, by simpa using blk_set hb 1 (.int .i64 x), hg, hr0⟩
theorem cellS75_2 {W : World} {g : Nat} {A0 : Option Addr} {c0 : Nat} {f0 : List Int} {f1 : Int} {f2 : Int} (h : W.heap[g]? = some (.cells #[.slice A0 f0.length c0, .int .i64 f1, .int .u64 f2] 75 (0, 0))) : W.cell? ⟨g, 2, none⟩ = some (.int .u64 f2) := (blk_cell h 2).trans rfl
theorem IsS75.set_2 {w0 W : World} {g : Nat} {f0 : List Int} {f1 : Int} {f2 : Int} (h : IsS75 w0 W g f0 f1 f2) (x : Int) : IsS75 w0 (W.setCell ⟨g, 2, none⟩ (.int .u64 x)) g f0 f1 x := by
 obtain ⟨A0, c0, hb, hg, hr0⟩ := h
 exact ⟨A0, c0, by simpa using blk_set hb 2 (.int .u64 x), hg, hr0⟩
theorem IsS75.new (w0 W : World) (A0 : Option Addr) (c0 : Nat) (f0 : List Int) (f1 : Int) (f2 : Int) (hB : Below w0.heap.size w0 W) (hr0 : Kd.C (Kd.int .u8) w0 A0 f0.length f0) : IsS75 w0 (W.alloc (.cells #[.slice A0 f0.length c0, .int .i64 f1, .int .u64 f2] 75)) W.heap.size f0 f1 f2 := ⟨A0, c0, by simpa using heap_alloc_new W _, hB.size, hr0⟩
theorem IsS75.farA {w0 W : World} {g a i : Nat} {f0 : List Int} {f1 : Int} {f2 : Int} {u : Value} (h : IsS75 w0 W g f0 f1 f2) (hn : Aside0 (g ≠ a)) : IsS75 w0 (W.setCell ⟨a, i, none⟩ u) g f0 f1 f2 := IsS75.far (p := ⟨a, i, none⟩) h hn.out u
theorem IsS75.q {w0 W W1 : World} {g : Nat} {f0 : List Int} {f1 : Int} {f2 : Int} {f0' : List Int} {f1' : Int} {f2' : Int} (h : Aside0 (IsS75 w0 W g f0 f1 f2)) (hq : IsS75 w0 W g f0 f1 f2 → IsS75 w0 W1 g f0' f1' f2' := by intro h_; repeat (first | (with_reducible first | exact h_ | apply IsS75.alloc | apply IsS75.drewN | apply IsS75.drew | apply IsS75.set_1 | apply IsS75.set_2 | refine IsS75.farA ?_ (by assumption)) | exact h_)) : IsS75 w0 W1 g f0' f1' f2' := hq h.out
theorem IsS75.b {w0 W W1 W2 : World} {g : Nat} {f0 : List Int} {f1 : Int} {f2 : Int} {f0' : List Int} {f1' : Int} {f2' : Int} (h : Aside0 (IsS75 w0 W g f0 f1 f2)) (hb : Below W1.heap.size W1 W2) (hq : IsS75 w0 W g f0 f1 f2 → IsS75 w0 W1 g f0' f1' f2' := by intro h_; repeat (first | (with_reducible first | exact h_ | apply IsS75.alloc | apply IsS75.drewN | apply IsS75.drew | apply IsS75.set_1 | apply IsS75.set_2 | refine IsS75.farA ?_ (by assumption)) | exact h_)) : Aside0 (IsS75 w0 W2 g f0' f1' f2') := ⟨IsS75.below (hq h.out) hb⟩
theorem IsS75.rk {w0 W W1 W2 : World} {g : Nat} {f0 : List Int} {f1 : Int} {f2 : Int} {α : Type} {d : Kd α} {e : Nat} {base : Nat} {ok : Nat → Prop} {v : Value} {xs : List α} (hI : Aside0 (IsS75 w0 W g f0 f1 f2)) (h : Aside0 (d.R e W base ok v xs)) (hk : KeepBut W1 W2 g none) (hq : Below W.heap.size W W1 := by repeat (first | (with_reducible first | exact Below.refl _ _ | apply below_alloc | apply pw_below_drewN | apply below_drew1) | exact Below.refl _ _)) (ht : ∀ q, q ∈ e :: d.E → q ≠ 75 := by decide) : Aside0 (d.R e W2 base ok v xs) := ⟨Kd.R_mono (Kd.R_keep (Kd.R_below (IsS75.apart hI.out h.out ht) hq) hk (fun _ h => h.2)) (fun _ h => h.1)⟩

/-! ### spec_l1Cur_next: function 87 -/
def spec_l1Cur_next.f (s0_0 : List Int) (s0_1 : Int) (s0_2 : Int) : Option (Int × Int × Int) := if s0_1 < (s0_0.length : Int) then (if 0 ≤ s0_1 then (if (wrap64 (s0_1 + 1)) ≤ (s0_0.length : Int) then (some (wrap64 (rd s0_0 s0_1), wrap64 (s0_1 + 1), IntKind.u64.wrap ((IntKind.u64.wrap ((IntKind.u64.wrap (s0_2 * 6364136223846793005)) + (IntKind.u64.wrap (wrap64 (rd s0_0 s0_1))))) + 1442695040888963407))) else (some (wrap64 (Go.bits .and .u64 ((IntKind.u64.wrap ((IntKind.u64.wrap ((IntKind.u64.wrap (s0_2 * 6364136223846793005)) + (IntKind.u64.wrap (wrap64 (rd s0_0 s0_1))))) + 1442695040888963407)) / 1099511627776) 255), wrap64 (s0_1 + 1), IntKind.u64.wrap ((IntKind.u64.wrap ((IntKind.u64.wrap (s0_2 * 6364136223846793005)) + (IntKind.u64.wrap (wrap64 (rd s0_0 s0_1))))) + 1442695040888963407)))) else (none)) else (if (wrap64 (s0_1 + 1)) ≤ (s0_0.length : Int) then (some (0, wrap64 (s0_1 + 1), IntKind.u64.wrap ((IntKind.u64.wrap (IntKind.u64.wrap (s0_2 * 6364136223846793005))) + 1442695040888963407))) else (some (wrap64 (Go.bits .and .u64 ((IntKind.u64.wrap ((IntKind.u64.wrap (IntKind.u64.wrap (s0_2 * 6364136223846793005))) + 1442695040888963407)) / 1099511627776) 255), wrap64 (s0_1 + 1), IntKind.u64.wrap ((IntKind.u64.wrap (IntKind.u64.wrap (s0_2 * 6364136223846793005))) + 1442695040888963407))))
theorem spec_l1Cur_next.calls (g : Nat) (s0_0 : List Int) (s0_1 : Int) (s0_2 : Int) (r1 : Int) (r2 : Int) (r3 : Int) (w0 w : World) (hI : IsS75 w0 w g s0_0 s0_1 s0_2) (hB : Below w0.heap.size w0 w) (h : spec_l1Cur_next.f s0_0 s0_1 s0_2 = some (r1, r2, r3)) :
  Calls Tryz.prog 87 #[.pointer (some ⟨g, 0, none⟩)] w fun e w' => e = .returned (.int .i64 r1) ∧ IsS75 w0 w' g s0_0 r2 r3 ∧ Below w0.heap.size w0 w' ∧ KeepBut w w' g none := by
 have HI0 := am_ hI
 have HK := am_ (KeepBut.refl w g none)
 have HL := am_ hB.size
 clear hI
 have HW0 := am_ hB.size
 have HB := am_ hB
 clear hB
 have H := h
 unfold spec_l1Cur_next.f at H
 clear h
 by_cases c2 : s0_1 < (s0_0.length : Int)
 ·rw [if_pos c2] at H
  have c2b0 := decide_eq_true c2
  clear c2
  revert H; refine pd_ fun c3b0 H => ?_
  by_cases c4 : (wrap64 (s0_1 + 1)) ≤ (s0_0.length : Int)
  ·rw [if_pos c4] at H
   have c4b0 := decide_eq_true c4
   clear c4
   simp only [Option.some.injEq, Prod.mk.injEq] at H
   obtain ⟨rfl, rfl, rfl⟩ := H
   obtain ⟨ASz5_0, cSz5_0, HGz5, hgz5, HSz5_0⟩ := HI0.out
   have hcz5_0 := cellS75_0 HGz5
   have hcz5_1 := cellS75_1 HGz5
   have hcz5_2 := cellS75_2 HGz5
   have hfz5_1 := blk_frozen HGz5 1
   have hfz5_2 := blk_frozen HGz5 2
   clear HGz5 hgz5
   have p102 : 0 ≤ (s0_1 : Int) := od_
   have q102 : s0_1 < (s0_0.length : Int) := od_
   obtain ⟨ad102, e102, hx102_0⟩ := Kd.at_int HSz5_0 s0_1 p102 q102
   cases e102
   replace hx102_0 := pw_cell_below HB.out hx102_0
   replace p102 := eq_true p102
   replace q102 := eq_true q102
   go_enter Tryz.func87, Tryz.ntmps87
   go_wp2
   repeat (go_quiet (fail); try go_wp2)
   go_ret
   exact ⟨se_, IsS75.q HI0, hbI_ HB (IsS75.ge HI0.out), hk_ HK⟩
  rw [if_neg c4] at H
  have c4b0 := decide_eq_false c4
  clear c4
  simp only [Option.some.injEq, Prod.mk.injEq] at H
  obtain ⟨rfl, rfl, rfl⟩ := H
  obtain ⟨ASz6_0, cSz6_0, HGz6, hgz6, HSz6_0⟩ := HI0.out
  have hcz6_0 := cellS75_0 HGz6
  have hcz6_1 := cellS75_1 HGz6
  have hcz6_2 := cellS75_2 HGz6
  have hfz6_1 := blk_frozen HGz6 1
  have hfz6_2 := blk_frozen HGz6 2
  clear HGz6 hgz6
  have p102 : 0 ≤ (s0_1 : Int) := od_
  have q102 : s0_1 < (s0_0.length : Int) := od_
  obtain ⟨ad102, e102, hx102_0⟩ := Kd.at_int HSz6_0 s0_1 p102 q102
  cases e102
  replace hx102_0 := pw_cell_below HB.out hx102_0
  replace p102 := eq_true p102
  replace q102 := eq_true q102
  go_enter Tryz.func87, Tryz.ntmps87
  go_wp2
  repeat (go_quiet (fail); try go_wp2)
  go_ret
  exact ⟨se_, IsS75.q HI0, hbI_ HB (IsS75.ge HI0.out), hk_ HK⟩
 rw [if_neg c2] at H
 have c2b0 := decide_eq_false c2
 clear c2
 by_cases c7 : (wrap64 (s0_1 + 1)) ≤ (s0_0.length : Int)
 ·rw [if_pos c7] at H
  have c7b0 := decide_eq_true c7
  clear c7
  simp only [Option.some.injEq, Prod.mk.injEq] at H
  obtain ⟨rfl, rfl, rfl⟩ := H
  obtain ⟨ASz8_0, cSz8_0, HGz8, hgz8, HSz8_0⟩ := HI0.out
  have hcz8_0 := cellS75_0 HGz8
  have hcz8_1 := cellS75_1 HGz8
  have hcz8_2 := cellS75_2 HGz8
  have hfz8_1 := blk_frozen HGz8 1
  have hfz8_2 := blk_frozen HGz8 2
  clear HGz8 hgz8
  go_enter Tryz.func87, Tryz.ntmps87
  go_wp2
  repeat (go_quiet (fail); try go_wp2)
  go_ret
  exact ⟨se_, IsS75.q HI0, hbI_ HB (IsS75.ge HI0.out), hk_ HK⟩
 rw [if_neg c7] at H
 have c7b0 := decide_eq_false c7
 clear c7
 simp only [Option.some.injEq, Prod.mk.injEq] at H
 obtain ⟨rfl, rfl, rfl⟩ := H
 obtain ⟨ASz9_0, cSz9_0, HGz9, hgz9, HSz9_0⟩ := HI0.out
 have hcz9_0 := cellS75_0 HGz9
 have hcz9_1 := cellS75_1 HGz9
 have hcz9_2 := cellS75_2 HGz9
 have hfz9_1 := blk_frozen HGz9 1
 have hfz9_2 := blk_frozen HGz9 2
 clear HGz9 hgz9
 go_enter Tryz.func87, Tryz.ntmps87
 go_wp2
 repeat (go_quiet (fail); try go_wp2)
 go_ret
 exact ⟨se_, IsS75.q HI0, hbI_ HB (IsS75.ge HI0.out), hk_ HK⟩

/-! ### spec_l1Cur_pick: function 75 -/
def spec_l1Cur_pick.f (s0_0 : List Int) (s0_1 : Int) (s0_2 : Int) (a1 : Int) : Option (Int × Int × Int) := if a1 ≤ 1 then (some (0, s0_1, s0_2)) else ((spec_l1Cur_next.f s0_0 s0_1 s0_2).bind fun bt103 => (if a1 > 200 then ((spec_l1Cur_next.f s0_0 bt103.2.1 bt103.2.2).bind fun bt106 => (if a1 = 0 then (none) else (some (Int.tmod (wrap64 ((wrap64 (bt103.1 * 256)) + bt106.1)) a1, bt106.2.1, bt106.2.2)))) else (if a1 = 0 then (none) else (some (Int.tmod bt103.1 a1, bt103.2.1, bt103.2.2)))))
theorem spec_l1Cur_pick.calls (g : Nat) (s0_0 : List Int) (s0_1 : Int) (s0_2 : Int) (a1 : Int) (r1 : Int) (r2 : Int) (r3 : Int) (w0 w : World) (hI : IsS75 w0 w g s0_0 s0_1 s0_2) (hB : Below w0.heap.size w0 w) (h : spec_l1Cur_pick.f s0_0 s0_1 s0_2 a1 = some (r1, r2, r3)) :
  Calls Tryz.prog 75 #[.pointer (some ⟨g, 0, none⟩), .int .i64 a1] w fun e w' => e = .returned (.int .i64 r1) ∧ IsS75 w0 w' g s0_0 r2 r3 ∧ Below w0.heap.size w0 w' ∧ KeepBut w w' g none := by
 have HI0 := am_ hI
 have HK := am_ (KeepBut.refl w g none)
 have HL := am_ hB.size
 clear hI
 have HW0 := am_ hB.size
 have HB := am_ hB
 clear hB
 have H := h
 unfold spec_l1Cur_pick.f at H
 clear h
 by_cases c3 : a1 ≤ 1
 ·rw [if_pos c3] at H
  have c3b0 := decide_eq_true c3
  clear c3
  simp only [Option.some.injEq, Prod.mk.injEq] at H
  obtain ⟨rfl, rfl, rfl⟩ := H
  go_enter Tryz.func75, Tryz.ntmps75
  go_wp2
  go_ret
  exact ⟨se_, IsS75.q HI0, hbI_ HB (IsS75.ge HI0.out), hk_ HK⟩
 rw [if_neg c3] at H
 have c3b0 := decide_eq_false c3
 clear c3
 revert H; refine bn_ ?_; rintro ⟨t103, t104, t105⟩ A4 H; try dsimp only at H
 by_cases c5 : a1 > 200
 ·rw [if_pos c5] at H
  have c5b0 : decide (200 < a1) = true := decide_eq_true c5
  clear c5
  revert H; refine bn_ ?_; rintro ⟨t106, t107, t108⟩ A6 H; try dsimp only at H
  by_cases c7 : a1 = 0
  ·rw [if_pos c7] at H
   exact absurd H (by simp)
  rw [if_neg c7] at H
  have c7b0 : (a1 == 0) = false := beq_eq_false_iff_ne.mpr c7
  have c7b1 : (a1 != 0) = true := bne_iff_ne.mpr c7
  simp only [Option.some.injEq, Prod.mk.injEq] at H
  obtain ⟨rfl, rfl, rfl⟩ := H
  go_enter Tryz.func75, Tryz.ntmps75
  go_wp2_with (first | ((with_reducible refine gk_ 87 ?_); refine gq_ 9 Tryz.func87 #[.pointer (some ⟨g, 0, none⟩)] ?_; (with_reducible refine (spec_l1Cur_next.calls g s0_0 s0_1 s0_2 t103 t104 t105 w0 _ ?_ ?_ A4.out).mono ?_); exact IsS75.q HI0; exact hbI_ HB (IsS75.ge HI0.out); rintro e w8 ⟨rfl, hi, hb, hk⟩; refine ⟨_, rfl, ?_⟩; replace HK := kt_ HK hk; replace HB := am_ (hb); replace HI0 := am_ (hi)) | ((with_reducible refine gk_ 87 ?_); refine gq_ 15 Tryz.func87 #[.pointer (some ⟨g, 0, none⟩)] ?_; (with_reducible refine (spec_l1Cur_next.calls g s0_0 t104 t105 t106 t107 t108 w0 _ ?_ ?_ A6.out).mono ?_); exact IsS75.q HI0; exact hbI_ HB (IsS75.ge HI0.out); rintro e w9 ⟨rfl, hi, hb, hk⟩; refine ⟨_, rfl, ?_⟩; replace HK := kt_ HK hk; replace HB := am_ (hb); replace HI0 := am_ (hi)))
  go_ret
  exact ⟨se_, IsS75.q HI0, hbI_ HB (IsS75.ge HI0.out), hk_ HK⟩
 rw [if_neg c5] at H
 have c5b0 : decide (200 < a1) = false := decide_eq_false c5
 clear c5
 by_cases c10 : a1 = 0
 ·rw [if_pos c10] at H
  exact absurd H (by simp)
 rw [if_neg c10] at H
 have c10b0 : (a1 == 0) = false := beq_eq_false_iff_ne.mpr c10
 have c10b1 : (a1 != 0) = true := bne_iff_ne.mpr c10
 simp only [Option.some.injEq, Prod.mk.injEq] at H
 obtain ⟨rfl, rfl, rfl⟩ := H
 go_enter Tryz.func75, Tryz.ntmps75
 go_wp2_with (first | ((with_reducible refine gk_ 87 ?_); refine gq_ 9 Tryz.func87 #[.pointer (some ⟨g, 0, none⟩)] ?_; (with_reducible refine (spec_l1Cur_next.calls g s0_0 s0_1 s0_2 t103 t104 t105 w0 _ ?_ ?_ A4.out).mono ?_); exact IsS75.q HI0; exact hbI_ HB (IsS75.ge HI0.out); rintro e w11 ⟨rfl, hi, hb, hk⟩; refine ⟨_, rfl, ?_⟩; replace HK := kt_ HK hk; replace HB := am_ (hb); replace HI0 := am_ (hi)))
 go_ret
 exact ⟨se_, IsS75.q HI0, hbI_ HB (IsS75.ge HI0.out), hk_ HK⟩

/-! ### spec_l1Cur_one: function 51 -/
def spec_l1Cur_one.f (s0_0 : List Int) (s0_1 : Int) (s0_2 : Int) (a1 : Int) : Option (Bool × Int × Int) := (spec_l1Cur_pick.f s0_0 s0_1 s0_2 a1).bind fun bt109 => (some ((bt109.1 == 0), bt109.2.1, bt109.2.2))
theorem spec_l1Cur_one.calls (g : Nat) (s0_0 : List Int) (s0_1 : Int) (s0_2 : Int) (a1 : Int) (r1 : Bool) (r2 : Int) (r3 : Int) (w0 w : World) (hI : IsS75 w0 w g s0_0 s0_1 s0_2) (hB : Below w0.heap.size w0 w) (h : spec_l1Cur_one.f s0_0 s0_1 s0_2 a1 = some (r1, r2, r3)) :
  Calls Tryz.prog 51 #[.pointer (some ⟨g, 0, none⟩), .int .i64 a1] w fun e w' => e = .returned (.bool r1) ∧ IsS75 w0 w' g s0_0 r2 r3 ∧ Below w0.heap.size w0 w' ∧ KeepBut w w' g none := by
 have HI0 := am_ hI
 have HK := am_ (KeepBut.refl w g none)
 have HL := am_ hB.size
 clear hI
 have HW0 := am_ hB.size
 have HB := am_ hB
 clear hB
 have H := h
 unfold spec_l1Cur_one.f at H
 clear h
 revert H; refine bn_ ?_; rintro ⟨t109, t110, t111⟩ A3 H; try dsimp only at H
 simp only [Option.some.injEq, Prod.mk.injEq] at H
 obtain ⟨rfl, rfl, rfl⟩ := H
 go_enter Tryz.func51, Tryz.ntmps51
 go_wp2_with (first | ((with_reducible refine gk_ 75 ?_); refine gq_ 7 Tryz.func75 #[.pointer (some ⟨g, 0, none⟩), .int .i64 a1] ?_; (with_reducible refine (spec_l1Cur_pick.calls g s0_0 s0_1 s0_2 a1 t109 t110 t111 w0 _ ?_ ?_ A3.out).mono ?_); exact IsS75.q HI0; exact hbI_ HB (IsS75.ge HI0.out); rintro e w4 ⟨rfl, hi, hb, hk⟩; refine ⟨_, rfl, ?_⟩; replace HK := kt_ HK hk; replace HB := am_ (hb); replace HI0 := am_ (hi)))
 go_ret
 exact ⟨se_, IsS75.q HI0, hbI_ HB (IsS75.ge HI0.out), hk_ HK⟩

/-! ### spec_l1Cur_grid: function 73 -/
def spec_l1Cur_grid.f (s0_0 : List Int) (s0_1 : Int) (s0_2 : Int) : Option (Int × Int × Int × Int × Int) := (spec_l1Cur_one.f s0_0 s0_1 s0_2 24).bind fun bt113 => (if bt113.1 = true then ((some (([(⟨8, 5, 3⟩ : S25), (⟨8, 3, 5⟩ : S25), (⟨4, 6, 5⟩ : S25), (⟨1, 1, 1⟩ : S25)] : List (S25)) : List (S25))).bind fun y116 => ((spec_l1Cur_pick.f s0_0 bt113.2.1 bt113.2.2 4).bind fun bt119 => (if 0 ≤ bt119.1 then (if bt119.1 < (y116.length : Int) then (some ((rd_T25 y116 bt119.1).f0, (rd_T25 y116 bt119.1).f1, (rd_T25 y116 bt119.1).f2, bt119.2.1, bt119.2.2)) else (none)) else (none)))) else ((spec_l1Cur_pick.f s0_0 bt113.2.1 bt113.2.2 4).bind fun bt123 => ((spec_l1Cur_pick.f s0_0 bt123.2.1 bt123.2.2 3).bind fun bt126 => ((spec_l1Cur_pick.f s0_0 bt126.2.1 bt126.2.2 3).bind fun bt129 => (some (wrap64 (1 + bt123.1), wrap64 (1 + bt126.1), wrap64 (1 + bt129.1), bt129.2.1, bt129.2.2))))))
theorem spec_l1Cur_grid.calls (g : Nat) (s0_0 : List Int) (s0_1 : Int) (s0_2 : Int) (r1 : Int) (r2 : Int) (r3 : Int) (r4 : Int) (r5 : Int) (w0 w : World) (hI : IsS75 w0 w g s0_0 s0_1 s0_2) (hB : Below w0.heap.size w0 w) (h : spec_l1Cur_grid.f s0_0 s0_1 s0_2 = some (r1, r2, r3, r4, r5)) :
  Calls Tryz.prog 73 #[.pointer (some ⟨g, 0, none⟩)] w fun e w' => e = .returned (.agg #[.int .i64 r1, .int .i64 r2, .int .i64 r3]) ∧ IsS75 w0 w' g s0_0 r4 r5 ∧ Below w0.heap.size w0 w' ∧ KeepBut w w' g none := by
 have hu25 := Tryz.underlying25
 have HI0 := am_ hI
 have HK := am_ (KeepBut.refl w g none)
 have HL := am_ hB.size
 clear hI
 have HW0 := am_ hB.size
 have HB := am_ hB
 clear hB
 have H := h
 unfold spec_l1Cur_grid.f at H
 clear h
 revert H; refine bn_ ?_; rintro ⟨t113, t114, t115⟩ A2 H; try dsimp only at H
 by_cases c3 : t113 = true
 ·subst c3
  rw [if_pos rfl] at H
  obtain ⟨y116, hy116⟩ : ∃ y_ : List (S25), y_ = (([(⟨8, 5, 3⟩ : S25), (⟨8, 3, 5⟩ : S25), (⟨4, 6, 5⟩ : S25), (⟨1, 1, 1⟩ : S25)] : List (S25))) := ⟨_, rfl⟩
  (try with_reducible replace H := (Option.bind_some _ _).symm.trans H); (try dsimp only at H); (try rw [← hy116] at H)
  have Ny116 := am_ hy116
  clear hy116
  revert H; refine bn_ ?_; rintro ⟨t119, t120, t121⟩ A4 H; try dsimp only at H
  revert H; refine pd_ fun c5b0 H => ?_
  revert H; refine pd_ fun c6b0 H => ?_
  simp only [Option.some.injEq, Prod.mk.injEq] at H
  obtain ⟨rfl, rfl, rfl, rfl, rfl⟩ := H
  go_enter Tryz.func73, Tryz.ntmps73
  go_wp2_with (first | ((with_reducible refine gate_dst (N := 2) rfl ?_); refine bv_ 2 (cs := #[.int .i64 0, .int .i64 0, .int .i64 0]) (t := 25) ?_; intro gb112 hg w7 hbox hb; have BK112 := am_ (hbox); have GW112 := am_ ((by rw [hg]; exact (keep_size (hk_ HK)) : w.heap.size ≤ gb112)); have GE112 := am_ ((Nat.le_trans HW0.out (by rw [hg]; exact (keep_size (hk_ HK)) : w.heap.size ≤ gb112) : w0.heap.size ≤ gb112)); have NB0_112 := am_ ((by rw [hg]; exact Nat.ne_of_lt (IsS75.lt (show IsS75 w0 _ g s0_0 s0_1 s0_2 from IsS75.q HI0)) : g ≠ gb112)); have NB112_0 := am_ ((by rw [hg]; exact Nat.ne_of_gt (IsS75.lt (show IsS75 w0 _ g s0_0 s0_1 s0_2 from IsS75.q HI0)) : gb112 ≠ g)); replace HK := hkb_ HK hb; replace HB := am_ (below_step (hbI_ HB (IsS75.ge HI0.out)) hb); replace HI0 := IsS75.b HI0 hb; clear hb hbox hg) | ((with_reducible refine gk_ 51 ?_); refine gq_ 4 Tryz.func51 #[.pointer (some ⟨g, 0, none⟩), .int .i64 24] ?_; (with_reducible refine (spec_l1Cur_one.calls g s0_0 s0_1 s0_2 24 true t114 t115 w0 _ ?_ ?_ A2.out).mono ?_); exact IsS75.q HI0; exact hbI_ HB (IsS75.ge HI0.out); rintro e w8 ⟨rfl, hi, hb, hk⟩; refine ⟨_, rfl, ?_⟩; replace BK112 := kk_ BK112 hk NB112_0; replace HK := kt_ HK hk; replace HB := am_ (hb); replace HI0 := am_ (hi)) | ((with_reducible refine gate_dst (N := 9) rfl ?_); refine Kd.R_lit k25 _ 25 ?hg (N := 9) ?hd (xs := ([(⟨8, 5, 3⟩ : S25), (⟨8, 3, 5⟩ : S25), (⟨4, 6, 5⟩ : S25), (⟨1, 1, 1⟩ : S25)] : List (S25))) (inner := [.int .i64 8, .int .i64 5, .int .i64 3, .int .i64 8, .int .i64 3, .int .i64 5, .int .i64 4, .int .i64 6, .int .i64 5, .int .i64 1, .int .i64 1, .int .i64 1]) (ok := fun _ => True) (okp := fun _ => True) ?hr ?hp (fun _ hk => hk) trivial (Below.refl _ _) (Nat.le_refl _) (by simp) ?_; (case hd => rfl); (case hg => rfl); (case hr => first | (go_simp; done) | (go_simp; rfl)); (case hp => exact (Reps.c3 (show Kd.M k25 _ _ _ (⟨8, 5, 3⟩ : S25) [.int .i64 8, .int .i64 5, .int .i64 3] from (k25_mkM _ _ _ (⟨8, 5, 3⟩ : S25) )) (Reps.c3 (show Kd.M k25 _ _ _ (⟨8, 3, 5⟩ : S25) [.int .i64 8, .int .i64 3, .int .i64 5] from (k25_mkM _ _ _ (⟨8, 3, 5⟩ : S25) )) (Reps.c3 (show Kd.M k25 _ _ _ (⟨4, 6, 5⟩ : S25) [.int .i64 4, .int .i64 6, .int .i64 5] from (k25_mkM _ _ _ (⟨4, 6, 5⟩ : S25) )) (Reps.c3 (show Kd.M k25 _ _ _ (⟨1, 1, 1⟩ : S25) [.int .i64 1, .int .i64 1, .int .i64 1] from (k25_mkM _ _ _ (⟨1, 1, 1⟩ : S25) )) (Reps.none _ _)))))); intro v117 w9 ho10 hb hg_ hnew_; clear hg_ hnew_; (first | rw [← Ny116.out] at ho10 | (simp only [Int.reduceToNat] at ho10; rw [← Ny116.out] at ho10)); have HO118 := am_ (Kd.R_lower (Kd.R_newB ho10 (g := gb112) (o := .cells #[.int .i64 0, .int .i64 0, .int .i64 0] 25 (0, 0)) (kp_ BK112)) (keep_size (hk_ HK))); replace BK112 := kb_ BK112 hb; replace HK := hkb_ HK hb; replace HB := am_ (below_step (hbI_ HB (IsS75.ge HI0.out)) hb); replace HI0 := IsS75.b HI0 hb; clear hb ho10) | ((with_reducible refine gk_ 75 ?_); refine gq_ 11 Tryz.func75 #[.pointer (some ⟨g, 0, none⟩), .int .i64 4] ?_; (with_reducible refine (spec_l1Cur_pick.calls g s0_0 t114 t115 4 t119 t120 t121 w0 _ ?_ ?_ A4.out).mono ?_); exact IsS75.q HI0; exact hbI_ HB (IsS75.ge HI0.out); rintro e w11 ⟨rfl, hi, hb, hk⟩; refine ⟨_, rfl, ?_⟩; replace BK112 := am_ (KeepBut.blk hk (kp_ BK112) NB112_0.out (by simp)); replace HO118 := IsS75.rk HI0 HO118 hk; replace HK := kt_ HK hk; replace HB := am_ (hb); replace HI0 := am_ (hi); obtain ⟨Ao12, co12, eo12⟩ := Kd.R_slice HO118.out; subst eo12; have p122 : 0 ≤ (t119 : Int) := od_; have q122 : t119 < (y116.length : Int) := od_; obtain ⟨ad122, e122, hx122_0, hx122_1, hx122_2⟩ := at_T25 (Kd.R_reads' HO118.out).2.2 t119 p122 q122; cases e122; replace p122 := eq_true p122; replace q122 := eq_true q122; have := NB112_0.out; have := NB0_112.out; obtain ⟨hcz14_0, hcz14_1, hcz14_2, hfz14_0, hfz14_1, hfz14_2⟩ := bx3 BK112))
  refine bodyPost_ret (results_cell_row rfl _ _ gb112 25 #[.int .i64 ((rd_T25 y116 t119).f0), .int .i64 ((rd_T25 y116 t119).f1), .int .i64 ((rd_T25 y116 t119).f2)] (0, 0) _ rfl (kpq_ (kputs BK112 [(0, _), (1, _), (2, _)])) Tryz.underlying25 rfl (by kernel_rfl)) rfl ?_
  exact ⟨se_, IsS75.q HI0, hbI_ HB (IsS75.ge HI0.out), hk_ HK⟩
 replace c3 := Bool.eq_false_iff.mpr c3
 subst c3
 rw [if_neg (show ¬ (false = true) by decide)] at H
 revert H; refine bn_ ?_; rintro ⟨t123, t124, t125⟩ A15 H; try dsimp only at H
 revert H; refine bn_ ?_; rintro ⟨t126, t127, t128⟩ A16 H; try dsimp only at H
 revert H; refine bn_ ?_; rintro ⟨t129, t130, t131⟩ A17 H; try dsimp only at H
 simp only [Option.some.injEq, Prod.mk.injEq] at H
 obtain ⟨rfl, rfl, rfl, rfl, rfl⟩ := H
 go_enter Tryz.func73, Tryz.ntmps73
 go_wp2_with (first | ((with_reducible refine gate_dst (N := 2) rfl ?_); refine bv_ 2 (cs := #[.int .i64 0, .int .i64 0, .int .i64 0]) (t := 25) ?_; intro gb112 hg w18 hbox hb; have BK112 := am_ (hbox); have GW112 := am_ ((by rw [hg]; exact (keep_size (hk_ HK)) : w.heap.size ≤ gb112)); have GE112 := am_ ((Nat.le_trans HW0.out (by rw [hg]; exact (keep_size (hk_ HK)) : w.heap.size ≤ gb112) : w0.heap.size ≤ gb112)); have NB0_112 := am_ ((by rw [hg]; exact Nat.ne_of_lt (IsS75.lt (show IsS75 w0 _ g s0_0 s0_1 s0_2 from IsS75.q HI0)) : g ≠ gb112)); have NB112_0 := am_ ((by rw [hg]; exact Nat.ne_of_gt (IsS75.lt (show IsS75 w0 _ g s0_0 s0_1 s0_2 from IsS75.q HI0)) : gb112 ≠ g)); replace HK := hkb_ HK hb; replace HB := am_ (below_step (hbI_ HB (IsS75.ge HI0.out)) hb); replace HI0 := IsS75.b HI0 hb; clear hb hbox hg) | ((with_reducible refine gk_ 51 ?_); refine gq_ 4 Tryz.func51 #[.pointer (some ⟨g, 0, none⟩), .int .i64 24] ?_; (with_reducible refine (spec_l1Cur_one.calls g s0_0 s0_1 s0_2 24 false t114 t115 w0 _ ?_ ?_ A2.out).mono ?_); exact IsS75.q HI0; exact hbI_ HB (IsS75.ge HI0.out); rintro e w19 ⟨rfl, hi, hb, hk⟩; refine ⟨_, rfl, ?_⟩; replace BK112 := kk_ BK112 hk NB112_0; replace HK := kt_ HK hk; replace HB := am_ (hb); replace HI0 := am_ (hi)) | ((with_reducible refine gk_ 75 ?_); refine gq_ 15 Tryz.func75 #[.pointer (some ⟨g, 0, none⟩), .int .i64 4] ?_; (with_reducible refine (spec_l1Cur_pick.calls g s0_0 t114 t115 4 t123 t124 t125 w0 _ ?_ ?_ A15.out).mono ?_); exact IsS75.q HI0; exact hbI_ HB (IsS75.ge HI0.out); rintro e w20 ⟨rfl, hi, hb, hk⟩; refine ⟨_, rfl, ?_⟩; replace BK112 := kk_ BK112 hk NB112_0; replace HK := kt_ HK hk; replace HB := am_ (hb); replace HI0 := am_ (hi)) | ((with_reducible refine gk_ 75 ?_); refine gq_ 18 Tryz.func75 #[.pointer (some ⟨g, 0, none⟩), .int .i64 3] ?_; (with_reducible refine (spec_l1Cur_pick.calls g s0_0 t124 t125 3 t126 t127 t128 w0 _ ?_ ?_ A16.out).mono ?_); exact IsS75.q HI0; exact hbI_ HB (IsS75.ge HI0.out); rintro e w21 ⟨rfl, hi, hb, hk⟩; refine ⟨_, rfl, ?_⟩; replace BK112 := kk_ BK112 hk NB112_0; replace HK := kt_ HK hk; replace HB := am_ (hb); replace HI0 := am_ (hi)) | ((with_reducible refine gk_ 75 ?_); refine gq_ 21 Tryz.func75 #[.pointer (some ⟨g, 0, none⟩), .int .i64 3] ?_; (with_reducible refine (spec_l1Cur_pick.calls g s0_0 t127 t128 3 t129 t130 t131 w0 _ ?_ ?_ A17.out).mono ?_); exact IsS75.q HI0; exact hbI_ HB (IsS75.ge HI0.out); rintro e w22 ⟨rfl, hi, hb, hk⟩; refine ⟨_, rfl, ?_⟩; replace BK112 := kk_ BK112 hk NB112_0; replace HK := kt_ HK hk; replace HB := am_ (hb); replace HI0 := am_ (hi); have := NB112_0.out; have := NB0_112.out; obtain ⟨hcz24_0, hcz24_1, hcz24_2, hfz24_0, hfz24_1, hfz24_2⟩ := bx3 BK112))
 refine bodyPost_ret (results_cell_row rfl _ _ gb112 25 #[.int .i64 (wrap64 (1 + t123)), .int .i64 (wrap64 (1 + t126)), .int .i64 (wrap64 (1 + t129))] (0, 0) _ rfl (kpq_ (kputs BK112 [(0, _), (1, _), (2, _)])) Tryz.underlying25 rfl (by kernel_rfl)) rfl ?_
 exact ⟨se_, IsS75.q HI0, hbI_ HB (IsS75.ge HI0.out), hk_ HK⟩

/-! ### spec_l1Cur_among: function 74 -/
def spec_l1Cur_among.f (s0_0 : List Int) (s0_1 : Int) (s0_2 : Int) (l1 : List Int) : Option (Int × Int × Int) := (spec_l1Cur_pick.f s0_0 s0_1 s0_2 (l1.length : Int)).bind fun bt132 => (if 0 ≤ bt132.1 then (if bt132.1 < (l1.length : Int) then (some (rd l1 bt132.1, bt132.2.1, bt132.2.2)) else (none)) else (none))
theorem spec_l1Cur_among.calls (g : Nat) (s0_0 : List Int) (s0_1 : Int) (s0_2 : Int) (A1 : Option Addr) (c1 : Nat) (l1 : List Int) (r1 : Int) (r2 : Int) (r3 : Int) (w0 w : World) (hI : IsS75 w0 w g s0_0 s0_1 s0_2) (hB : Below w0.heap.size w0 w) (hr1 : Kd.C (Kd.int .i64) w A1 l1.length l1) (hc1 : l1.length ≤ c1) (hf1 : ∀ ad, A1 = some ad → 0 < l1.length → ad.block ≠ g) (h : spec_l1Cur_among.f s0_0 s0_1 s0_2 l1 = some (r1, r2, r3)) :
  Calls Tryz.prog 74 #[.pointer (some ⟨g, 0, none⟩), .slice A1 l1.length c1] w fun e w' => e = .returned (.int .i64 r1) ∧ IsS75 w0 w' g s0_0 r2 r3 ∧ Below w0.heap.size w0 w' ∧ KeepBut w w' g none := by
 have HR1 := am_ hr1
 have HC1 := am_ hc1
 clear hr1 hc1
 have HI0 := am_ hI
 have HK := am_ (KeepBut.refl w g none)
 have HL := am_ hB.size
 clear hI
 have HW0 := am_ hB.size
 have HB := am_ hB
 clear hB
 have H := h
 unfold spec_l1Cur_among.f at H
 clear h
 revert H; refine bn_ ?_; rintro ⟨t132, t133, t134⟩ A3 H; try dsimp only at H
 revert H; refine pd_ fun c4b0 H => ?_
 revert H; refine pd_ fun c5b0 H => ?_
 simp only [Option.some.injEq, Prod.mk.injEq] at H
 obtain ⟨rfl, rfl, rfl⟩ := H
 go_enter Tryz.func74, Tryz.ntmps74
 go_wp2_with (first | ((with_reducible refine gk_ 75 ?_); refine gq_ 9 Tryz.func75 #[.pointer (some ⟨g, 0, none⟩), .int .i64 (l1.length : Int)] ?_; (with_reducible refine (spec_l1Cur_pick.calls g s0_0 s0_1 s0_2 (l1.length : Int) t132 t133 t134 w0 _ ?_ ?_ A3.out).mono ?_); exact IsS75.q HI0; exact hbI_ HB (IsS75.ge HI0.out); rintro e w6 ⟨rfl, hi, hb, hk⟩; refine ⟨_, rfl, ?_⟩; replace HK := kt_ HK hk; replace HB := am_ (hb); replace HI0 := am_ (hi); have p135 : 0 ≤ (t132 : Int) := od_; have q135 : t132 < (l1.length : Int) := od_; obtain ⟨ad135, e135, hx135_0⟩ := Kd.at_int HR1.out t132 p135 q135; cases e135; replace hx135_0 := keep_cell HK.out hx135_0 (by first | (rw [add_block]; exact hf1 _ rfl (by omega)) | exact hf1 _ rfl (by omega) | exact hf1 ad135 rfl (by omega)); replace p135 := eq_true p135; replace q135 := eq_true q135))
 go_ret
 exact ⟨se_, IsS75.q HI0, hbI_ HB (IsS75.ge HI0.out), hk_ HK⟩

end Go.Proofs.YthphbkkkbolcnaaGreatDoor.PFnModels
