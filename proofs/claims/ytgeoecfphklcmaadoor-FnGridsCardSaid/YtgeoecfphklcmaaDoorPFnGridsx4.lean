-- Laid for this claim by wip/tools/print2.sh, a changed copy of the kit's print (wip/tools/patch_print.py): not by print.sh.
import Derived.Test.YtgeoecfphklcmaaDoorPFnGridsx0
import Derived.Test.YtgeoecfphklcmaaDoorPFnGridsx1
namespace Go.Proofs.YtgeoecfphklcmaaDoor.PFnGrids
open Go.RowKit Go.Proofs.YtgeoecfphklcmaaDoorW.PrintWords Go.Proofs.YtgeoecfphklcmaaDoorW.PrintLast Go.Proofs.YtgeoecfphklcmaaDoorW.PrintMore
attribute [local go_sem] max2_int min2_int max_two min_two max_three min_three max_four min_four   -- for this text's walks alone
set_option linter.unusedVariables false
set_option linter.unusedSimpArgs false

/-- A state of type 68 at block g of W; what its slices lead to came in by w0. -/
def IsS68 (w0 W : World) (g : Nat) (f0 : List Int) (f1 : Int) (f2 : Int) : Prop := ∃ A0 c0, W.heap[g]? = some (.cells #[.slice A0 f0.length c0, .int .i64 f1, .int .u64 f2] 68 (0, 0)) ∧ w0.heap.size ≤ g ∧ Kd.C (Kd.int .u8) w0 A0 f0.length f0
theorem IsS68.grown {w0 W : World} {g : Nat} {f0 : List Int} {f1 : Int} {f2 : Int} {W1 : World} {row : Option Nat} (h : IsS68 w0 W g f0 f1 f2) (hw : W.grownBy W1 row) (hne : some g ≠ row) : IsS68 w0 W1 g f0 f1 f2 := by
 obtain ⟨A0, c0, hb, hg, hr0⟩ := h
 exact ⟨A0, c0, blk_grown hb hw hne, hg, hr0⟩
theorem IsS68.own_neN {w0 W : World} {g : Nat} {f0 : List Int} {f1 : Int} {f2 : Int} {α : Type} {d : Kd α} {e : Nat} {base : Nat} {ok : Nat → Prop} {v : Value} {xs : List α} (h : IsS68 w0 W g f0 f1 f2) (ho : Kd.N d e W base ok v xs) (ht : e ≠ 68) : some g ≠ v.ownBlock := by
 obtain ⟨A0, c0, hb, hg, hr0⟩ := h
 exact Kd.N_ne ho hb ht
theorem IsS68.fresh {w0 W : World} {g : Nat} {f0 : List Int} {f1 : Int} {f2 : Int} (h : IsS68 w0 W g f0 f1 f2) : ∀ k, W.heap.size ≤ k → k ≠ g := by
 obtain ⟨A0, c0, hb, hg, hr0⟩ := h
 exact Kd.freshB hb
theorem IsS68.kept {w0 W : World} {g : Nat} {f0 : List Int} {f1 : Int} {f2 : Int} {W1 : World} {S : Nat → Prop} (h : IsS68 w0 W g f0 f1 f2) (hk : Kept W W1 S) (hne : ¬ S g) : IsS68 w0 W1 g f0 f1 f2 := by
 obtain ⟨A0, c0, hb, hg, hr0⟩ := h
 exact ⟨A0, c0, blk_kept hb hk hne, hg, hr0⟩
theorem IsS68.below {w0 W : World} {g : Nat} {f0 : List Int} {f1 : Int} {f2 : Int} {W1 : World} (h : IsS68 w0 W g f0 f1 f2) (hw : Below W.heap.size W W1) : IsS68 w0 W1 g f0 f1 f2 := h.grown (grown_of_below hw none) (by simp)
theorem IsS68.alloc {w0 W : World} {g : Nat} {f0 : List Int} {f1 : Int} {f2 : Int} (h : IsS68 w0 W g f0 f1 f2) (o : Obj) : IsS68 w0 (W.alloc o) g f0 f1 f2 := h.below (below_alloc (Below.refl _ _) o)
theorem IsS68.drewN {w0 W : World} {g : Nat} {f0 : List Int} {f1 : Int} {f2 : Int} (h : IsS68 w0 W g f0 f1 f2) (m : Nat) : IsS68 w0 (W.drewN m) g f0 f1 f2 := h
theorem IsS68.drew {w0 W : World} {g : Nat} {f0 : List Int} {f1 : Int} {f2 : Int} (h : IsS68 w0 W g f0 f1 f2) : IsS68 w0 W.drew g f0 f1 f2 := h
theorem IsS68.at_ {w0 W : World} {g : Nat} {f0 : List Int} {f1 : Int} {f2 : Int} {w' : World} {m : Nat} (hq : W.drewN m = w') (h : IsS68 w0 W g f0 f1 f2) : IsS68 w0 w' g f0 f1 f2 := by subst hq; exact IsS68.drewN h m
theorem IsS68.apart {w0 W : World} {g : Nat} {f0 : List Int} {f1 : Int} {f2 : Int} {α : Type} {d : Kd α} {e : Nat} {base : Nat} {ok : Nat → Prop} {v : Value} {xs : List α} (h : IsS68 w0 W g f0 f1 f2) (ho : d.R e W base ok v xs) (ht : ∀ q, q ∈ e :: d.E → q ≠ 68) : d.R e W base (fun k => ok k ∧ k ≠ g) v xs := by
 obtain ⟨A0, c0, hb, hg, hr0⟩ := h
 exact Kd.R_types ho hb ht
theorem IsS68.own_ne {w0 W : World} {g : Nat} {f0 : List Int} {f1 : Int} {f2 : Int} {α : Type} {d : Kd α} {e : Nat} {base : Nat} {ok : Nat → Prop} {v : Value} {xs : List α} (h : IsS68 w0 W g f0 f1 f2) (ho : d.R e W base ok v xs) (ht : e ≠ 68) : some g ≠ v.ownBlock := by
 obtain ⟨A0, c0, hb, hg, hr0⟩ := h
 exact Kd.R_ne ho hb ht
theorem IsS68.apartQ {w0 W : World} {g : Nat} {f0 : List Int} {f1 : Int} {f2 : Int} {α : Type} {d : Kd α} {e : Nat} {base : Nat} {ok : Nat → Prop} {v : Value} {xs : List α} (h : IsS68 w0 W g f0 f1 f2) (ho : d.Q e W base ok v xs) (ht : ∀ q, q ∈ e :: d.E → q ≠ 68) : d.Q e W base (fun k => ok k ∧ k ≠ g) v xs := by
 obtain ⟨A0, c0, hb, hg, hr0⟩ := h
 exact Kd.Q_types ho hb ht
theorem IsS68.own_neQ {w0 W : World} {g : Nat} {f0 : List Int} {f1 : Int} {f2 : Int} {α : Type} {d : Kd α} {e : Nat} {base : Nat} {ok : Nat → Prop} {v : Value} {xs : List α} (h : IsS68 w0 W g f0 f1 f2) (ho : d.Q e W base ok v xs) (ht : e ≠ 68) : some g ≠ v.ownBlock := by
 obtain ⟨A0, c0, hb, hg, hr0⟩ := h
 exact Kd.Q_ne ho hb ht
theorem IsS68.apartS {w0 W : World} {g : Nat} {f0 : List Int} {f1 : Int} {f2 : Int} {α : Type} {d : Kd α} {e : Nat} {base : Nat} {ok : Nat → Prop} {v : Value} {xs : List α} (h : IsS68 w0 W g f0 f1 f2) (ho : d.S e W base ok v xs) (ht : ∀ q, q ∈ e :: d.E → q ≠ 68) : d.S e W base (fun k => ok k ∧ k ≠ g) v xs := by
 obtain ⟨A0, c0, hb, hg, hr0⟩ := h
 exact Kd.S_types ho hb ht
theorem IsS68.own_neS {w0 W : World} {g : Nat} {f0 : List Int} {f1 : Int} {f2 : Int} {α : Type} {d : Kd α} {e : Nat} {base : Nat} {ok : Nat → Prop} {v : Value} {xs : List α} (h : IsS68 w0 W g f0 f1 f2) (ho : d.S e W base ok v xs) (ht : e ≠ 68) : some g ≠ v.ownBlock := by
 obtain ⟨A0, c0, hb, hg, hr0⟩ := h
 exact Kd.S_ne ho hb ht
theorem IsS68.lt {w0 W : World} {g : Nat} {f0 : List Int} {f1 : Int} {f2 : Int} (h : IsS68 w0 W g f0 f1 f2) : g < W.heap.size := by
 obtain ⟨A0, c0, hb, hg, hr0⟩ := h
 exact blk_lt hb
theorem IsS68.ge {w0 W : World} {g : Nat} {f0 : List Int} {f1 : Int} {f2 : Int} (h : IsS68 w0 W g f0 f1 f2) : w0.heap.size ≤ g := by
 obtain ⟨A0, c0, hb, hg, hr0⟩ := h
 exact hg
theorem IsS68.ne_blk {w0 W : World} {g : Nat} {f0 : List Int} {f1 : Int} {f2 : Int} {a : Nat} {cs : Array Value} {t : TypeId} {fr : Nat × Nat} (h : IsS68 w0 W g f0 f1 f2) (hb2 : W.heap[a]? = some (.cells cs t fr)) (ht : t ≠ 68) : g ≠ a := by
 obtain ⟨A0, c0, hb, hg, hr0⟩ := h
 rintro rfl
 rw [hb] at hb2
 injection hb2 with hb2
 injection hb2 with _ ht2
 exact ht ht2.symm
theorem IsS68.far {w0 W : World} {g : Nat} {f0 : List Int} {f1 : Int} {f2 : Int} {p : Addr} (h : IsS68 w0 W g f0 f1 f2) (hne : g ≠ p.block) (u : Value) : IsS68 w0 (W.setCell p u) g f0 f1 f2 := by
 obtain ⟨A0, c0, hb, hg, hr0⟩ := h
 exact ⟨A0, c0, blk_far hb hne u, hg, hr0⟩
theorem cellS68_0 {W : World} {g : Nat} {A0 : Option Addr} {c0 : Nat} {f0 : List Int} {f1 : Int} {f2 : Int} (h : W.heap[g]? = some (.cells #[.slice A0 f0.length c0, .int .i64 f1, .int .u64 f2] 68 (0, 0))) : W.cell? ⟨g, 0, none⟩ = some (.slice A0 f0.length c0) := (blk_cell h 0).trans rfl
theorem cellS68_1 {W : World} {g : Nat} {A0 : Option Addr} {c0 : Nat} {f0 : List Int} {f1 : Int} {f2 : Int} (h : W.heap[g]? = some (.cells #[.slice A0 f0.length c0, .int .i64 f1, .int .u64 f2] 68 (0, 0))) : W.cell? ⟨g, 1, none⟩ = some (.int .i64 f1) := (blk_cell h 1).trans rfl
theorem IsS68.set_1 {w0 W : World} {g : Nat} {f0 : List Int} {f1 : Int} {f2 : Int} (h : IsS68 w0 W g f0 f1 f2) (x : Int) : IsS68 w0 (W.setCell ⟨g, 1, none⟩ (.int .i64 x)) g f0 x f2 := by
 obtain ⟨A0, c0, hb, hg, hr0⟩ := h
 exact ⟨A0, c0, by simpa using blk_set hb 1 (.int .i64 x), hg, hr0⟩
theorem cellS68_2 {W : World} {g : Nat} {A0 : Option Addr} {c0 : Nat} {f0 : List Int} {f1 : Int} {f2 : Int} (h : W.heap[g]? = some (.cells #[.slice A0 f0.length c0, .int .i64 f1, .int .u64 f2] 68 (0, 0))) : W.cell? ⟨g, 2, none⟩ = some (.int .u64 f2) := (blk_cell h 2).trans rfl
theorem IsS68.set_2 {w0 W : World} {g : Nat} {f0 : List Int} {f1 : Int} {f2 : Int} (h : IsS68 w0 W g f0 f1 f2) (x : Int) : IsS68 w0 (W.setCell ⟨g, 2, none⟩ (.int .u64 x)) g f0 f1 x := by
 obtain ⟨A0, c0, hb, hg, hr0⟩ := h
 exact ⟨A0, c0, by simpa using blk_set hb 2 (.int .u64 x), hg, hr0⟩
theorem IsS68.new (w0 W : World) (A0 : Option Addr) (c0 : Nat) (f0 : List Int) (f1 : Int) (f2 : Int) (hB : Below w0.heap.size w0 W) (hr0 : Kd.C (Kd.int .u8) w0 A0 f0.length f0) : IsS68 w0 (W.alloc (.cells #[.slice A0 f0.length c0, .int .i64 f1, .int .u64 f2] 68)) W.heap.size f0 f1 f2 := ⟨A0, c0, by simpa using heap_alloc_new W _, hB.size, hr0⟩
theorem IsS68.farA {w0 W : World} {g a i : Nat} {f0 : List Int} {f1 : Int} {f2 : Int} {u : Value} (h : IsS68 w0 W g f0 f1 f2) (hn : Aside0 (g ≠ a)) : IsS68 w0 (W.setCell ⟨a, i, none⟩ u) g f0 f1 f2 := IsS68.far (p := ⟨a, i, none⟩) h hn.out u
theorem IsS68.q {w0 W W1 : World} {g : Nat} {f0 : List Int} {f1 : Int} {f2 : Int} {f0' : List Int} {f1' : Int} {f2' : Int} (h : Aside0 (IsS68 w0 W g f0 f1 f2)) (hq : IsS68 w0 W g f0 f1 f2 → IsS68 w0 W1 g f0' f1' f2' := by intro h_; repeat (first | (with_reducible first | exact h_ | apply IsS68.alloc | apply IsS68.drewN | apply IsS68.drew | apply IsS68.set_1 | apply IsS68.set_2 | refine IsS68.farA ?_ (by assumption)) | exact h_)) : IsS68 w0 W1 g f0' f1' f2' := hq h.out
theorem IsS68.b {w0 W W1 W2 : World} {g : Nat} {f0 : List Int} {f1 : Int} {f2 : Int} {f0' : List Int} {f1' : Int} {f2' : Int} (h : Aside0 (IsS68 w0 W g f0 f1 f2)) (hb : Below W1.heap.size W1 W2) (hq : IsS68 w0 W g f0 f1 f2 → IsS68 w0 W1 g f0' f1' f2' := by intro h_; repeat (first | (with_reducible first | exact h_ | apply IsS68.alloc | apply IsS68.drewN | apply IsS68.drew | apply IsS68.set_1 | apply IsS68.set_2 | refine IsS68.farA ?_ (by assumption)) | exact h_)) : Aside0 (IsS68 w0 W2 g f0' f1' f2') := ⟨IsS68.below (hq h.out) hb⟩
theorem IsS68.rk {w0 W W1 W2 : World} {g : Nat} {f0 : List Int} {f1 : Int} {f2 : Int} {α : Type} {d : Kd α} {e : Nat} {base : Nat} {ok : Nat → Prop} {v : Value} {xs : List α} (hI : Aside0 (IsS68 w0 W g f0 f1 f2)) (h : Aside0 (d.R e W base ok v xs)) (hk : KeepBut W1 W2 g none) (hq : Below W.heap.size W W1 := by repeat (first | (with_reducible first | exact Below.refl _ _ | apply below_alloc | apply pw_below_drewN | apply below_drew1) | exact Below.refl _ _)) (ht : ∀ q, q ∈ e :: d.E → q ≠ 68 := by decide) : Aside0 (d.R e W2 base ok v xs) := ⟨Kd.R_mono (Kd.R_keep (Kd.R_below (IsS68.apart hI.out h.out ht) hq) hk (fun _ h => h.2)) (fun _ h => h.1)⟩

/-! ### spec_l1Cur_next: function 62 -/
def spec_l1Cur_next.f (s0_0 : List Int) (s0_1 : Int) (s0_2 : Int) : Option (Int × Int × Int) := if s0_1 < (s0_0.length : Int) then (if 0 ≤ s0_1 then (if (wrap64 (s0_1 + 1)) ≤ (s0_0.length : Int) then (some (wrap64 (rd s0_0 s0_1), wrap64 (s0_1 + 1), IntKind.u64.wrap ((IntKind.u64.wrap ((IntKind.u64.wrap (s0_2 * 6364136223846793005)) + (IntKind.u64.wrap (wrap64 (rd s0_0 s0_1))))) + 1442695040888963407))) else (some (wrap64 (Go.bits .and .u64 ((IntKind.u64.wrap ((IntKind.u64.wrap ((IntKind.u64.wrap (s0_2 * 6364136223846793005)) + (IntKind.u64.wrap (wrap64 (rd s0_0 s0_1))))) + 1442695040888963407)) / 1099511627776) 255), wrap64 (s0_1 + 1), IntKind.u64.wrap ((IntKind.u64.wrap ((IntKind.u64.wrap (s0_2 * 6364136223846793005)) + (IntKind.u64.wrap (wrap64 (rd s0_0 s0_1))))) + 1442695040888963407)))) else (none)) else (if (wrap64 (s0_1 + 1)) ≤ (s0_0.length : Int) then (some (0, wrap64 (s0_1 + 1), IntKind.u64.wrap ((IntKind.u64.wrap (IntKind.u64.wrap (s0_2 * 6364136223846793005))) + 1442695040888963407))) else (some (wrap64 (Go.bits .and .u64 ((IntKind.u64.wrap ((IntKind.u64.wrap (IntKind.u64.wrap (s0_2 * 6364136223846793005))) + 1442695040888963407)) / 1099511627776) 255), wrap64 (s0_1 + 1), IntKind.u64.wrap ((IntKind.u64.wrap (IntKind.u64.wrap (s0_2 * 6364136223846793005))) + 1442695040888963407))))
set_option maxHeartbeats 8000000 in
set_option maxRecDepth 100000 in
theorem spec_l1Cur_next.calls (g : Nat) (s0_0 : List Int) (s0_1 : Int) (s0_2 : Int) (r1 : Int) (r2 : Int) (r3 : Int) (w0 w : World) (hI : IsS68 w0 w g s0_0 s0_1 s0_2) (hB : Below w0.heap.size w0 w) (h : spec_l1Cur_next.f s0_0 s0_1 s0_2 = some (r1, r2, r3)) :
  Calls Tryd.prog 62 #[.pointer (some ⟨g, 0, none⟩)] w fun e w' => e = .returned (.int .i64 r1) ∧ IsS68 w0 w' g s0_0 r2 r3 ∧ Below w0.heap.size w0 w' ∧ KeepBut w w' g none := by
 have HI0 := Aside0.mk hI
 have HK := Aside0.mk (KeepBut.refl w g none)
 have HL := Aside0.mk hB.size
 clear hI
 have HW0 := Aside0.mk hB.size
 have HB := Aside0.mk hB
 clear hB
 have H : (if s0_1 < (s0_0.length : Int) then (if 0 ≤ s0_1 then (if (wrap64 (s0_1 + 1)) ≤ (s0_0.length : Int) then (some (wrap64 (rd s0_0 s0_1), wrap64 (s0_1 + 1), IntKind.u64.wrap ((IntKind.u64.wrap ((IntKind.u64.wrap (s0_2 * 6364136223846793005)) + (IntKind.u64.wrap (wrap64 (rd s0_0 s0_1))))) + 1442695040888963407))) else (some (wrap64 (Go.bits .and .u64 ((IntKind.u64.wrap ((IntKind.u64.wrap ((IntKind.u64.wrap (s0_2 * 6364136223846793005)) + (IntKind.u64.wrap (wrap64 (rd s0_0 s0_1))))) + 1442695040888963407)) / 1099511627776) 255), wrap64 (s0_1 + 1), IntKind.u64.wrap ((IntKind.u64.wrap ((IntKind.u64.wrap (s0_2 * 6364136223846793005)) + (IntKind.u64.wrap (wrap64 (rd s0_0 s0_1))))) + 1442695040888963407)))) else (none)) else (if (wrap64 (s0_1 + 1)) ≤ (s0_0.length : Int) then (some (0, wrap64 (s0_1 + 1), IntKind.u64.wrap ((IntKind.u64.wrap (IntKind.u64.wrap (s0_2 * 6364136223846793005))) + 1442695040888963407))) else (some (wrap64 (Go.bits .and .u64 ((IntKind.u64.wrap ((IntKind.u64.wrap (IntKind.u64.wrap (s0_2 * 6364136223846793005))) + 1442695040888963407)) / 1099511627776) 255), wrap64 (s0_1 + 1), IntKind.u64.wrap ((IntKind.u64.wrap (IntKind.u64.wrap (s0_2 * 6364136223846793005))) + 1442695040888963407))))) = some (r1, r2, r3) := h
 clear h
 by_cases c2 : s0_1 < (s0_0.length : Int)
 ·rw [if_pos c2] at H
  have c2b0 : decide (s0_1 < (s0_0.length : Int)) = true := decide_eq_true c2
  clear c2
  by_cases c3 : 0 ≤ s0_1
  ·rw [if_pos c3] at H
   have c3b0 : decide (0 ≤ s0_1) = true := decide_eq_true c3
   clear c3
   by_cases c4 : (wrap64 (s0_1 + 1)) ≤ (s0_0.length : Int)
   ·rw [if_pos c4] at H
    have c4b0 : decide ((wrap64 (s0_1 + 1)) ≤ (s0_0.length : Int)) = true := decide_eq_true c4
    clear c4
    simp only [Option.some.injEq, Prod.mk.injEq] at H
    obtain ⟨rfl, rfl, rfl⟩ := H
    obtain ⟨ASz5_0, cSz5_0, HGz5, hgz5, HSz5_0⟩ := HI0.out
    have hcz5_0 := cellS68_0 HGz5
    have hcz5_1 := cellS68_1 HGz5
    have hcz5_2 := cellS68_2 HGz5
    have hfz5_1 := blk_frozen HGz5 1
    have hfz5_2 := blk_frozen HGz5 2
    clear HGz5 hgz5
    have p167 : 0 ≤ (s0_1 : Int) := of_decide_eq_true (by first | (with_reducible assumption) | assumption)
    have q167 : s0_1 < (s0_0.length : Int) := of_decide_eq_true (by first | (with_reducible assumption) | assumption)
    obtain ⟨ad167, e167, hx167_0⟩ := Kd.at_int HSz5_0 s0_1 p167 q167
    cases e167
    replace hx167_0 := pw_cell_below HB.out hx167_0
    replace p167 := eq_true p167
    replace q167 := eq_true q167
    go_enter Tryd.func62, Tryd.ntmps62
    go_wp2
    repeat (go_quiet (fail); try go_wp2)
    go_ret
    exact ⟨by first | rfl | (simp [errW_none, errW_some] <;> rfl) | (simp [*, errW_none, errW_some] <;> rfl), IsS68.q HI0, hbI_ HB (IsS68.ge HI0.out), hk_ HK⟩
   ·rw [if_neg c4] at H
    have c4b0 : decide ((wrap64 (s0_1 + 1)) ≤ (s0_0.length : Int)) = false := decide_eq_false c4
    clear c4
    simp only [Option.some.injEq, Prod.mk.injEq] at H
    obtain ⟨rfl, rfl, rfl⟩ := H
    obtain ⟨ASz6_0, cSz6_0, HGz6, hgz6, HSz6_0⟩ := HI0.out
    have hcz6_0 := cellS68_0 HGz6
    have hcz6_1 := cellS68_1 HGz6
    have hcz6_2 := cellS68_2 HGz6
    have hfz6_1 := blk_frozen HGz6 1
    have hfz6_2 := blk_frozen HGz6 2
    clear HGz6 hgz6
    have p167 : 0 ≤ (s0_1 : Int) := of_decide_eq_true (by first | (with_reducible assumption) | assumption)
    have q167 : s0_1 < (s0_0.length : Int) := of_decide_eq_true (by first | (with_reducible assumption) | assumption)
    obtain ⟨ad167, e167, hx167_0⟩ := Kd.at_int HSz6_0 s0_1 p167 q167
    cases e167
    replace hx167_0 := pw_cell_below HB.out hx167_0
    replace p167 := eq_true p167
    replace q167 := eq_true q167
    go_enter Tryd.func62, Tryd.ntmps62
    go_wp2
    repeat (go_quiet (fail); try go_wp2)
    go_ret
    exact ⟨by first | rfl | (simp [errW_none, errW_some] <;> rfl) | (simp [*, errW_none, errW_some] <;> rfl), IsS68.q HI0, hbI_ HB (IsS68.ge HI0.out), hk_ HK⟩
  ·rw [if_neg c3] at H
   exact absurd H (by simp)
 ·rw [if_neg c2] at H
  have c2b0 : decide (s0_1 < (s0_0.length : Int)) = false := decide_eq_false c2
  clear c2
  by_cases c7 : (wrap64 (s0_1 + 1)) ≤ (s0_0.length : Int)
  ·rw [if_pos c7] at H
   have c7b0 : decide ((wrap64 (s0_1 + 1)) ≤ (s0_0.length : Int)) = true := decide_eq_true c7
   clear c7
   simp only [Option.some.injEq, Prod.mk.injEq] at H
   obtain ⟨rfl, rfl, rfl⟩ := H
   obtain ⟨ASz8_0, cSz8_0, HGz8, hgz8, HSz8_0⟩ := HI0.out
   have hcz8_0 := cellS68_0 HGz8
   have hcz8_1 := cellS68_1 HGz8
   have hcz8_2 := cellS68_2 HGz8
   have hfz8_1 := blk_frozen HGz8 1
   have hfz8_2 := blk_frozen HGz8 2
   clear HGz8 hgz8
   go_enter Tryd.func62, Tryd.ntmps62
   go_wp2
   repeat (go_quiet (fail); try go_wp2)
   go_ret
   exact ⟨by first | rfl | (simp [errW_none, errW_some] <;> rfl) | (simp [*, errW_none, errW_some] <;> rfl), IsS68.q HI0, hbI_ HB (IsS68.ge HI0.out), hk_ HK⟩
  ·rw [if_neg c7] at H
   have c7b0 : decide ((wrap64 (s0_1 + 1)) ≤ (s0_0.length : Int)) = false := decide_eq_false c7
   clear c7
   simp only [Option.some.injEq, Prod.mk.injEq] at H
   obtain ⟨rfl, rfl, rfl⟩ := H
   obtain ⟨ASz9_0, cSz9_0, HGz9, hgz9, HSz9_0⟩ := HI0.out
   have hcz9_0 := cellS68_0 HGz9
   have hcz9_1 := cellS68_1 HGz9
   have hcz9_2 := cellS68_2 HGz9
   have hfz9_1 := blk_frozen HGz9 1
   have hfz9_2 := blk_frozen HGz9 2
   clear HGz9 hgz9
   go_enter Tryd.func62, Tryd.ntmps62
   go_wp2
   repeat (go_quiet (fail); try go_wp2)
   go_ret
   exact ⟨by first | rfl | (simp [errW_none, errW_some] <;> rfl) | (simp [*, errW_none, errW_some] <;> rfl), IsS68.q HI0, hbI_ HB (IsS68.ge HI0.out), hk_ HK⟩

/-! ### spec_l1Cur_pick: function 52 -/
def spec_l1Cur_pick.f (s0_0 : List Int) (s0_1 : Int) (s0_2 : Int) (a1 : Int) : Option (Int × Int × Int) := if a1 ≤ 1 then (some (0, s0_1, s0_2)) else ((spec_l1Cur_next.f s0_0 s0_1 s0_2).bind fun bt168 => (if a1 > 200 then ((spec_l1Cur_next.f s0_0 bt168.2.1 bt168.2.2).bind fun bt171 => (if a1 = 0 then (none) else (some (Int.tmod (wrap64 ((wrap64 (bt168.1 * 256)) + bt171.1)) a1, bt171.2.1, bt171.2.2)))) else (if a1 = 0 then (none) else (some (Int.tmod bt168.1 a1, bt168.2.1, bt168.2.2)))))
set_option maxHeartbeats 8000000 in
set_option maxRecDepth 100000 in
theorem spec_l1Cur_pick.calls (g : Nat) (s0_0 : List Int) (s0_1 : Int) (s0_2 : Int) (a1 : Int) (r1 : Int) (r2 : Int) (r3 : Int) (w0 w : World) (hI : IsS68 w0 w g s0_0 s0_1 s0_2) (hB : Below w0.heap.size w0 w) (h : spec_l1Cur_pick.f s0_0 s0_1 s0_2 a1 = some (r1, r2, r3)) :
  Calls Tryd.prog 52 #[.pointer (some ⟨g, 0, none⟩), .int .i64 a1] w fun e w' => e = .returned (.int .i64 r1) ∧ IsS68 w0 w' g s0_0 r2 r3 ∧ Below w0.heap.size w0 w' ∧ KeepBut w w' g none := by
 have HI0 := Aside0.mk hI
 have HK := Aside0.mk (KeepBut.refl w g none)
 have HL := Aside0.mk hB.size
 clear hI
 have HW0 := Aside0.mk hB.size
 have HB := Aside0.mk hB
 clear hB
 have H : (if a1 ≤ 1 then (some (0, s0_1, s0_2)) else ((spec_l1Cur_next.f s0_0 s0_1 s0_2).bind fun bt168 => (if a1 > 200 then ((spec_l1Cur_next.f s0_0 bt168.2.1 bt168.2.2).bind fun bt171 => (if a1 = 0 then (none) else (some (Int.tmod (wrap64 ((wrap64 (bt168.1 * 256)) + bt171.1)) a1, bt171.2.1, bt171.2.2)))) else (if a1 = 0 then (none) else (some (Int.tmod bt168.1 a1, bt168.2.1, bt168.2.2)))))) = some (r1, r2, r3) := h
 clear h
 by_cases c3 : a1 ≤ 1
 ·rw [if_pos c3] at H
  have c3b0 : decide (a1 ≤ 1) = true := decide_eq_true c3
  clear c3
  simp only [Option.some.injEq, Prod.mk.injEq] at H
  obtain ⟨rfl, rfl, rfl⟩ := H
  go_enter Tryd.func52, Tryd.ntmps52
  go_wp2
  go_ret
  exact ⟨by first | rfl | (simp [errW_none, errW_some] <;> rfl) | (simp [*, errW_none, errW_some] <;> rfl), IsS68.q HI0, hbI_ HB (IsS68.ge HI0.out), hk_ HK⟩
 ·rw [if_neg c3] at H
  have c3b0 : decide (a1 ≤ 1) = false := decide_eq_false c3
  clear c3
  replace H := Option.bind_eq_some_iff.mp H
  obtain ⟨⟨t168, t169, t170⟩, A40, H⟩ := H
  replace H : (if a1 > 200 then ((spec_l1Cur_next.f s0_0 t169 t170).bind fun bt171 => (if a1 = 0 then (none) else (some (Int.tmod (wrap64 ((wrap64 (t168 * 256)) + bt171.1)) a1, bt171.2.1, bt171.2.2)))) else (if a1 = 0 then (none) else (some (Int.tmod t168 a1, t169, t170)))) = some (r1, r2, r3) := H
  have A4 := Aside0.mk A40
  clear A40
  by_cases c5 : a1 > 200
  ·rw [if_pos c5] at H
   have c5b0 : decide (200 < a1) = true := decide_eq_true c5
   clear c5
   replace H := Option.bind_eq_some_iff.mp H
   obtain ⟨⟨t171, t172, t173⟩, A60, H⟩ := H
   replace H : (if a1 = 0 then (none) else (some (Int.tmod (wrap64 ((wrap64 (t168 * 256)) + t171)) a1, t172, t173))) = some (r1, r2, r3) := H
   have A6 := Aside0.mk A60
   clear A60
   by_cases c7 : a1 = 0
   ·rw [if_pos c7] at H
    exact absurd H (by simp)
   ·rw [if_neg c7] at H
    have c7b0 : (a1 == 0) = false := beq_eq_false_iff_ne.mpr c7
    have c7b1 : (a1 != 0) = true := bne_iff_ne.mpr c7
    simp only [Option.some.injEq, Prod.mk.injEq] at H
    obtain ⟨rfl, rfl, rfl⟩ := H
    go_enter Tryd.func52, Tryd.ntmps52
    go_wp2_with (first | ((with_reducible refine gate_callee (f := 62) rfl ?_); refine gl_ (some 9) Tryd.func62 #[.pointer (some ⟨g, 0, none⟩)] rfl rfl rfl ?_; (with_reducible refine (spec_l1Cur_next.calls g s0_0 s0_1 s0_2 t168 t169 t170 w0 _ ?side1 ?side2 A4.out).mono ?_); (case side1 => exact IsS68.q HI0); (case side2 => exact hbI_ HB (IsS68.ge HI0.out)); rintro e w8 ⟨rfl, hi, hb, hk⟩; refine ⟨_, rfl, ?_⟩; replace HK := Aside0.mk (KeepBut.trans (hk_ HK) hk (.inl rfl)); replace HB := Aside0.mk (hb); replace HI0 := Aside0.mk (hi); (try clear hb); (try clear hb2); (try clear hk); (try clear hi)) | ((with_reducible refine gate_callee (f := 62) rfl ?_); refine gl_ (some 15) Tryd.func62 #[.pointer (some ⟨g, 0, none⟩)] rfl rfl rfl ?_; (with_reducible refine (spec_l1Cur_next.calls g s0_0 t169 t170 t171 t172 t173 w0 _ ?side1 ?side2 A6.out).mono ?_); (case side1 => exact IsS68.q HI0); (case side2 => exact hbI_ HB (IsS68.ge HI0.out)); rintro e w9 ⟨rfl, hi, hb, hk⟩; refine ⟨_, rfl, ?_⟩; replace HK := Aside0.mk (KeepBut.trans (hk_ HK) hk (.inl rfl)); replace HB := Aside0.mk (hb); replace HI0 := Aside0.mk (hi); (try clear hb); (try clear hb2); (try clear hk); (try clear hi)))
    go_ret
    exact ⟨by first | rfl | (simp [errW_none, errW_some] <;> rfl) | (simp [*, errW_none, errW_some] <;> rfl), IsS68.q HI0, hbI_ HB (IsS68.ge HI0.out), hk_ HK⟩
  ·rw [if_neg c5] at H
   have c5b0 : decide (200 < a1) = false := decide_eq_false c5
   clear c5
   by_cases c10 : a1 = 0
   ·rw [if_pos c10] at H
    exact absurd H (by simp)
   ·rw [if_neg c10] at H
    have c10b0 : (a1 == 0) = false := beq_eq_false_iff_ne.mpr c10
    have c10b1 : (a1 != 0) = true := bne_iff_ne.mpr c10
    simp only [Option.some.injEq, Prod.mk.injEq] at H
    obtain ⟨rfl, rfl, rfl⟩ := H
    go_enter Tryd.func52, Tryd.ntmps52
    go_wp2_with (first | ((with_reducible refine gate_callee (f := 62) rfl ?_); refine gl_ (some 9) Tryd.func62 #[.pointer (some ⟨g, 0, none⟩)] rfl rfl rfl ?_; (with_reducible refine (spec_l1Cur_next.calls g s0_0 s0_1 s0_2 t168 t169 t170 w0 _ ?side1 ?side2 A4.out).mono ?_); (case side1 => exact IsS68.q HI0); (case side2 => exact hbI_ HB (IsS68.ge HI0.out)); rintro e w11 ⟨rfl, hi, hb, hk⟩; refine ⟨_, rfl, ?_⟩; replace HK := Aside0.mk (KeepBut.trans (hk_ HK) hk (.inl rfl)); replace HB := Aside0.mk (hb); replace HI0 := Aside0.mk (hi); (try clear hb); (try clear hb2); (try clear hk); (try clear hi)))
    go_ret
    exact ⟨by first | rfl | (simp [errW_none, errW_some] <;> rfl) | (simp [*, errW_none, errW_some] <;> rfl), IsS68.q HI0, hbI_ HB (IsS68.ge HI0.out), hk_ HK⟩

/-! ### spec_l1Cur_one: function 54 -/
def spec_l1Cur_one.f (s0_0 : List Int) (s0_1 : Int) (s0_2 : Int) (a1 : Int) : Option (Bool × Int × Int) := (spec_l1Cur_pick.f s0_0 s0_1 s0_2 a1).bind fun bt174 => (some ((bt174.1 == 0), bt174.2.1, bt174.2.2))
set_option maxHeartbeats 8000000 in
set_option maxRecDepth 100000 in
theorem spec_l1Cur_one.calls (g : Nat) (s0_0 : List Int) (s0_1 : Int) (s0_2 : Int) (a1 : Int) (r1 : Bool) (r2 : Int) (r3 : Int) (w0 w : World) (hI : IsS68 w0 w g s0_0 s0_1 s0_2) (hB : Below w0.heap.size w0 w) (h : spec_l1Cur_one.f s0_0 s0_1 s0_2 a1 = some (r1, r2, r3)) :
  Calls Tryd.prog 54 #[.pointer (some ⟨g, 0, none⟩), .int .i64 a1] w fun e w' => e = .returned (.bool r1) ∧ IsS68 w0 w' g s0_0 r2 r3 ∧ Below w0.heap.size w0 w' ∧ KeepBut w w' g none := by
 have HI0 := Aside0.mk hI
 have HK := Aside0.mk (KeepBut.refl w g none)
 have HL := Aside0.mk hB.size
 clear hI
 have HW0 := Aside0.mk hB.size
 have HB := Aside0.mk hB
 clear hB
 have H : ((spec_l1Cur_pick.f s0_0 s0_1 s0_2 a1).bind fun bt174 => (some ((bt174.1 == 0), bt174.2.1, bt174.2.2))) = some (r1, r2, r3) := h
 clear h
 replace H := Option.bind_eq_some_iff.mp H
 obtain ⟨⟨t174, t175, t176⟩, A30, H⟩ := H
 replace H : (some ((t174 == 0), t175, t176)) = some (r1, r2, r3) := H
 have A3 := Aside0.mk A30
 clear A30
 simp only [Option.some.injEq, Prod.mk.injEq] at H
 obtain ⟨rfl, rfl, rfl⟩ := H
 go_enter Tryd.func54, Tryd.ntmps54
 go_wp2_with (first | ((with_reducible refine gate_callee (f := 52) rfl ?_); refine gl_ (some 7) Tryd.func52 #[.pointer (some ⟨g, 0, none⟩), .int .i64 a1] rfl rfl rfl ?_; (with_reducible refine (spec_l1Cur_pick.calls g s0_0 s0_1 s0_2 a1 t174 t175 t176 w0 _ ?side1 ?side2 A3.out).mono ?_); (case side1 => exact IsS68.q HI0); (case side2 => exact hbI_ HB (IsS68.ge HI0.out)); rintro e w4 ⟨rfl, hi, hb, hk⟩; refine ⟨_, rfl, ?_⟩; replace HK := Aside0.mk (KeepBut.trans (hk_ HK) hk (.inl rfl)); replace HB := Aside0.mk (hb); replace HI0 := Aside0.mk (hi); (try clear hb); (try clear hb2); (try clear hk); (try clear hi)))
 go_ret
 exact ⟨by first | rfl | (simp [errW_none, errW_some] <;> rfl) | (simp [*, errW_none, errW_some] <;> rfl), IsS68.q HI0, hbI_ HB (IsS68.ge HI0.out), hk_ HK⟩

/-! ### spec_l1Cur_grid: function 60 -/
def spec_l1Cur_grid.f (s0_0 : List Int) (s0_1 : Int) (s0_2 : Int) : Option (Int × Int × Int × Int × Int) := (spec_l1Cur_one.f s0_0 s0_1 s0_2 24).bind fun bt178 => (if bt178.1 = true then ((some (([(⟨8, 5, 3⟩ : S26), (⟨8, 3, 5⟩ : S26), (⟨4, 6, 5⟩ : S26), (⟨1, 1, 1⟩ : S26)] : List (S26)) : List (S26))).bind fun y181 => ((spec_l1Cur_pick.f s0_0 bt178.2.1 bt178.2.2 4).bind fun bt184 => (if 0 ≤ bt184.1 then (if bt184.1 < (y181.length : Int) then (some ((rd_T26 y181 bt184.1).f0, (rd_T26 y181 bt184.1).f1, (rd_T26 y181 bt184.1).f2, bt184.2.1, bt184.2.2)) else (none)) else (none)))) else ((spec_l1Cur_pick.f s0_0 bt178.2.1 bt178.2.2 4).bind fun bt188 => ((spec_l1Cur_pick.f s0_0 bt188.2.1 bt188.2.2 3).bind fun bt191 => ((spec_l1Cur_pick.f s0_0 bt191.2.1 bt191.2.2 3).bind fun bt194 => (some (wrap64 (1 + bt188.1), wrap64 (1 + bt191.1), wrap64 (1 + bt194.1), bt194.2.1, bt194.2.2))))))
set_option maxHeartbeats 8000000 in
set_option maxRecDepth 100000 in
theorem spec_l1Cur_grid.calls (g : Nat) (s0_0 : List Int) (s0_1 : Int) (s0_2 : Int) (r1 : Int) (r2 : Int) (r3 : Int) (r4 : Int) (r5 : Int) (w0 w : World) (hI : IsS68 w0 w g s0_0 s0_1 s0_2) (hB : Below w0.heap.size w0 w) (h : spec_l1Cur_grid.f s0_0 s0_1 s0_2 = some (r1, r2, r3, r4, r5)) :
  Calls Tryd.prog 60 #[.pointer (some ⟨g, 0, none⟩)] w fun e w' => e = .returned (.agg #[.int .i64 r1, .int .i64 r2, .int .i64 r3]) ∧ IsS68 w0 w' g s0_0 r4 r5 ∧ Below w0.heap.size w0 w' ∧ KeepBut w w' g none := by
 have hu26 := Tryd.underlying26
 have HI0 := Aside0.mk hI
 have HK := Aside0.mk (KeepBut.refl w g none)
 have HL := Aside0.mk hB.size
 clear hI
 have HW0 := Aside0.mk hB.size
 have HB := Aside0.mk hB
 clear hB
 have H : ((spec_l1Cur_one.f s0_0 s0_1 s0_2 24).bind fun bt178 => (if bt178.1 = true then ((some (([(⟨8, 5, 3⟩ : S26), (⟨8, 3, 5⟩ : S26), (⟨4, 6, 5⟩ : S26), (⟨1, 1, 1⟩ : S26)] : List (S26)) : List (S26))).bind fun y181 => ((spec_l1Cur_pick.f s0_0 bt178.2.1 bt178.2.2 4).bind fun bt184 => (if 0 ≤ bt184.1 then (if bt184.1 < (y181.length : Int) then (some ((rd_T26 y181 bt184.1).f0, (rd_T26 y181 bt184.1).f1, (rd_T26 y181 bt184.1).f2, bt184.2.1, bt184.2.2)) else (none)) else (none)))) else ((spec_l1Cur_pick.f s0_0 bt178.2.1 bt178.2.2 4).bind fun bt188 => ((spec_l1Cur_pick.f s0_0 bt188.2.1 bt188.2.2 3).bind fun bt191 => ((spec_l1Cur_pick.f s0_0 bt191.2.1 bt191.2.2 3).bind fun bt194 => (some (wrap64 (1 + bt188.1), wrap64 (1 + bt191.1), wrap64 (1 + bt194.1), bt194.2.1, bt194.2.2))))))) = some (r1, r2, r3, r4, r5) := h
 clear h
 replace H := Option.bind_eq_some_iff.mp H
 obtain ⟨⟨t178, t179, t180⟩, A20, H⟩ := H
 replace H : (if t178 = true then ((some (([(⟨8, 5, 3⟩ : S26), (⟨8, 3, 5⟩ : S26), (⟨4, 6, 5⟩ : S26), (⟨1, 1, 1⟩ : S26)] : List (S26)) : List (S26))).bind fun y181 => ((spec_l1Cur_pick.f s0_0 t179 t180 4).bind fun bt184 => (if 0 ≤ bt184.1 then (if bt184.1 < (y181.length : Int) then (some ((rd_T26 y181 bt184.1).f0, (rd_T26 y181 bt184.1).f1, (rd_T26 y181 bt184.1).f2, bt184.2.1, bt184.2.2)) else (none)) else (none)))) else ((spec_l1Cur_pick.f s0_0 t179 t180 4).bind fun bt188 => ((spec_l1Cur_pick.f s0_0 bt188.2.1 bt188.2.2 3).bind fun bt191 => ((spec_l1Cur_pick.f s0_0 bt191.2.1 bt191.2.2 3).bind fun bt194 => (some (wrap64 (1 + bt188.1), wrap64 (1 + bt191.1), wrap64 (1 + bt194.1), bt194.2.1, bt194.2.2)))))) = some (r1, r2, r3, r4, r5) := H
 have A2 := Aside0.mk A20
 clear A20
 by_cases c3 : t178 = true
 ·subst c3
  have H1 : ((some (([(⟨8, 5, 3⟩ : S26), (⟨8, 3, 5⟩ : S26), (⟨4, 6, 5⟩ : S26), (⟨1, 1, 1⟩ : S26)] : List (S26)) : List (S26))).bind fun y181 => ((spec_l1Cur_pick.f s0_0 t179 t180 4).bind fun bt184 => (if 0 ≤ bt184.1 then (if bt184.1 < (y181.length : Int) then (some ((rd_T26 y181 bt184.1).f0, (rd_T26 y181 bt184.1).f1, (rd_T26 y181 bt184.1).f2, bt184.2.1, bt184.2.2)) else (none)) else (none)))) = some (r1, r2, r3, r4, r5) := by rw [if_pos rfl] at H; exact H
  clear H
  have H := H1
  clear H1
  obtain ⟨y181, hy181⟩ : ∃ y_ : List (S26), y_ = (([(⟨8, 5, 3⟩ : S26), (⟨8, 3, 5⟩ : S26), (⟨4, 6, 5⟩ : S26), (⟨1, 1, 1⟩ : S26)] : List (S26))) := ⟨_, rfl⟩
  replace H : ((spec_l1Cur_pick.f s0_0 t179 t180 4).bind fun bt184 => (if 0 ≤ bt184.1 then (if bt184.1 < (y181.length : Int) then (some ((rd_T26 y181 bt184.1).f0, (rd_T26 y181 bt184.1).f1, (rd_T26 y181 bt184.1).f2, bt184.2.1, bt184.2.2)) else (none)) else (none))) = some (r1, r2, r3, r4, r5) := by first | (rw [hy181]; with_reducible exact H) | (have H2_ := (Option.bind_some _ _).symm.trans H; rw [hy181]; with_reducible exact H2_) | (have H2_ := (Option.bind_some _ _).symm.trans H; with_reducible exact H2_) | with_reducible exact H | (rw [hy181]; exact H) | exact H
  have Ny181 := Aside0.mk hy181
  clear hy181
  replace H := Option.bind_eq_some_iff.mp H
  obtain ⟨⟨t184, t185, t186⟩, A40, H⟩ := H
  replace H : (if 0 ≤ t184 then (if t184 < (y181.length : Int) then (some ((rd_T26 y181 t184).f0, (rd_T26 y181 t184).f1, (rd_T26 y181 t184).f2, t185, t186)) else (none)) else (none)) = some (r1, r2, r3, r4, r5) := H
  have A4 := Aside0.mk A40
  clear A40
  by_cases c5 : 0 ≤ t184
  ·rw [if_pos c5] at H
   have c5b0 : decide (0 ≤ t184) = true := decide_eq_true c5
   clear c5
   by_cases c6 : t184 < (y181.length : Int)
   ·rw [if_pos c6] at H
    have c6b0 : decide (t184 < (y181.length : Int)) = true := decide_eq_true c6
    clear c6
    simp only [Option.some.injEq, Prod.mk.injEq] at H
    obtain ⟨rfl, rfl, rfl, rfl, rfl⟩ := H
    go_enter Tryd.func60, Tryd.ntmps60
    go_wp2_with (first | ((with_reducible refine gate_dst (N := 2) rfl ?_); refine box_event ?hg (N := 2) ?hd (cs := #[.int .i64 0, .int .i64 0, .int .i64 0]) (t := 26) ?hr ?_; (case hd => rfl); (case hg => rfl); (case hr => first | (go_simp; done) | (go_simp; rfl)); intro gb177 hg w7 hbox hb; have BK177 := Aside0.mk (hbox); have GW177 := Aside0.mk ((by rw [hg]; exact (keep_size (hk_ HK)) : w.heap.size ≤ gb177)); have GE177 := Aside0.mk ((Nat.le_trans HW0.out (by rw [hg]; exact (keep_size (hk_ HK)) : w.heap.size ≤ gb177) : w0.heap.size ≤ gb177)); have NB0_177 := Aside0.mk ((by rw [hg]; exact Nat.ne_of_lt (IsS68.lt (show IsS68 w0 _ g s0_0 s0_1 s0_2 from IsS68.q HI0)) : g ≠ gb177)); have NB177_0 := Aside0.mk ((by rw [hg]; exact Nat.ne_of_gt (IsS68.lt (show IsS68 w0 _ g s0_0 s0_1 s0_2 from IsS68.q HI0)) : gb177 ≠ g)); replace HK := hkb_ HK hb; replace HB := Aside0.mk (below_step (hbI_ HB (IsS68.ge HI0.out)) hb); replace HI0 := IsS68.b HI0 hb; clear hb hbox hg) | ((with_reducible refine gate_callee (f := 54) rfl ?_); refine gl_ (some 4) Tryd.func54 #[.pointer (some ⟨g, 0, none⟩), .int .i64 24] rfl rfl rfl ?_; (with_reducible refine (spec_l1Cur_one.calls g s0_0 s0_1 s0_2 24 true t179 t180 w0 _ ?side1 ?side2 A2.out).mono ?_); (case side1 => exact IsS68.q HI0); (case side2 => exact hbI_ HB (IsS68.ge HI0.out)); rintro e w8 ⟨rfl, hi, hb, hk⟩; refine ⟨_, rfl, ?_⟩; replace BK177 := kk_ BK177 hk NB177_0; replace HK := Aside0.mk (KeepBut.trans (hk_ HK) hk (.inl rfl)); replace HB := Aside0.mk (hb); replace HI0 := Aside0.mk (hi); (try clear hb); (try clear hb2); (try clear hk); (try clear hi)) | ((with_reducible refine gate_dst (N := 9) rfl ?_); refine Kd.R_lit k26 _ 26 ?hg (N := 9) ?hd (xs := ([(⟨8, 5, 3⟩ : S26), (⟨8, 3, 5⟩ : S26), (⟨4, 6, 5⟩ : S26), (⟨1, 1, 1⟩ : S26)] : List (S26))) (inner := [.int .i64 8, .int .i64 5, .int .i64 3, .int .i64 8, .int .i64 3, .int .i64 5, .int .i64 4, .int .i64 6, .int .i64 5, .int .i64 1, .int .i64 1, .int .i64 1]) (ok := fun _ => True) (okp := fun _ => True) ?hr ?hp (fun _ hk => hk) trivial (Below.refl _ _) (Nat.le_refl _) (by simp) ?_; (case hd => rfl); (case hg => rfl); (case hr => first | (go_simp; done) | (go_simp; rfl)); (case hp => exact (Reps.c3 (show Kd.M k26 _ _ _ (⟨8, 5, 3⟩ : S26) [.int .i64 8, .int .i64 5, .int .i64 3] from (k26_mkM _ _ _ (⟨8, 5, 3⟩ : S26) )) (Reps.c3 (show Kd.M k26 _ _ _ (⟨8, 3, 5⟩ : S26) [.int .i64 8, .int .i64 3, .int .i64 5] from (k26_mkM _ _ _ (⟨8, 3, 5⟩ : S26) )) (Reps.c3 (show Kd.M k26 _ _ _ (⟨4, 6, 5⟩ : S26) [.int .i64 4, .int .i64 6, .int .i64 5] from (k26_mkM _ _ _ (⟨4, 6, 5⟩ : S26) )) (Reps.c3 (show Kd.M k26 _ _ _ (⟨1, 1, 1⟩ : S26) [.int .i64 1, .int .i64 1, .int .i64 1] from (k26_mkM _ _ _ (⟨1, 1, 1⟩ : S26) )) (Reps.none _ _)))))); intro v182 w9 ho10 hb hg_ hnew_; clear hg_ hnew_; (first | rw [← Ny181.out] at ho10 | (simp only [Int.reduceToNat] at ho10; rw [← Ny181.out] at ho10)); have HO183 := Aside0.mk (Kd.R_lower (Kd.R_newB ho10 (g := gb177) (o := .cells #[.int .i64 0, .int .i64 0, .int .i64 0] 26 (0, 0)) (kp_ BK177)) (keep_size (hk_ HK))); replace BK177 := kb_ BK177 hb; replace HK := hkb_ HK hb; replace HB := Aside0.mk (below_step (hbI_ HB (IsS68.ge HI0.out)) hb); replace HI0 := IsS68.b HI0 hb; clear hb ho10) | ((with_reducible refine gate_callee (f := 52) rfl ?_); refine gl_ (some 11) Tryd.func52 #[.pointer (some ⟨g, 0, none⟩), .int .i64 4] rfl rfl rfl ?_; (with_reducible refine (spec_l1Cur_pick.calls g s0_0 t179 t180 4 t184 t185 t186 w0 _ ?side1 ?side2 A4.out).mono ?_); (case side1 => exact IsS68.q HI0); (case side2 => exact hbI_ HB (IsS68.ge HI0.out)); rintro e w11 ⟨rfl, hi, hb, hk⟩; refine ⟨_, rfl, ?_⟩; have n0_ := Aside0.mk (KeepBut.blk hk (kp_ BK177) NB177_0.out (by simp)); have n1_ := IsS68.rk HI0 HO183 hk; have n2_ := Aside0.mk (KeepBut.trans (hk_ HK) hk (.inl rfl)); have n3_ := Aside0.mk (hb); have n4_ := Aside0.mk (hi); clear BK177 HO183 HK HB HI0; have BK177 := n0_; have HO183 := n1_; have HK := n2_; have HB := n3_; have HI0 := n4_; clear n0_ n1_ n2_ n3_ n4_; (try clear hb); (try clear hb2); (try clear hk); (try clear hi); obtain ⟨Ao12, co12, eo12⟩ := Kd.R_slice HO183.out; subst eo12; have p187 : 0 ≤ (t184 : Int) := of_decide_eq_true (by first | (with_reducible assumption) | assumption); have q187 : t184 < (y181.length : Int) := of_decide_eq_true (by first | (with_reducible assumption) | assumption); obtain ⟨ad187, e187, hx187_0, hx187_1, hx187_2⟩ := at_T26 (Kd.R_reads' HO183.out).2.2 t184 p187 q187; cases e187; replace p187 := eq_true p187; replace q187 := eq_true q187; have hnb13 := NB177_0.out; have hnc13 := NB0_177.out; obtain ⟨hcz14_0, hcz14_1, hcz14_2, hfz14_0, hfz14_1, hfz14_2⟩ := bx3 BK177))
    refine bodyPost_ret (results_cell_row rfl _ _ gb177 26 #[.int .i64 ((rd_T26 y181 t184).f0), .int .i64 ((rd_T26 y181 t184).f1), .int .i64 ((rd_T26 y181 t184).f2)] (0, 0) _ rfl (kpq_ (kputs BK177 [(0, _), (1, _), (2, _)])) Tryd.underlying26 rfl (by kernel_rfl)) rfl ?_
    exact ⟨by first | rfl | (simp [errW_none, errW_some] <;> rfl) | (simp [*, errW_none, errW_some] <;> rfl), IsS68.q HI0, hbI_ HB (IsS68.ge HI0.out), hk_ HK⟩
   ·rw [if_neg c6] at H
    exact absurd H (by simp)
  ·rw [if_neg c5] at H
   exact absurd H (by simp)
 ·replace c3 := Bool.eq_false_iff.mpr c3
  subst c3
  have H1 : ((spec_l1Cur_pick.f s0_0 t179 t180 4).bind fun bt188 => ((spec_l1Cur_pick.f s0_0 bt188.2.1 bt188.2.2 3).bind fun bt191 => ((spec_l1Cur_pick.f s0_0 bt191.2.1 bt191.2.2 3).bind fun bt194 => (some (wrap64 (1 + bt188.1), wrap64 (1 + bt191.1), wrap64 (1 + bt194.1), bt194.2.1, bt194.2.2))))) = some (r1, r2, r3, r4, r5) := by rw [if_neg (show ¬ (false = true) by decide)] at H; exact H
  clear H
  have H := H1
  clear H1
  replace H := Option.bind_eq_some_iff.mp H
  obtain ⟨⟨t188, t189, t190⟩, A150, H⟩ := H
  replace H : ((spec_l1Cur_pick.f s0_0 t189 t190 3).bind fun bt191 => ((spec_l1Cur_pick.f s0_0 bt191.2.1 bt191.2.2 3).bind fun bt194 => (some (wrap64 (1 + t188), wrap64 (1 + bt191.1), wrap64 (1 + bt194.1), bt194.2.1, bt194.2.2)))) = some (r1, r2, r3, r4, r5) := H
  have A15 := Aside0.mk A150
  clear A150
  replace H := Option.bind_eq_some_iff.mp H
  obtain ⟨⟨t191, t192, t193⟩, A160, H⟩ := H
  replace H : ((spec_l1Cur_pick.f s0_0 t192 t193 3).bind fun bt194 => (some (wrap64 (1 + t188), wrap64 (1 + t191), wrap64 (1 + bt194.1), bt194.2.1, bt194.2.2))) = some (r1, r2, r3, r4, r5) := H
  have A16 := Aside0.mk A160
  clear A160
  replace H := Option.bind_eq_some_iff.mp H
  obtain ⟨⟨t194, t195, t196⟩, A170, H⟩ := H
  replace H : (some (wrap64 (1 + t188), wrap64 (1 + t191), wrap64 (1 + t194), t195, t196)) = some (r1, r2, r3, r4, r5) := H
  have A17 := Aside0.mk A170
  clear A170
  simp only [Option.some.injEq, Prod.mk.injEq] at H
  obtain ⟨rfl, rfl, rfl, rfl, rfl⟩ := H
  go_enter Tryd.func60, Tryd.ntmps60
  go_wp2_with (first | ((with_reducible refine gate_dst (N := 2) rfl ?_); refine box_event ?hg (N := 2) ?hd (cs := #[.int .i64 0, .int .i64 0, .int .i64 0]) (t := 26) ?hr ?_; (case hd => rfl); (case hg => rfl); (case hr => first | (go_simp; done) | (go_simp; rfl)); intro gb177 hg w18 hbox hb; have BK177 := Aside0.mk (hbox); have GW177 := Aside0.mk ((by rw [hg]; exact (keep_size (hk_ HK)) : w.heap.size ≤ gb177)); have GE177 := Aside0.mk ((Nat.le_trans HW0.out (by rw [hg]; exact (keep_size (hk_ HK)) : w.heap.size ≤ gb177) : w0.heap.size ≤ gb177)); have NB0_177 := Aside0.mk ((by rw [hg]; exact Nat.ne_of_lt (IsS68.lt (show IsS68 w0 _ g s0_0 s0_1 s0_2 from IsS68.q HI0)) : g ≠ gb177)); have NB177_0 := Aside0.mk ((by rw [hg]; exact Nat.ne_of_gt (IsS68.lt (show IsS68 w0 _ g s0_0 s0_1 s0_2 from IsS68.q HI0)) : gb177 ≠ g)); replace HK := hkb_ HK hb; replace HB := Aside0.mk (below_step (hbI_ HB (IsS68.ge HI0.out)) hb); replace HI0 := IsS68.b HI0 hb; clear hb hbox hg) | ((with_reducible refine gate_callee (f := 54) rfl ?_); refine gl_ (some 4) Tryd.func54 #[.pointer (some ⟨g, 0, none⟩), .int .i64 24] rfl rfl rfl ?_; (with_reducible refine (spec_l1Cur_one.calls g s0_0 s0_1 s0_2 24 false t179 t180 w0 _ ?side1 ?side2 A2.out).mono ?_); (case side1 => exact IsS68.q HI0); (case side2 => exact hbI_ HB (IsS68.ge HI0.out)); rintro e w19 ⟨rfl, hi, hb, hk⟩; refine ⟨_, rfl, ?_⟩; replace BK177 := kk_ BK177 hk NB177_0; replace HK := Aside0.mk (KeepBut.trans (hk_ HK) hk (.inl rfl)); replace HB := Aside0.mk (hb); replace HI0 := Aside0.mk (hi); (try clear hb); (try clear hb2); (try clear hk); (try clear hi)) | ((with_reducible refine gate_callee (f := 52) rfl ?_); refine gl_ (some 15) Tryd.func52 #[.pointer (some ⟨g, 0, none⟩), .int .i64 4] rfl rfl rfl ?_; (with_reducible refine (spec_l1Cur_pick.calls g s0_0 t179 t180 4 t188 t189 t190 w0 _ ?side1 ?side2 A15.out).mono ?_); (case side1 => exact IsS68.q HI0); (case side2 => exact hbI_ HB (IsS68.ge HI0.out)); rintro e w20 ⟨rfl, hi, hb, hk⟩; refine ⟨_, rfl, ?_⟩; replace BK177 := kk_ BK177 hk NB177_0; replace HK := Aside0.mk (KeepBut.trans (hk_ HK) hk (.inl rfl)); replace HB := Aside0.mk (hb); replace HI0 := Aside0.mk (hi); (try clear hb); (try clear hb2); (try clear hk); (try clear hi)) | ((with_reducible refine gate_callee (f := 52) rfl ?_); refine gl_ (some 18) Tryd.func52 #[.pointer (some ⟨g, 0, none⟩), .int .i64 3] rfl rfl rfl ?_; (with_reducible refine (spec_l1Cur_pick.calls g s0_0 t189 t190 3 t191 t192 t193 w0 _ ?side1 ?side2 A16.out).mono ?_); (case side1 => exact IsS68.q HI0); (case side2 => exact hbI_ HB (IsS68.ge HI0.out)); rintro e w21 ⟨rfl, hi, hb, hk⟩; refine ⟨_, rfl, ?_⟩; replace BK177 := kk_ BK177 hk NB177_0; replace HK := Aside0.mk (KeepBut.trans (hk_ HK) hk (.inl rfl)); replace HB := Aside0.mk (hb); replace HI0 := Aside0.mk (hi); (try clear hb); (try clear hb2); (try clear hk); (try clear hi)) | ((with_reducible refine gate_callee (f := 52) rfl ?_); refine gl_ (some 21) Tryd.func52 #[.pointer (some ⟨g, 0, none⟩), .int .i64 3] rfl rfl rfl ?_; (with_reducible refine (spec_l1Cur_pick.calls g s0_0 t192 t193 3 t194 t195 t196 w0 _ ?side1 ?side2 A17.out).mono ?_); (case side1 => exact IsS68.q HI0); (case side2 => exact hbI_ HB (IsS68.ge HI0.out)); rintro e w22 ⟨rfl, hi, hb, hk⟩; refine ⟨_, rfl, ?_⟩; replace BK177 := kk_ BK177 hk NB177_0; replace HK := Aside0.mk (KeepBut.trans (hk_ HK) hk (.inl rfl)); replace HB := Aside0.mk (hb); replace HI0 := Aside0.mk (hi); (try clear hb); (try clear hb2); (try clear hk); (try clear hi); have hnb23 := NB177_0.out; have hnc23 := NB0_177.out; obtain ⟨hcz24_0, hcz24_1, hcz24_2, hfz24_0, hfz24_1, hfz24_2⟩ := bx3 BK177))
  refine bodyPost_ret (results_cell_row rfl _ _ gb177 26 #[.int .i64 (wrap64 (1 + t188)), .int .i64 (wrap64 (1 + t191)), .int .i64 (wrap64 (1 + t194))] (0, 0) _ rfl (kpq_ (kputs BK177 [(0, _), (1, _), (2, _)])) Tryd.underlying26 rfl (by kernel_rfl)) rfl ?_
  exact ⟨by first | rfl | (simp [errW_none, errW_some] <;> rfl) | (simp [*, errW_none, errW_some] <;> rfl), IsS68.q HI0, hbI_ HB (IsS68.ge HI0.out), hk_ HK⟩

/-! ### spec_l1Cur_among: function 61 -/
def spec_l1Cur_among.f (s0_0 : List Int) (s0_1 : Int) (s0_2 : Int) (l1 : List Int) : Option (Int × Int × Int) := (spec_l1Cur_pick.f s0_0 s0_1 s0_2 (l1.length : Int)).bind fun bt197 => (if 0 ≤ bt197.1 then (if bt197.1 < (l1.length : Int) then (some (rd l1 bt197.1, bt197.2.1, bt197.2.2)) else (none)) else (none))
set_option maxHeartbeats 8000000 in
set_option maxRecDepth 100000 in
theorem spec_l1Cur_among.calls (g : Nat) (s0_0 : List Int) (s0_1 : Int) (s0_2 : Int) (A1 : Option Addr) (c1 : Nat) (l1 : List Int) (r1 : Int) (r2 : Int) (r3 : Int) (w0 w : World) (hI : IsS68 w0 w g s0_0 s0_1 s0_2) (hB : Below w0.heap.size w0 w) (hr1 : Kd.C (Kd.int .i64) w A1 l1.length l1) (hc1 : l1.length ≤ c1) (hf1 : ∀ ad, A1 = some ad → 0 < l1.length → ad.block ≠ g) (h : spec_l1Cur_among.f s0_0 s0_1 s0_2 l1 = some (r1, r2, r3)) :
  Calls Tryd.prog 61 #[.pointer (some ⟨g, 0, none⟩), .slice A1 l1.length c1] w fun e w' => e = .returned (.int .i64 r1) ∧ IsS68 w0 w' g s0_0 r2 r3 ∧ Below w0.heap.size w0 w' ∧ KeepBut w w' g none := by
 have HR1 := Aside0.mk hr1
 have HC1 := Aside0.mk hc1
 clear hr1 hc1
 have HI0 := Aside0.mk hI
 have HK := Aside0.mk (KeepBut.refl w g none)
 have HL := Aside0.mk hB.size
 clear hI
 have HW0 := Aside0.mk hB.size
 have HB := Aside0.mk hB
 clear hB
 have H : ((spec_l1Cur_pick.f s0_0 s0_1 s0_2 (l1.length : Int)).bind fun bt197 => (if 0 ≤ bt197.1 then (if bt197.1 < (l1.length : Int) then (some (rd l1 bt197.1, bt197.2.1, bt197.2.2)) else (none)) else (none))) = some (r1, r2, r3) := h
 clear h
 replace H := Option.bind_eq_some_iff.mp H
 obtain ⟨⟨t197, t198, t199⟩, A30, H⟩ := H
 replace H : (if 0 ≤ t197 then (if t197 < (l1.length : Int) then (some (rd l1 t197, t198, t199)) else (none)) else (none)) = some (r1, r2, r3) := H
 have A3 := Aside0.mk A30
 clear A30
 by_cases c4 : 0 ≤ t197
 ·rw [if_pos c4] at H
  have c4b0 : decide (0 ≤ t197) = true := decide_eq_true c4
  clear c4
  by_cases c5 : t197 < (l1.length : Int)
  ·rw [if_pos c5] at H
   have c5b0 : decide (t197 < (l1.length : Int)) = true := decide_eq_true c5
   clear c5
   simp only [Option.some.injEq, Prod.mk.injEq] at H
   obtain ⟨rfl, rfl, rfl⟩ := H
   go_enter Tryd.func61, Tryd.ntmps61
   go_wp2_with (first | ((with_reducible refine gate_callee (f := 52) rfl ?_); refine gl_ (some 9) Tryd.func52 #[.pointer (some ⟨g, 0, none⟩), .int .i64 (l1.length : Int)] rfl rfl rfl ?_; (with_reducible refine (spec_l1Cur_pick.calls g s0_0 s0_1 s0_2 (l1.length : Int) t197 t198 t199 w0 _ ?side1 ?side2 A3.out).mono ?_); (case side1 => exact IsS68.q HI0); (case side2 => exact hbI_ HB (IsS68.ge HI0.out)); rintro e w6 ⟨rfl, hi, hb, hk⟩; refine ⟨_, rfl, ?_⟩; replace HK := Aside0.mk (KeepBut.trans (hk_ HK) hk (.inl rfl)); replace HB := Aside0.mk (hb); replace HI0 := Aside0.mk (hi); (try clear hb); (try clear hb2); (try clear hk); (try clear hi); have p200 : 0 ≤ (t197 : Int) := of_decide_eq_true (by first | (with_reducible assumption) | assumption); have q200 : t197 < (l1.length : Int) := of_decide_eq_true (by first | (with_reducible assumption) | assumption); obtain ⟨ad200, e200, hx200_0⟩ := Kd.at_int HR1.out t197 p200 q200; cases e200; replace hx200_0 := keep_cell HK.out hx200_0 (by first | (rw [add_block]; exact hf1 _ rfl (by omega)) | exact hf1 _ rfl (by omega) | exact hf1 ad200 rfl (by omega)); replace p200 := eq_true p200; replace q200 := eq_true q200))
   go_ret
   exact ⟨by first | rfl | (simp [errW_none, errW_some] <;> rfl) | (simp [*, errW_none, errW_some] <;> rfl), IsS68.q HI0, hbI_ HB (IsS68.ge HI0.out), hk_ HK⟩
  ·rw [if_neg c5] at H
   exact absurd H (by simp)
 ·rw [if_neg c4] at H
  exact absurd H (by simp)

/-! ### spec_l1Cur_anyGrid: function 45 -/
def spec_l1Cur_anyGrid.j0 : Nat → List Int → Int → Int → Int → Int → Int → Option (Int × Int × Int × Int × Int)
 | 0, _, _, _, _, _, _ => none
 | k + 1, x1000, x1001, x1002, x208000, x208001, x208002 => some (x208000, x208001, x208002, x1001, x1002)
def spec_l1Cur_anyGrid.f (k : Nat) (s0_0 : List Int) (s0_1 : Int) (s0_2 : Int) : Option (Int × Int × Int × Int × Int) := (spec_l1Cur_grid.f s0_0 s0_1 s0_2).bind fun bt202 => ((spec_l1Cur_pick.f s0_0 bt202.2.2.2.1 bt202.2.2.2.2 30).bind fun bt208 => (if bt208.1 = 0 then ((spec_l1Cur_among.f s0_0 bt208.2.1 bt208.2.2 (([0, 8, 9, (-1)] : List Int))).bind fun bt214 => (spec_l1Cur_anyGrid.j0 k s0_0 bt214.2.1 bt214.2.2 bt214.1 bt202.2.1 bt202.2.2.1)) else (if bt208.1 = 1 then ((spec_l1Cur_among.f s0_0 bt208.2.1 bt208.2.2 (([0, 6, 7, (-1)] : List Int))).bind fun bt220 => (spec_l1Cur_anyGrid.j0 k s0_0 bt220.2.1 bt220.2.2 bt202.1 bt220.1 bt202.2.2.1)) else (if bt208.1 = 2 then ((spec_l1Cur_among.f s0_0 bt208.2.1 bt208.2.2 (([0, 5, 6, (-1)] : List Int))).bind fun bt226 => (spec_l1Cur_anyGrid.j0 k s0_0 bt226.2.1 bt226.2.2 bt202.1 bt202.2.1 bt226.1)) else (if bt208.1 = 3 then ((spec_l1Cur_among.f s0_0 bt208.2.1 bt208.2.2 (([2, 3] : List Int))).bind fun bt232 => (spec_l1Cur_anyGrid.j0 k s0_0 bt232.2.1 bt232.2.2 8 6 bt232.1)) else (if bt208.1 = 4 then (spec_l1Cur_anyGrid.j0 k s0_0 bt208.2.1 bt208.2.2 1 1 4611686018427387904) else (spec_l1Cur_anyGrid.j0 k s0_0 bt208.2.1 bt208.2.2 bt202.1 bt202.2.1 bt202.2.2.1)))))))
set_option maxHeartbeats 8000000 in
set_option maxRecDepth 100000 in
theorem spec_l1Cur_anyGrid.calls (k : Nat) (g : Nat) (s0_0 : List Int) (s0_1 : Int) (s0_2 : Int) (r1 : Int) (r2 : Int) (r3 : Int) (r4 : Int) (r5 : Int) (w0 w : World) (hI : IsS68 w0 w g s0_0 s0_1 s0_2) (hB : Below w0.heap.size w0 w) (h : spec_l1Cur_anyGrid.f k s0_0 s0_1 s0_2 = some (r1, r2, r3, r4, r5)) :
  Calls Tryd.prog 45 #[.pointer (some ⟨g, 0, none⟩)] w fun e w' => e = .returned (.agg #[.int .i64 r1, .int .i64 r2, .int .i64 r3]) ∧ IsS68 w0 w' g s0_0 r4 r5 ∧ Below w0.heap.size w0 w' ∧ KeepBut w w' g none := by
 have hu26 := Tryd.underlying26
 have HI0 := Aside0.mk hI
 have HK := Aside0.mk (KeepBut.refl w g none)
 have HL := Aside0.mk hB.size
 clear hI
 have HW0 := Aside0.mk hB.size
 have HB := Aside0.mk hB
 clear hB
 have H : ((spec_l1Cur_grid.f s0_0 s0_1 s0_2).bind fun bt202 => ((spec_l1Cur_pick.f s0_0 bt202.2.2.2.1 bt202.2.2.2.2 30).bind fun bt208 => (if bt208.1 = 0 then ((spec_l1Cur_among.f s0_0 bt208.2.1 bt208.2.2 (([0, 8, 9, (-1)] : List Int))).bind fun bt214 => (spec_l1Cur_anyGrid.j0 k s0_0 bt214.2.1 bt214.2.2 bt214.1 bt202.2.1 bt202.2.2.1)) else (if bt208.1 = 1 then ((spec_l1Cur_among.f s0_0 bt208.2.1 bt208.2.2 (([0, 6, 7, (-1)] : List Int))).bind fun bt220 => (spec_l1Cur_anyGrid.j0 k s0_0 bt220.2.1 bt220.2.2 bt202.1 bt220.1 bt202.2.2.1)) else (if bt208.1 = 2 then ((spec_l1Cur_among.f s0_0 bt208.2.1 bt208.2.2 (([0, 5, 6, (-1)] : List Int))).bind fun bt226 => (spec_l1Cur_anyGrid.j0 k s0_0 bt226.2.1 bt226.2.2 bt202.1 bt202.2.1 bt226.1)) else (if bt208.1 = 3 then ((spec_l1Cur_among.f s0_0 bt208.2.1 bt208.2.2 (([2, 3] : List Int))).bind fun bt232 => (spec_l1Cur_anyGrid.j0 k s0_0 bt232.2.1 bt232.2.2 8 6 bt232.1)) else (if bt208.1 = 4 then (spec_l1Cur_anyGrid.j0 k s0_0 bt208.2.1 bt208.2.2 1 1 4611686018427387904) else (spec_l1Cur_anyGrid.j0 k s0_0 bt208.2.1 bt208.2.2 bt202.1 bt202.2.1 bt202.2.2.1)))))))) = some (r1, r2, r3, r4, r5) := h
 clear h
 replace H := Option.bind_eq_some_iff.mp H
 obtain ⟨⟨t202, t203, t204, t205, t206⟩, A20, H⟩ := H
 replace H : ((spec_l1Cur_pick.f s0_0 t205 t206 30).bind fun bt208 => (if bt208.1 = 0 then ((spec_l1Cur_among.f s0_0 bt208.2.1 bt208.2.2 (([0, 8, 9, (-1)] : List Int))).bind fun bt214 => (spec_l1Cur_anyGrid.j0 k s0_0 bt214.2.1 bt214.2.2 bt214.1 t203 t204)) else (if bt208.1 = 1 then ((spec_l1Cur_among.f s0_0 bt208.2.1 bt208.2.2 (([0, 6, 7, (-1)] : List Int))).bind fun bt220 => (spec_l1Cur_anyGrid.j0 k s0_0 bt220.2.1 bt220.2.2 t202 bt220.1 t204)) else (if bt208.1 = 2 then ((spec_l1Cur_among.f s0_0 bt208.2.1 bt208.2.2 (([0, 5, 6, (-1)] : List Int))).bind fun bt226 => (spec_l1Cur_anyGrid.j0 k s0_0 bt226.2.1 bt226.2.2 t202 t203 bt226.1)) else (if bt208.1 = 3 then ((spec_l1Cur_among.f s0_0 bt208.2.1 bt208.2.2 (([2, 3] : List Int))).bind fun bt232 => (spec_l1Cur_anyGrid.j0 k s0_0 bt232.2.1 bt232.2.2 8 6 bt232.1)) else (if bt208.1 = 4 then (spec_l1Cur_anyGrid.j0 k s0_0 bt208.2.1 bt208.2.2 1 1 4611686018427387904) else (spec_l1Cur_anyGrid.j0 k s0_0 bt208.2.1 bt208.2.2 t202 t203 t204))))))) = some (r1, r2, r3, r4, r5) := H
 have A2 := Aside0.mk A20
 clear A20
 replace H := Option.bind_eq_some_iff.mp H
 obtain ⟨⟨t208, t209, t210⟩, A30, H⟩ := H
 replace H : (if t208 = 0 then ((spec_l1Cur_among.f s0_0 t209 t210 (([0, 8, 9, (-1)] : List Int))).bind fun bt214 => (spec_l1Cur_anyGrid.j0 k s0_0 bt214.2.1 bt214.2.2 bt214.1 t203 t204)) else (if t208 = 1 then ((spec_l1Cur_among.f s0_0 t209 t210 (([0, 6, 7, (-1)] : List Int))).bind fun bt220 => (spec_l1Cur_anyGrid.j0 k s0_0 bt220.2.1 bt220.2.2 t202 bt220.1 t204)) else (if t208 = 2 then ((spec_l1Cur_among.f s0_0 t209 t210 (([0, 5, 6, (-1)] : List Int))).bind fun bt226 => (spec_l1Cur_anyGrid.j0 k s0_0 bt226.2.1 bt226.2.2 t202 t203 bt226.1)) else (if t208 = 3 then ((spec_l1Cur_among.f s0_0 t209 t210 (([2, 3] : List Int))).bind fun bt232 => (spec_l1Cur_anyGrid.j0 k s0_0 bt232.2.1 bt232.2.2 8 6 bt232.1)) else (if t208 = 4 then (spec_l1Cur_anyGrid.j0 k s0_0 t209 t210 1 1 4611686018427387904) else (spec_l1Cur_anyGrid.j0 k s0_0 t209 t210 t202 t203 t204)))))) = some (r1, r2, r3, r4, r5) := H
 have A3 := Aside0.mk A30
 clear A30
 have HC4 := Aside0.mk H
 clear H
 go_enter Tryd.func45, Tryd.ntmps45
 go_upto_block 0 with (first | ((with_reducible refine gate_dst (N := 2) rfl ?_); refine box_event ?hg (N := 2) ?hd (cs := #[.int .i64 0, .int .i64 0, .int .i64 0]) (t := 26) ?hr ?_; (case hd => rfl); (case hg => rfl); (case hr => first | (go_simp; done) | (go_simp; rfl)); intro gb201 hg w5 hbox hb; have BK201 := Aside0.mk (hbox); have GW201 := Aside0.mk ((by rw [hg]; exact (keep_size (hk_ HK)) : w.heap.size ≤ gb201)); have GE201 := Aside0.mk ((Nat.le_trans HW0.out (by rw [hg]; exact (keep_size (hk_ HK)) : w.heap.size ≤ gb201) : w0.heap.size ≤ gb201)); have NB0_201 := Aside0.mk ((by rw [hg]; exact Nat.ne_of_lt (IsS68.lt (show IsS68 w0 _ g s0_0 s0_1 s0_2 from IsS68.q HI0)) : g ≠ gb201)); have NB201_0 := Aside0.mk ((by rw [hg]; exact Nat.ne_of_gt (IsS68.lt (show IsS68 w0 _ g s0_0 s0_1 s0_2 from IsS68.q HI0)) : gb201 ≠ g)); replace HK := hkb_ HK hb; replace HB := Aside0.mk (below_step (hbI_ HB (IsS68.ge HI0.out)) hb); replace HI0 := IsS68.b HI0 hb; clear hb hbox hg) | ((with_reducible refine gate_callee (f := 60) rfl ?_); refine gl_ (some 5) Tryd.func60 #[.pointer (some ⟨g, 0, none⟩)] rfl rfl rfl ?_; (with_reducible refine (spec_l1Cur_grid.calls g s0_0 s0_1 s0_2 t202 t203 t204 t205 t206 w0 _ ?side1 ?side2 A2.out).mono ?_); (case side1 => exact IsS68.q HI0); (case side2 => exact hbI_ HB (IsS68.ge HI0.out)); rintro e w6 ⟨rfl, hi, hb, hk⟩; refine ⟨_, rfl, ?_⟩; replace BK201 := kk_ BK201 hk NB201_0; replace HK := Aside0.mk (KeepBut.trans (hk_ HK) hk (.inl rfl)); replace HB := Aside0.mk (hb); replace HI0 := Aside0.mk (hi); (try clear hb); (try clear hb2); (try clear hk); (try clear hi)) | ((with_reducible refine gate_dst (N := 3) rfl ?_); refine box_event ?hg (N := 3) ?hd (cs := #[.int .i64 0, .int .i64 0, .int .i64 0]) (t := 26) ?hr ?_; (case hd => rfl); (case hg => rfl); (case hr => first | (go_simp; done) | (go_simp; rfl)); intro gb207 hg w7 hbox hb; have BK207 := Aside0.mk (hbox); have GW207 := Aside0.mk ((by rw [hg]; exact (keep_size (hk_ HK)) : w.heap.size ≤ gb207)); have GE207 := Aside0.mk ((Nat.le_trans HW0.out (by rw [hg]; exact (keep_size (hk_ HK)) : w.heap.size ≤ gb207) : w0.heap.size ≤ gb207)); have NB201_207 := nl_ hg BK201; have NB207_201 := ng_ hg BK201; have NB0_207 := Aside0.mk ((by rw [hg]; exact Nat.ne_of_lt (IsS68.lt (show IsS68 w0 _ g s0_0 t205 t206 from IsS68.q HI0)) : g ≠ gb207)); have NB207_0 := Aside0.mk ((by rw [hg]; exact Nat.ne_of_gt (IsS68.lt (show IsS68 w0 _ g s0_0 t205 t206 from IsS68.q HI0)) : gb207 ≠ g)); replace BK201 := kb_ BK201 hb; replace HK := hkb_ HK hb; replace HB := Aside0.mk (below_step (hbI_ HB (IsS68.ge HI0.out)) hb); replace HI0 := IsS68.b HI0 hb; clear hb hbox hg; have hnb8 := NB207_201.out; have hnc8 := NB201_207.out; have hnb9 := NB207_0.out; have hnc9 := NB0_207.out; obtain ⟨hcz10_0, hcz10_1, hcz10_2, hfz10_0, hfz10_1, hfz10_2⟩ := bx3 BK207) | ((with_reducible refine gate_callee (f := 52) rfl ?_); refine gl_ (some 7) Tryd.func52 #[.pointer (some ⟨g, 0, none⟩), .int .i64 30] rfl rfl rfl ?_; (with_reducible refine (spec_l1Cur_pick.calls g s0_0 t205 t206 30 t208 t209 t210 w0 _ ?side1 ?side2 A3.out).mono ?_); (case side1 => exact IsS68.q HI0); (case side2 => exact hbI_ HB (IsS68.ge HI0.out)); rintro e w11 ⟨rfl, hi, hb, hk⟩; refine ⟨_, rfl, ?_⟩; replace BK201 := Aside0.mk (KeepBut.blk hk (g' := gb201) (o := .cells #[.int .i64 0, .int .i64 0, .int .i64 0] 26 (0, 0)) (kf_ BK201 NB201_207) NB201_0.out (by simp)); replace BK207 := Aside0.mk (KeepBut.blk hk (g' := gb207) (o := .cells #[.int .i64 t202, .int .i64 t203, .int .i64 t204] 26 (0, 0)) (kpq_ (kputs BK207 [(0, _), (1, _), (2, _)])) NB207_0.out (by simp)); replace HK := Aside0.mk (KeepBut.trans (hk_ HK) hk (.inl rfl)); replace HB := Aside0.mk (hb); replace HI0 := Aside0.mk (hi); (try clear hb); (try clear hb2); (try clear hk); (try clear hi)))
 (try simp only [Act.put, List.setIfInBounds_toArray, List.set_cons_zero, List.set_cons_succ])
 go_cut [] (fun wc => ∃ (kq : Nat) (x1001_3 : Int) (x1002_3 : Int) (x208000_3 : Int) (x208001_3 : Int) (x208002_3 : Int), Aside0 (spec_l1Cur_anyGrid.j0 kq s0_0 x1001_3 x1002_3 x208000_3 x208001_3 x208002_3 = some (r1, r2, r3, r4, r5)) ∧ Aside0 (kq ≤ k) ∧ Aside0 (wc.heap[gb201]? = some (.cells #[.int .i64 0, .int .i64 0, .int .i64 0] 26 (0, 0))) ∧ Aside0 (wc.heap[gb207]? = some (.cells #[.int .i64 x208000_3, .int .i64 x208001_3, .int .i64 x208002_3] 26 (0, 0))) ∧ Aside0 (IsS68 w0 wc g s0_0 x1001_3 x1002_3) ∧ Aside0 (KeepBut w wc g none) ∧ Aside0 (Below w0.heap.size w0 wc))
 case first =>
  have H := HC4.out
  clear HC4
  by_cases c12 : t208 = 0
  ·rw [if_pos c12] at H
   have c12b0 : (t208 == 0) = true := beq_iff_eq.mpr c12
   have c12b1 : (t208 != 0) = false := bne_eq_false_iff_eq.mpr c12
   clear c12
   (first | rw [c12b0] | (simp only [i64_w, i32_w]; rw [c12b0]) | skip)
   obtain ⟨y211, hy211⟩ : ∃ y_ : List Int, y_ = (([0, 8, 9, (-1)] : List Int)) := ⟨_, rfl⟩
   replace H : ((spec_l1Cur_among.f s0_0 t209 t210 y211).bind fun bt214 => (spec_l1Cur_anyGrid.j0 k s0_0 bt214.2.1 bt214.2.2 bt214.1 t203 t204)) = some (r1, r2, r3, r4, r5) := by first | (rw [hy211]; with_reducible exact H) | (have H2_ := (Option.bind_some _ _).symm.trans H; rw [hy211]; with_reducible exact H2_) | (have H2_ := (Option.bind_some _ _).symm.trans H; with_reducible exact H2_) | with_reducible exact H | (rw [hy211]; exact H) | exact H
   have Ny211 := Aside0.mk hy211
   clear hy211
   replace H := Option.bind_eq_some_iff.mp H
   obtain ⟨⟨t214, t215, t216⟩, A130, H⟩ := H
   replace H : (spec_l1Cur_anyGrid.j0 k s0_0 t215 t216 t214 t203 t204) = some (r1, r2, r3, r4, r5) := H
   have A13 := Aside0.mk A130
   clear A130
   have H' := Aside0.mk H
   clear H
   go_wp2_with (first | ((with_reducible refine gate_dst (N := 11) rfl ?_); refine Kd.R_lit (Kd.int .i64) _ 3 ?hg (N := 11) ?hd (xs := ([0, 8, 9, (-1)] : List Int)) (inner := [.int .i64 0, .int .i64 8, .int .i64 9, .int .i64 (-1)]) (ok := fun _ => True) (okp := fun _ => True) ?hr ?hp (fun _ hk => hk) trivial (Below.refl _ _) (Nat.le_refl _) (by simp) ?_; (case hd => rfl); (case hg => rfl); (case hr => first | (go_simp; done) | (go_simp; rfl)); (case hp => exact (Reps.one (show Kd.M (Kd.int .i64) _ _ _ 0 [.int .i64 0] from rfl) (Reps.one (show Kd.M (Kd.int .i64) _ _ _ 8 [.int .i64 8] from rfl) (Reps.one (show Kd.M (Kd.int .i64) _ _ _ 9 [.int .i64 9] from rfl) (Reps.one (show Kd.M (Kd.int .i64) _ _ _ (-1) [.int .i64 (-1)] from rfl) (Reps.none _ _)))))); intro v212 w14 ho15 hb hg_ hnew_; clear hg_ hnew_; (first | rw [← Ny211.out] at ho15 | (simp only [Int.reduceToNat] at ho15; rw [← Ny211.out] at ho15)); have HO213 := Aside0.mk (Kd.R_lower ho15 (keep_size (hk_ HK))); replace BK201 := kb_ BK201 hb; replace BK207 := kb_ BK207 hb; replace HK := hkb_ HK hb; replace HB := Aside0.mk (below_step (hbI_ HB (IsS68.ge HI0.out)) hb); replace HI0 := IsS68.b HI0 hb; clear hb ho15; obtain ⟨Ao16, co16, eo16⟩ := Kd.R_slice HO213.out; subst eo16) | ((with_reducible refine gate_callee (f := 61) rfl ?_); refine gl_ (some 12) Tryd.func61 #[.pointer (some ⟨g, 0, none⟩), .slice Ao16 y211.length co16] rfl rfl rfl ?_; (with_reducible refine (spec_l1Cur_among.calls g s0_0 t209 t210 _ _ y211 t214 t215 t216 w0 _ ?side1 ?side2 ?side3 ?side4 ?side5 A13.out).mono ?_); (case side1 => exact IsS68.q HI0); (case side2 => exact hbI_ HB (IsS68.ge HI0.out)); (case side3 => exact Kd.C_o HO213); (case side4 => exact (Kd.R_reads' HO213.out).2.1); (case side5 => exact far_slice (IsS68.own_ne HI0.out HO213.out (by decide))); rintro e w17 ⟨rfl, hi, hb, hk⟩; refine ⟨_, rfl, ?_⟩; have n0_ := Aside0.mk (KeepBut.blk hk (kp_ BK201) NB201_0.out (by simp)); have n1_ := Aside0.mk (KeepBut.blk hk (kp_ BK207) NB207_0.out (by simp)); have n2_ := IsS68.rk HI0 HO213 hk; have n3_ := Aside0.mk (KeepBut.trans (hk_ HK) hk (.inl rfl)); have n4_ := Aside0.mk (hb); have n5_ := Aside0.mk (hi); clear BK201 BK207 HO213 HK HB HI0; have BK201 := n0_; have BK207 := n1_; have HO213 := n2_; have HK := n3_; have HB := n4_; have HI0 := n5_; clear n0_ n1_ n2_ n3_ n4_ n5_; (try clear hb); (try clear hb2); (try clear hk); (try clear hi); have hnb18 := NB207_201.out; have hnc18 := NB201_207.out; have hnb19 := NB207_0.out; have hnc19 := NB0_207.out; obtain ⟨hcz20_0, hcz20_1, hcz20_2, hfz20_0, hfz20_1, hfz20_2⟩ := bx3 BK207))
   go_meet
   case rel => exact ⟨_, (t215), (t216), (t214), (t203), (t204), H', ⟨by first | omega | exact Nat.le_refl _⟩, ⟨kf_ BK201 NB201_207⟩, ⟨kpq_ (kputs BK207 [(0, _)])⟩, ⟨IsS68.q HI0⟩, ⟨hk_ HK⟩, ⟨hbI_ HB (IsS68.ge HI0.out)⟩⟩
  ·rw [if_neg c12] at H
   have c12b0 : (t208 == 0) = false := beq_eq_false_iff_ne.mpr c12
   have c12b1 : (t208 != 0) = true := bne_iff_ne.mpr c12
   (first | rw [c12b0] | (simp only [i64_w, i32_w]; rw [c12b0]) | skip)
   by_cases c21 : t208 = 1
   ·rw [if_pos c21] at H
    have c21b0 : (t208 == 1) = true := beq_iff_eq.mpr c21
    have c21b1 : (t208 != 1) = false := bne_eq_false_iff_eq.mpr c21
    clear c21
    obtain ⟨y217, hy217⟩ : ∃ y_ : List Int, y_ = (([0, 6, 7, (-1)] : List Int)) := ⟨_, rfl⟩
    replace H : ((spec_l1Cur_among.f s0_0 t209 t210 y217).bind fun bt220 => (spec_l1Cur_anyGrid.j0 k s0_0 bt220.2.1 bt220.2.2 t202 bt220.1 t204)) = some (r1, r2, r3, r4, r5) := by first | (rw [hy217]; with_reducible exact H) | (have H2_ := (Option.bind_some _ _).symm.trans H; rw [hy217]; with_reducible exact H2_) | (have H2_ := (Option.bind_some _ _).symm.trans H; with_reducible exact H2_) | with_reducible exact H | (rw [hy217]; exact H) | exact H
    have Ny217 := Aside0.mk hy217
    clear hy217
    replace H := Option.bind_eq_some_iff.mp H
    obtain ⟨⟨t220, t221, t222⟩, A220, H⟩ := H
    replace H : (spec_l1Cur_anyGrid.j0 k s0_0 t221 t222 t202 t220 t204) = some (r1, r2, r3, r4, r5) := H
    have A22 := Aside0.mk A220
    clear A220
    have H' := Aside0.mk H
    clear H
    go_wp2_with (first | ((with_reducible refine gate_dst (N := 17) rfl ?_); refine Kd.R_lit (Kd.int .i64) _ 3 ?hg (N := 17) ?hd (xs := ([0, 6, 7, (-1)] : List Int)) (inner := [.int .i64 0, .int .i64 6, .int .i64 7, .int .i64 (-1)]) (ok := fun _ => True) (okp := fun _ => True) ?hr ?hp (fun _ hk => hk) trivial (Below.refl _ _) (Nat.le_refl _) (by simp) ?_; (case hd => rfl); (case hg => rfl); (case hr => first | (go_simp; done) | (go_simp; rfl)); (case hp => exact (Reps.one (show Kd.M (Kd.int .i64) _ _ _ 0 [.int .i64 0] from rfl) (Reps.one (show Kd.M (Kd.int .i64) _ _ _ 6 [.int .i64 6] from rfl) (Reps.one (show Kd.M (Kd.int .i64) _ _ _ 7 [.int .i64 7] from rfl) (Reps.one (show Kd.M (Kd.int .i64) _ _ _ (-1) [.int .i64 (-1)] from rfl) (Reps.none _ _)))))); intro v218 w23 ho24 hb hg_ hnew_; clear hg_ hnew_; (first | rw [← Ny217.out] at ho24 | (simp only [Int.reduceToNat] at ho24; rw [← Ny217.out] at ho24)); have HO219 := Aside0.mk (Kd.R_lower ho24 (keep_size (hk_ HK))); replace BK201 := kb_ BK201 hb; replace BK207 := kb_ BK207 hb; replace HK := hkb_ HK hb; replace HB := Aside0.mk (below_step (hbI_ HB (IsS68.ge HI0.out)) hb); replace HI0 := IsS68.b HI0 hb; clear hb ho24; obtain ⟨Ao25, co25, eo25⟩ := Kd.R_slice HO219.out; subst eo25) | ((with_reducible refine gate_callee (f := 61) rfl ?_); refine gl_ (some 18) Tryd.func61 #[.pointer (some ⟨g, 0, none⟩), .slice Ao25 y217.length co25] rfl rfl rfl ?_; (with_reducible refine (spec_l1Cur_among.calls g s0_0 t209 t210 _ _ y217 t220 t221 t222 w0 _ ?side1 ?side2 ?side3 ?side4 ?side5 A22.out).mono ?_); (case side1 => exact IsS68.q HI0); (case side2 => exact hbI_ HB (IsS68.ge HI0.out)); (case side3 => exact Kd.C_o HO219); (case side4 => exact (Kd.R_reads' HO219.out).2.1); (case side5 => exact far_slice (IsS68.own_ne HI0.out HO219.out (by decide))); rintro e w26 ⟨rfl, hi, hb, hk⟩; refine ⟨_, rfl, ?_⟩; have n0_ := Aside0.mk (KeepBut.blk hk (kp_ BK201) NB201_0.out (by simp)); have n1_ := Aside0.mk (KeepBut.blk hk (kp_ BK207) NB207_0.out (by simp)); have n2_ := IsS68.rk HI0 HO219 hk; have n3_ := Aside0.mk (KeepBut.trans (hk_ HK) hk (.inl rfl)); have n4_ := Aside0.mk (hb); have n5_ := Aside0.mk (hi); clear BK201 BK207 HO219 HK HB HI0; have BK201 := n0_; have BK207 := n1_; have HO219 := n2_; have HK := n3_; have HB := n4_; have HI0 := n5_; clear n0_ n1_ n2_ n3_ n4_ n5_; (try clear hb); (try clear hb2); (try clear hk); (try clear hi); have hnb27 := NB207_201.out; have hnc27 := NB201_207.out; have hnb28 := NB207_0.out; have hnc28 := NB0_207.out; obtain ⟨hcz29_0, hcz29_1, hcz29_2, hfz29_0, hfz29_1, hfz29_2⟩ := bx3 BK207))
    go_meet
    case rel => exact ⟨_, (t221), (t222), (t202), (t220), (t204), H', ⟨by first | omega | exact Nat.le_refl _⟩, ⟨kf_ BK201 NB201_207⟩, ⟨kpq_ (kputs BK207 [(1, _)])⟩, ⟨IsS68.q HI0⟩, ⟨hk_ HK⟩, ⟨hbI_ HB (IsS68.ge HI0.out)⟩⟩
   ·rw [if_neg c21] at H
    have c21b0 : (t208 == 1) = false := beq_eq_false_iff_ne.mpr c21
    have c21b1 : (t208 != 1) = true := bne_iff_ne.mpr c21
    by_cases c30 : t208 = 2
    ·rw [if_pos c30] at H
     have c30b0 : (t208 == 2) = true := beq_iff_eq.mpr c30
     have c30b1 : (t208 != 2) = false := bne_eq_false_iff_eq.mpr c30
     clear c30
     obtain ⟨y223, hy223⟩ : ∃ y_ : List Int, y_ = (([0, 5, 6, (-1)] : List Int)) := ⟨_, rfl⟩
     replace H : ((spec_l1Cur_among.f s0_0 t209 t210 y223).bind fun bt226 => (spec_l1Cur_anyGrid.j0 k s0_0 bt226.2.1 bt226.2.2 t202 t203 bt226.1)) = some (r1, r2, r3, r4, r5) := by first | (rw [hy223]; with_reducible exact H) | (have H2_ := (Option.bind_some _ _).symm.trans H; rw [hy223]; with_reducible exact H2_) | (have H2_ := (Option.bind_some _ _).symm.trans H; with_reducible exact H2_) | with_reducible exact H | (rw [hy223]; exact H) | exact H
     have Ny223 := Aside0.mk hy223
     clear hy223
     replace H := Option.bind_eq_some_iff.mp H
     obtain ⟨⟨t226, t227, t228⟩, A310, H⟩ := H
     replace H : (spec_l1Cur_anyGrid.j0 k s0_0 t227 t228 t202 t203 t226) = some (r1, r2, r3, r4, r5) := H
     have A31 := Aside0.mk A310
     clear A310
     have H' := Aside0.mk H
     clear H
     go_wp2_with (first | ((with_reducible refine gate_dst (N := 23) rfl ?_); refine Kd.R_lit (Kd.int .i64) _ 3 ?hg (N := 23) ?hd (xs := ([0, 5, 6, (-1)] : List Int)) (inner := [.int .i64 0, .int .i64 5, .int .i64 6, .int .i64 (-1)]) (ok := fun _ => True) (okp := fun _ => True) ?hr ?hp (fun _ hk => hk) trivial (Below.refl _ _) (Nat.le_refl _) (by simp) ?_; (case hd => rfl); (case hg => rfl); (case hr => first | (go_simp; done) | (go_simp; rfl)); (case hp => exact (Reps.one (show Kd.M (Kd.int .i64) _ _ _ 0 [.int .i64 0] from rfl) (Reps.one (show Kd.M (Kd.int .i64) _ _ _ 5 [.int .i64 5] from rfl) (Reps.one (show Kd.M (Kd.int .i64) _ _ _ 6 [.int .i64 6] from rfl) (Reps.one (show Kd.M (Kd.int .i64) _ _ _ (-1) [.int .i64 (-1)] from rfl) (Reps.none _ _)))))); intro v224 w32 ho33 hb hg_ hnew_; clear hg_ hnew_; (first | rw [← Ny223.out] at ho33 | (simp only [Int.reduceToNat] at ho33; rw [← Ny223.out] at ho33)); have HO225 := Aside0.mk (Kd.R_lower ho33 (keep_size (hk_ HK))); replace BK201 := kb_ BK201 hb; replace BK207 := kb_ BK207 hb; replace HK := hkb_ HK hb; replace HB := Aside0.mk (below_step (hbI_ HB (IsS68.ge HI0.out)) hb); replace HI0 := IsS68.b HI0 hb; clear hb ho33; obtain ⟨Ao34, co34, eo34⟩ := Kd.R_slice HO225.out; subst eo34) | ((with_reducible refine gate_callee (f := 61) rfl ?_); refine gl_ (some 24) Tryd.func61 #[.pointer (some ⟨g, 0, none⟩), .slice Ao34 y223.length co34] rfl rfl rfl ?_; (with_reducible refine (spec_l1Cur_among.calls g s0_0 t209 t210 _ _ y223 t226 t227 t228 w0 _ ?side1 ?side2 ?side3 ?side4 ?side5 A31.out).mono ?_); (case side1 => exact IsS68.q HI0); (case side2 => exact hbI_ HB (IsS68.ge HI0.out)); (case side3 => exact Kd.C_o HO225); (case side4 => exact (Kd.R_reads' HO225.out).2.1); (case side5 => exact far_slice (IsS68.own_ne HI0.out HO225.out (by decide))); rintro e w35 ⟨rfl, hi, hb, hk⟩; refine ⟨_, rfl, ?_⟩; have n0_ := Aside0.mk (KeepBut.blk hk (kp_ BK201) NB201_0.out (by simp)); have n1_ := Aside0.mk (KeepBut.blk hk (kp_ BK207) NB207_0.out (by simp)); have n2_ := IsS68.rk HI0 HO225 hk; have n3_ := Aside0.mk (KeepBut.trans (hk_ HK) hk (.inl rfl)); have n4_ := Aside0.mk (hb); have n5_ := Aside0.mk (hi); clear BK201 BK207 HO225 HK HB HI0; have BK201 := n0_; have BK207 := n1_; have HO225 := n2_; have HK := n3_; have HB := n4_; have HI0 := n5_; clear n0_ n1_ n2_ n3_ n4_ n5_; (try clear hb); (try clear hb2); (try clear hk); (try clear hi); have hnb36 := NB207_201.out; have hnc36 := NB201_207.out; have hnb37 := NB207_0.out; have hnc37 := NB0_207.out; obtain ⟨hcz38_0, hcz38_1, hcz38_2, hfz38_0, hfz38_1, hfz38_2⟩ := bx3 BK207))
     go_meet
     case rel => exact ⟨_, (t227), (t228), (t202), (t203), (t226), H', ⟨by first | omega | exact Nat.le_refl _⟩, ⟨kf_ BK201 NB201_207⟩, ⟨kpq_ (kputs BK207 [(2, _)])⟩, ⟨IsS68.q HI0⟩, ⟨hk_ HK⟩, ⟨hbI_ HB (IsS68.ge HI0.out)⟩⟩
    ·rw [if_neg c30] at H
     have c30b0 : (t208 == 2) = false := beq_eq_false_iff_ne.mpr c30
     have c30b1 : (t208 != 2) = true := bne_iff_ne.mpr c30
     by_cases c39 : t208 = 3
     ·rw [if_pos c39] at H
      have c39b0 : (t208 == 3) = true := beq_iff_eq.mpr c39
      have c39b1 : (t208 != 3) = false := bne_eq_false_iff_eq.mpr c39
      clear c39
      obtain ⟨y229, hy229⟩ : ∃ y_ : List Int, y_ = (([2, 3] : List Int)) := ⟨_, rfl⟩
      replace H : ((spec_l1Cur_among.f s0_0 t209 t210 y229).bind fun bt232 => (spec_l1Cur_anyGrid.j0 k s0_0 bt232.2.1 bt232.2.2 8 6 bt232.1)) = some (r1, r2, r3, r4, r5) := by first | (rw [hy229]; with_reducible exact H) | (have H2_ := (Option.bind_some _ _).symm.trans H; rw [hy229]; with_reducible exact H2_) | (have H2_ := (Option.bind_some _ _).symm.trans H; with_reducible exact H2_) | with_reducible exact H | (rw [hy229]; exact H) | exact H
      have Ny229 := Aside0.mk hy229
      clear hy229
      replace H := Option.bind_eq_some_iff.mp H
      obtain ⟨⟨t232, t233, t234⟩, A400, H⟩ := H
      replace H : (spec_l1Cur_anyGrid.j0 k s0_0 t233 t234 8 6 t232) = some (r1, r2, r3, r4, r5) := H
      have A40 := Aside0.mk A400
      clear A400
      have H' := Aside0.mk H
      clear H
      go_wp2_with (first | ((with_reducible refine gate_dst (N := 29) rfl ?_); refine Kd.R_lit (Kd.int .i64) _ 3 ?hg (N := 29) ?hd (xs := ([2, 3] : List Int)) (inner := [.int .i64 2, .int .i64 3]) (ok := fun _ => True) (okp := fun _ => True) ?hr ?hp (fun _ hk => hk) trivial (Below.refl _ _) (Nat.le_refl _) (by simp) ?_; (case hd => rfl); (case hg => rfl); (case hr => first | (go_simp; done) | (go_simp; rfl)); (case hp => exact (Reps.one (show Kd.M (Kd.int .i64) _ _ _ 2 [.int .i64 2] from rfl) (Reps.one (show Kd.M (Kd.int .i64) _ _ _ 3 [.int .i64 3] from rfl) (Reps.none _ _)))); intro v230 w41 ho42 hb hg_ hnew_; clear hg_ hnew_; (first | rw [← Ny229.out] at ho42 | (simp only [Int.reduceToNat] at ho42; rw [← Ny229.out] at ho42)); have HO231 := Aside0.mk (Kd.R_lower ho42 (keep_size (hk_ HK))); replace BK201 := kb_ BK201 hb; replace BK207 := kb_ BK207 hb; replace HK := hkb_ HK hb; replace HB := Aside0.mk (below_step (hbI_ HB (IsS68.ge HI0.out)) hb); replace HI0 := IsS68.b HI0 hb; clear hb ho42; obtain ⟨Ao43, co43, eo43⟩ := Kd.R_slice HO231.out; subst eo43) | ((with_reducible refine gate_callee (f := 61) rfl ?_); refine gl_ (some 30) Tryd.func61 #[.pointer (some ⟨g, 0, none⟩), .slice Ao43 y229.length co43] rfl rfl rfl ?_; (with_reducible refine (spec_l1Cur_among.calls g s0_0 t209 t210 _ _ y229 t232 t233 t234 w0 _ ?side1 ?side2 ?side3 ?side4 ?side5 A40.out).mono ?_); (case side1 => exact IsS68.q HI0); (case side2 => exact hbI_ HB (IsS68.ge HI0.out)); (case side3 => exact Kd.C_o HO231); (case side4 => exact (Kd.R_reads' HO231.out).2.1); (case side5 => exact far_slice (IsS68.own_ne HI0.out HO231.out (by decide))); rintro e w44 ⟨rfl, hi, hb, hk⟩; refine ⟨_, rfl, ?_⟩; have n0_ := Aside0.mk (KeepBut.blk hk (kp_ BK201) NB201_0.out (by simp)); have n1_ := Aside0.mk (KeepBut.blk hk (kp_ BK207) NB207_0.out (by simp)); have n2_ := IsS68.rk HI0 HO231 hk; have n3_ := Aside0.mk (KeepBut.trans (hk_ HK) hk (.inl rfl)); have n4_ := Aside0.mk (hb); have n5_ := Aside0.mk (hi); clear BK201 BK207 HO231 HK HB HI0; have BK201 := n0_; have BK207 := n1_; have HO231 := n2_; have HK := n3_; have HB := n4_; have HI0 := n5_; clear n0_ n1_ n2_ n3_ n4_ n5_; (try clear hb); (try clear hb2); (try clear hk); (try clear hi); have hnb45 := NB207_201.out; have hnc45 := NB201_207.out; have hnb46 := NB207_0.out; have hnc46 := NB0_207.out; obtain ⟨hcz47_0, hcz47_1, hcz47_2, hfz47_0, hfz47_1, hfz47_2⟩ := bx3 BK207))
      go_meet
      case rel => exact ⟨_, (t233), (t234), (8), (6), (t232), H', ⟨by first | omega | exact Nat.le_refl _⟩, ⟨kf_ BK201 NB201_207⟩, ⟨kpq_ (kputs BK207 [(0, _), (1, _), (2, _)])⟩, ⟨IsS68.q HI0⟩, ⟨hk_ HK⟩, ⟨hbI_ HB (IsS68.ge HI0.out)⟩⟩
     ·rw [if_neg c39] at H
      have c39b0 : (t208 == 3) = false := beq_eq_false_iff_ne.mpr c39
      have c39b1 : (t208 != 3) = true := bne_iff_ne.mpr c39
      by_cases c48 : t208 = 4
      ·rw [if_pos c48] at H
       have c48b0 : (t208 == 4) = true := beq_iff_eq.mpr c48
       have c48b1 : (t208 != 4) = false := bne_eq_false_iff_eq.mpr c48
       clear c48
       have H' := Aside0.mk H
       clear H
       have hnb49 := NB207_201.out
       have hnc49 := NB201_207.out
       have hnb50 := NB207_0.out
       have hnc50 := NB0_207.out
       have hcz51_0 : w11.cell? ⟨gb207, 0, none⟩ = some (.int .i64 t202) := (blk_cell BK207.out 0).trans rfl
       have hcz51_1 : w11.cell? ⟨gb207, 1, none⟩ = some (.int .i64 t203) := (blk_cell BK207.out 1).trans rfl
       have hcz51_2 : w11.cell? ⟨gb207, 2, none⟩ = some (.int .i64 t204) := (blk_cell BK207.out 2).trans rfl
       have hfz51_0 := blk_frozen BK207.out 0
       have hfz51_1 := blk_frozen BK207.out 1
       have hfz51_2 := blk_frozen BK207.out 2
       go_wp2
       go_meet
       case rel => exact ⟨_, (t209), (t210), (1), (1), (4611686018427387904), H', ⟨by first | omega | exact Nat.le_refl _⟩, ⟨kf_ BK201 NB201_207⟩, ⟨kpq_ (kputs BK207 [(0, _), (1, _), (2, _)])⟩, ⟨IsS68.q HI0⟩, ⟨hk_ HK⟩, ⟨hbI_ HB (IsS68.ge HI0.out)⟩⟩
      ·rw [if_neg c48] at H
       have c48b0 : (t208 == 4) = false := beq_eq_false_iff_ne.mpr c48
       have c48b1 : (t208 != 4) = true := bne_iff_ne.mpr c48
       have H' := Aside0.mk H
       clear H
       go_wp2
       go_meet
       case rel => exact ⟨_, (t209), (t210), (t202), (t203), (t204), H', ⟨by first | omega | exact Nat.le_refl _⟩, ⟨kp_ BK201⟩, ⟨kp_ BK207⟩, ⟨IsS68.q HI0⟩, ⟨hk_ HK⟩, ⟨hbI_ HB (IsS68.ge HI0.out)⟩⟩
 case rest =>
  clear HC4
  (try clear c1); (try clear c2); (try clear p2); (try clear c3); (try clear c4); (try clear c5); (try clear c6); (try clear c8); (try clear c9); (try clear c12); (try clear c12b0); (try clear c12b1); (try clear c18); (try clear c19); (try clear c21); (try clear c21b0); (try clear c21b1); (try clear c27); (try clear c28); (try clear c30); (try clear c30b0); (try clear c30b1); (try clear c36); (try clear c37); (try clear c39); (try clear c39b0); (try clear c39b1); (try clear c45); (try clear c46); (try clear c48); (try clear c48b0); (try clear c48b1); (try clear c49); (try clear c50); (try clear hcz10_0); (try clear hcz10_1); (try clear hcz10_2); (try clear hfz10_0); (try clear hfz10_1); (try clear hfz10_2)
  obtain ⟨kq, x1001_3, x1002_3, x208000_3, x208001_3, x208002_3, HA, HJ3, BK201, BK207, HI0, HK, HB⟩ := hcut
  cases kq with
  | zero => exact absurd HA.out (by simp [spec_l1Cur_anyGrid.j0])
  | succ kj3 =>
   have H := HA.out
   clear HA
   simp only [spec_l1Cur_anyGrid.j0] at H
   simp only [Option.some.injEq, Prod.mk.injEq] at H
   obtain ⟨rfl, rfl, rfl, rfl, rfl⟩ := H
   have hnb52 := NB207_201.out
   have hnc52 := NB201_207.out
   have hnb53 := NB207_0.out
   have hnc53 := NB0_207.out
   have hcz54_0 : wc.cell? ⟨gb207, 0, none⟩ = some (.int .i64 x208000_3) := (blk_cell BK207.out 0).trans rfl
   have hcz54_1 : wc.cell? ⟨gb207, 1, none⟩ = some (.int .i64 x208001_3) := (blk_cell BK207.out 1).trans rfl
   have hcz54_2 : wc.cell? ⟨gb207, 2, none⟩ = some (.int .i64 x208002_3) := (blk_cell BK207.out 2).trans rfl
   have hfz54_0 := blk_frozen BK207.out 0
   have hfz54_1 := blk_frozen BK207.out 1
   have hfz54_2 := blk_frozen BK207.out 2
   have hnb55 := NB201_0.out
   have hnc55 := NB0_201.out
   have hcz56_0 : wc.cell? ⟨gb201, 0, none⟩ = some (.int .i64 0) := (blk_cell BK201.out 0).trans rfl
   have hcz56_1 : wc.cell? ⟨gb201, 1, none⟩ = some (.int .i64 0) := (blk_cell BK201.out 1).trans rfl
   have hcz56_2 : wc.cell? ⟨gb201, 2, none⟩ = some (.int .i64 0) := (blk_cell BK201.out 2).trans rfl
   have hfz56_0 := blk_frozen BK201.out 0
   have hfz56_1 := blk_frozen BK201.out 1
   have hfz56_2 := blk_frozen BK201.out 2
   go_wp2
   refine bodyPost_ret (results_cell_row rfl _ _ gb201 26 #[.int .i64 x208000_3, .int .i64 x208001_3, .int .i64 x208002_3] (0, 0) _ rfl (kpq_ (kputs BK201 [(0, _), (1, _), (2, _)])) Tryd.underlying26 rfl (by kernel_rfl)) rfl ?_
   exact ⟨by first | rfl | (simp [errW_none, errW_some] <;> rfl) | (simp [*, errW_none, errW_some] <;> rfl), IsS68.q HI0, hbI_ HB (IsS68.ge HI0.out), hk_ HK⟩

/-! ### spec_grCount: function 53 -/
def spec_grCount.f (a0_0 : Int) (a0_1 : Int) (a0_2 : Int) : Option (Int) := some (wrap64 ((wrap64 (a0_0 * a0_1)) * a0_2))
set_option maxHeartbeats 8000000 in
set_option maxRecDepth 100000 in
theorem spec_grCount.calls (a0_0 : Int) (a0_1 : Int) (a0_2 : Int) (r : Int) (w : World) (h : spec_grCount.f a0_0 a0_1 a0_2 = some r) :
  Calls Tryd.prog 53 #[.agg #[.int .i64 a0_0, .int .i64 a0_1, .int .i64 a0_2]] w fun e w' => e = .returned (.int .i64 r) ∧ Below w.heap.size w w' := by
 have hu26 := Tryd.underlying26
 have HB := Aside0.mk (Below.refl w.heap.size w)
 have H : (some (wrap64 ((wrap64 (a0_0 * a0_1)) * a0_2))) = some r := h
 clear h
 obtain rfl := Option.some.inj H
 go_enter Tryd.func53, Tryd.ntmps53
 go_wp2_with (first | ((with_reducible refine gate_dst (N := 1) rfl ?_); refine box_event ?hg (N := 1) ?hd (cs := #[.int .i64 a0_0, .int .i64 a0_1, .int .i64 a0_2]) (t := 26) ?hr ?_; (case hd => rfl); (case hg => rfl); (case hr => first | (go_simp; done) | (go_simp; rfl)); intro gb235 hg w2 hbox hb; have BK235 := Aside0.mk (hbox); have GW235 := gs_ hg HB; have GE235 := gs_ hg HB; replace HB := hbs_ HB hb; clear hb hbox hg; obtain ⟨hcz3_0, hcz3_1, hcz3_2, hfz3_0, hfz3_1, hfz3_2⟩ := bx3 BK235))
 go_ret
 exact ⟨by first | rfl | (simp [errW_none, errW_some] <;> rfl) | (simp [*, errW_none, errW_some] <;> rfl), hb_ HB⟩

/-! ### spec_l1Cur_block: function 46 -/
def spec_l1Cur_block.f (s0_0 : List Int) (s0_1 : Int) (s0_2 : Int) (a1_0 : Int) (a1_1 : Int) (a1_2 : Int) : Option (Int × Int × Int) := (spec_grGood.f a1_0 a1_1 a1_2).bind fun t237 => (if t237 = true then ((spec_l1Cur_one.f s0_0 s0_1 s0_2 24).bind fun bt238 => (if bt238.1 = true then ((spec_grCount.f a1_0 a1_1 a1_2).bind fun t241 => ((spec_l1Cur_among.f s0_0 bt238.2.1 bt238.2.2 (([(-1), t241] : List Int))).bind fun bt245 => (some (bt245.1, bt245.2.1, bt245.2.2)))) else ((spec_grCount.f a1_0 a1_1 a1_2).bind fun t248 => ((spec_l1Cur_pick.f s0_0 bt238.2.1 bt238.2.2 t248).bind fun bt249 => (some (bt249.1, bt249.2.1, bt249.2.2)))))) else (some (0, s0_1, s0_2)))
set_option maxHeartbeats 8000000 in
set_option maxRecDepth 100000 in
theorem spec_l1Cur_block.calls (g : Nat) (s0_0 : List Int) (s0_1 : Int) (s0_2 : Int) (a1_0 : Int) (a1_1 : Int) (a1_2 : Int) (r1 : Int) (r2 : Int) (r3 : Int) (w0 w : World) (hI : IsS68 w0 w g s0_0 s0_1 s0_2) (hB : Below w0.heap.size w0 w) (h : spec_l1Cur_block.f s0_0 s0_1 s0_2 a1_0 a1_1 a1_2 = some (r1, r2, r3)) :
  Calls Tryd.prog 46 #[.pointer (some ⟨g, 0, none⟩), .agg #[.int .i64 a1_0, .int .i64 a1_1, .int .i64 a1_2]] w fun e w' => e = .returned (.int .i64 r1) ∧ IsS68 w0 w' g s0_0 r2 r3 ∧ Below w0.heap.size w0 w' ∧ KeepBut w w' g none := by
 have hu26 := Tryd.underlying26
 have HI0 := Aside0.mk hI
 have HK := Aside0.mk (KeepBut.refl w g none)
 have HL := Aside0.mk hB.size
 clear hI
 have HW0 := Aside0.mk hB.size
 have HB := Aside0.mk hB
 clear hB
 have H : ((spec_grGood.f a1_0 a1_1 a1_2).bind fun t237 => (if t237 = true then ((spec_l1Cur_one.f s0_0 s0_1 s0_2 24).bind fun bt238 => (if bt238.1 = true then ((spec_grCount.f a1_0 a1_1 a1_2).bind fun t241 => ((spec_l1Cur_among.f s0_0 bt238.2.1 bt238.2.2 (([(-1), t241] : List Int))).bind fun bt245 => (some (bt245.1, bt245.2.1, bt245.2.2)))) else ((spec_grCount.f a1_0 a1_1 a1_2).bind fun t248 => ((spec_l1Cur_pick.f s0_0 bt238.2.1 bt238.2.2 t248).bind fun bt249 => (some (bt249.1, bt249.2.1, bt249.2.2)))))) else (some (0, s0_1, s0_2)))) = some (r1, r2, r3) := h
 clear h
 replace H := Option.bind_eq_some_iff.mp H
 obtain ⟨t237, A30, H⟩ := H
 replace H : (if t237 = true then ((spec_l1Cur_one.f s0_0 s0_1 s0_2 24).bind fun bt238 => (if bt238.1 = true then ((spec_grCount.f a1_0 a1_1 a1_2).bind fun t241 => ((spec_l1Cur_among.f s0_0 bt238.2.1 bt238.2.2 (([(-1), t241] : List Int))).bind fun bt245 => (some (bt245.1, bt245.2.1, bt245.2.2)))) else ((spec_grCount.f a1_0 a1_1 a1_2).bind fun t248 => ((spec_l1Cur_pick.f s0_0 bt238.2.1 bt238.2.2 t248).bind fun bt249 => (some (bt249.1, bt249.2.1, bt249.2.2)))))) else (some (0, s0_1, s0_2))) = some (r1, r2, r3) := H
 have A3 := Aside0.mk A30
 clear A30
 by_cases c4 : t237 = true
 ·subst c4
  have H1 : ((spec_l1Cur_one.f s0_0 s0_1 s0_2 24).bind fun bt238 => (if bt238.1 = true then ((spec_grCount.f a1_0 a1_1 a1_2).bind fun t241 => ((spec_l1Cur_among.f s0_0 bt238.2.1 bt238.2.2 (([(-1), t241] : List Int))).bind fun bt245 => (some (bt245.1, bt245.2.1, bt245.2.2)))) else ((spec_grCount.f a1_0 a1_1 a1_2).bind fun t248 => ((spec_l1Cur_pick.f s0_0 bt238.2.1 bt238.2.2 t248).bind fun bt249 => (some (bt249.1, bt249.2.1, bt249.2.2)))))) = some (r1, r2, r3) := by rw [if_pos rfl] at H; exact H
  clear H
  have H := H1
  clear H1
  replace H := Option.bind_eq_some_iff.mp H
  obtain ⟨⟨t238, t239, t240⟩, A50, H⟩ := H
  replace H : (if t238 = true then ((spec_grCount.f a1_0 a1_1 a1_2).bind fun t241 => ((spec_l1Cur_among.f s0_0 t239 t240 (([(-1), t241] : List Int))).bind fun bt245 => (some (bt245.1, bt245.2.1, bt245.2.2)))) else ((spec_grCount.f a1_0 a1_1 a1_2).bind fun t248 => ((spec_l1Cur_pick.f s0_0 t239 t240 t248).bind fun bt249 => (some (bt249.1, bt249.2.1, bt249.2.2))))) = some (r1, r2, r3) := H
  have A5 := Aside0.mk A50
  clear A50
  by_cases c6 : t238 = true
  ·subst c6
   have H1 : ((spec_grCount.f a1_0 a1_1 a1_2).bind fun t241 => ((spec_l1Cur_among.f s0_0 t239 t240 (([(-1), t241] : List Int))).bind fun bt245 => (some (bt245.1, bt245.2.1, bt245.2.2)))) = some (r1, r2, r3) := by rw [if_pos rfl] at H; exact H
   clear H
   have H := H1
   clear H1
   replace H := Option.bind_eq_some_iff.mp H
   obtain ⟨t241, A70, H⟩ := H
   replace H : ((spec_l1Cur_among.f s0_0 t239 t240 (([(-1), t241] : List Int))).bind fun bt245 => (some (bt245.1, bt245.2.1, bt245.2.2))) = some (r1, r2, r3) := H
   have A7 := Aside0.mk A70
   clear A70
   obtain ⟨y242, hy242⟩ : ∃ y_ : List Int, y_ = (([(-1), t241] : List Int)) := ⟨_, rfl⟩
   replace H : ((spec_l1Cur_among.f s0_0 t239 t240 y242).bind fun bt245 => (some (bt245.1, bt245.2.1, bt245.2.2))) = some (r1, r2, r3) := by first | (rw [hy242]; with_reducible exact H) | (have H2_ := (Option.bind_some _ _).symm.trans H; rw [hy242]; with_reducible exact H2_) | (have H2_ := (Option.bind_some _ _).symm.trans H; with_reducible exact H2_) | with_reducible exact H | (rw [hy242]; exact H) | exact H
   have Ny242 := Aside0.mk hy242
   clear hy242
   replace H := Option.bind_eq_some_iff.mp H
   obtain ⟨⟨t245, t246, t247⟩, A80, H⟩ := H
   replace H : (some (t245, t246, t247)) = some (r1, r2, r3) := H
   have A8 := Aside0.mk A80
   clear A80
   simp only [Option.some.injEq, Prod.mk.injEq] at H
   obtain ⟨rfl, rfl, rfl⟩ := H
   go_enter Tryd.func46, Tryd.ntmps46
   go_wp2_with (first | ((with_reducible refine gate_dst (N := 3) rfl ?_); refine box_event ?hg (N := 3) ?hd (cs := #[.int .i64 a1_0, .int .i64 a1_1, .int .i64 a1_2]) (t := 26) ?hr ?_; (case hd => rfl); (case hg => rfl); (case hr => first | (go_simp; done) | (go_simp; rfl)); intro gb236 hg w9 hbox hb; have BK236 := Aside0.mk (hbox); have GW236 := Aside0.mk ((by rw [hg]; exact (keep_size (hk_ HK)) : w.heap.size ≤ gb236)); have GE236 := Aside0.mk ((Nat.le_trans HW0.out (by rw [hg]; exact (keep_size (hk_ HK)) : w.heap.size ≤ gb236) : w0.heap.size ≤ gb236)); have NB0_236 := Aside0.mk ((by rw [hg]; exact Nat.ne_of_lt (IsS68.lt (show IsS68 w0 _ g s0_0 s0_1 s0_2 from IsS68.q HI0)) : g ≠ gb236)); have NB236_0 := Aside0.mk ((by rw [hg]; exact Nat.ne_of_gt (IsS68.lt (show IsS68 w0 _ g s0_0 s0_1 s0_2 from IsS68.q HI0)) : gb236 ≠ g)); replace HK := hkb_ HK hb; replace HB := Aside0.mk (below_step (hbI_ HB (IsS68.ge HI0.out)) hb); replace HI0 := IsS68.b HI0 hb; clear hb hbox hg; have hnb10 := NB236_0.out; have hnc10 := NB0_236.out; obtain ⟨hcz11_0, hcz11_1, hcz11_2, hfz11_0, hfz11_1, hfz11_2⟩ := bx3 BK236) | ((with_reducible refine gate_callee (f := 39) rfl ?_); refine gl_ (some 6) Tryd.func39 #[.agg #[.int .i64 a1_0, .int .i64 a1_1, .int .i64 a1_2]] rfl rfl rfl ?_; (with_reducible refine (spec_grGood.calls a1_0 a1_1 a1_2 true _ A3.out).mono ?_); rintro e w12 ⟨rfl, hb⟩; refine ⟨_, rfl, ?_⟩; replace BK236 := kb_ BK236 hb; replace HK := hkb_ HK hb; replace HB := Aside0.mk (below_step (hbI_ HB (IsS68.ge HI0.out)) hb); replace HI0 := IsS68.b HI0 hb; (try clear hb); (try clear hb2); (try clear hk); (try clear hi)) | ((with_reducible refine gate_callee (f := 54) rfl ?_); refine gl_ (some 9) Tryd.func54 #[.pointer (some ⟨g, 0, none⟩), .int .i64 24] rfl rfl rfl ?_; (with_reducible refine (spec_l1Cur_one.calls g s0_0 s0_1 s0_2 24 true t239 t240 w0 _ ?side1 ?side2 A5.out).mono ?_); (case side1 => exact IsS68.q HI0); (case side2 => exact hbI_ HB (IsS68.ge HI0.out)); rintro e w13 ⟨rfl, hi, hb, hk⟩; refine ⟨_, rfl, ?_⟩; replace BK236 := kk_ BK236 hk NB236_0; replace HK := Aside0.mk (KeepBut.trans (hk_ HK) hk (.inl rfl)); replace HB := Aside0.mk (hb); replace HI0 := Aside0.mk (hi); (try clear hb); (try clear hb2); (try clear hk); (try clear hi); obtain ⟨hcz14_0, hcz14_1, hcz14_2, hfz14_0, hfz14_1, hfz14_2⟩ := bx3 BK236) | ((with_reducible refine gate_callee (f := 53) rfl ?_); refine gl_ (some 12) Tryd.func53 #[.agg #[.int .i64 a1_0, .int .i64 a1_1, .int .i64 a1_2]] rfl rfl rfl ?_; (with_reducible refine (spec_grCount.calls a1_0 a1_1 a1_2 t241 _ A7.out).mono ?_); rintro e w15 ⟨rfl, hb⟩; refine ⟨_, rfl, ?_⟩; replace BK236 := kb_ BK236 hb; replace HK := hkb_ HK hb; replace HB := Aside0.mk (below_step (hbI_ HB (IsS68.ge HI0.out)) hb); replace HI0 := IsS68.b HI0 hb; (try clear hb); (try clear hb2); (try clear hk); (try clear hi); try clear BK236; try clear GW236; try clear GE236; try clear NB236_0; try clear NB0_236) | ((with_reducible refine gate_dst (N := 13) rfl ?_); refine Kd.R_lit (Kd.int .i64) _ 3 ?hg (N := 13) ?hd (xs := ([(-1), t241] : List Int)) (inner := [.int .i64 (-1), .int .i64 t241]) (ok := fun _ => True) (okp := fun _ => True) ?hr ?hp (fun _ hk => hk) trivial (Below.refl _ _) (Nat.le_refl _) (by simp) ?_; (case hd => rfl); (case hg => rfl); (case hr => first | (go_simp; done) | (go_simp; rfl)); (case hp => exact (Reps.one (show Kd.M (Kd.int .i64) _ _ _ (-1) [.int .i64 (-1)] from rfl) (Reps.one (show Kd.M (Kd.int .i64) _ _ _ t241 [.int .i64 t241] from rfl) (Reps.none _ _)))); intro v243 w16 ho17 hb hg_ hnew_; clear hg_ hnew_; (first | rw [← Ny242.out] at ho17 | (simp only [Int.reduceToNat] at ho17; rw [← Ny242.out] at ho17)); have HO244 := Aside0.mk (Kd.R_lower ho17 (keep_size (hk_ HK))); replace HK := hkb_ HK hb; replace HB := Aside0.mk (below_step (hbI_ HB (IsS68.ge HI0.out)) hb); replace HI0 := IsS68.b HI0 hb; clear hb ho17; obtain ⟨Ao18, co18, eo18⟩ := Kd.R_slice HO244.out; subst eo18) | ((with_reducible refine gate_callee (f := 61) rfl ?_); refine gl_ (some 14) Tryd.func61 #[.pointer (some ⟨g, 0, none⟩), .slice Ao18 y242.length co18] rfl rfl rfl ?_; (with_reducible refine (spec_l1Cur_among.calls g s0_0 t239 t240 _ _ y242 t245 t246 t247 w0 _ ?side1 ?side2 ?side3 ?side4 ?side5 A8.out).mono ?_); (case side1 => exact IsS68.q HI0); (case side2 => exact hbI_ HB (IsS68.ge HI0.out)); (case side3 => exact Kd.C_o HO244); (case side4 => exact (Kd.R_reads' HO244.out).2.1); (case side5 => exact far_slice (IsS68.own_ne HI0.out HO244.out (by decide))); rintro e w19 ⟨rfl, hi, hb, hk⟩; refine ⟨_, rfl, ?_⟩; have n0_ := IsS68.rk HI0 HO244 hk; have n1_ := Aside0.mk (KeepBut.trans (hk_ HK) hk (.inl rfl)); have n2_ := Aside0.mk (hb); have n3_ := Aside0.mk (hi); clear HO244 HK HB HI0; have HO244 := n0_; have HK := n1_; have HB := n2_; have HI0 := n3_; clear n0_ n1_ n2_ n3_; (try clear hb); (try clear hb2); (try clear hk); (try clear hi)))
   go_ret
   exact ⟨by first | rfl | (simp [errW_none, errW_some] <;> rfl) | (simp [*, errW_none, errW_some] <;> rfl), IsS68.q HI0, hbI_ HB (IsS68.ge HI0.out), hk_ HK⟩
  ·replace c6 := Bool.eq_false_iff.mpr c6
   subst c6
   have H1 : ((spec_grCount.f a1_0 a1_1 a1_2).bind fun t248 => ((spec_l1Cur_pick.f s0_0 t239 t240 t248).bind fun bt249 => (some (bt249.1, bt249.2.1, bt249.2.2)))) = some (r1, r2, r3) := by rw [if_neg (show ¬ (false = true) by decide)] at H; exact H
   clear H
   have H := H1
   clear H1
   replace H := Option.bind_eq_some_iff.mp H
   obtain ⟨t248, A200, H⟩ := H
   replace H : ((spec_l1Cur_pick.f s0_0 t239 t240 t248).bind fun bt249 => (some (bt249.1, bt249.2.1, bt249.2.2))) = some (r1, r2, r3) := H
   have A20 := Aside0.mk A200
   clear A200
   replace H := Option.bind_eq_some_iff.mp H
   obtain ⟨⟨t249, t250, t251⟩, A210, H⟩ := H
   replace H : (some (t249, t250, t251)) = some (r1, r2, r3) := H
   have A21 := Aside0.mk A210
   clear A210
   simp only [Option.some.injEq, Prod.mk.injEq] at H
   obtain ⟨rfl, rfl, rfl⟩ := H
   go_enter Tryd.func46, Tryd.ntmps46
   go_wp2_with (first | ((with_reducible refine gate_dst (N := 3) rfl ?_); refine box_event ?hg (N := 3) ?hd (cs := #[.int .i64 a1_0, .int .i64 a1_1, .int .i64 a1_2]) (t := 26) ?hr ?_; (case hd => rfl); (case hg => rfl); (case hr => first | (go_simp; done) | (go_simp; rfl)); intro gb236 hg w22 hbox hb; have BK236 := Aside0.mk (hbox); have GW236 := Aside0.mk ((by rw [hg]; exact (keep_size (hk_ HK)) : w.heap.size ≤ gb236)); have GE236 := Aside0.mk ((Nat.le_trans HW0.out (by rw [hg]; exact (keep_size (hk_ HK)) : w.heap.size ≤ gb236) : w0.heap.size ≤ gb236)); have NB0_236 := Aside0.mk ((by rw [hg]; exact Nat.ne_of_lt (IsS68.lt (show IsS68 w0 _ g s0_0 s0_1 s0_2 from IsS68.q HI0)) : g ≠ gb236)); have NB236_0 := Aside0.mk ((by rw [hg]; exact Nat.ne_of_gt (IsS68.lt (show IsS68 w0 _ g s0_0 s0_1 s0_2 from IsS68.q HI0)) : gb236 ≠ g)); replace HK := hkb_ HK hb; replace HB := Aside0.mk (below_step (hbI_ HB (IsS68.ge HI0.out)) hb); replace HI0 := IsS68.b HI0 hb; clear hb hbox hg; have hnb23 := NB236_0.out; have hnc23 := NB0_236.out; obtain ⟨hcz24_0, hcz24_1, hcz24_2, hfz24_0, hfz24_1, hfz24_2⟩ := bx3 BK236) | ((with_reducible refine gate_callee (f := 39) rfl ?_); refine gl_ (some 6) Tryd.func39 #[.agg #[.int .i64 a1_0, .int .i64 a1_1, .int .i64 a1_2]] rfl rfl rfl ?_; (with_reducible refine (spec_grGood.calls a1_0 a1_1 a1_2 true _ A3.out).mono ?_); rintro e w25 ⟨rfl, hb⟩; refine ⟨_, rfl, ?_⟩; replace BK236 := kb_ BK236 hb; replace HK := hkb_ HK hb; replace HB := Aside0.mk (below_step (hbI_ HB (IsS68.ge HI0.out)) hb); replace HI0 := IsS68.b HI0 hb; (try clear hb); (try clear hb2); (try clear hk); (try clear hi)) | ((with_reducible refine gate_callee (f := 54) rfl ?_); refine gl_ (some 9) Tryd.func54 #[.pointer (some ⟨g, 0, none⟩), .int .i64 24] rfl rfl rfl ?_; (with_reducible refine (spec_l1Cur_one.calls g s0_0 s0_1 s0_2 24 false t239 t240 w0 _ ?side1 ?side2 A5.out).mono ?_); (case side1 => exact IsS68.q HI0); (case side2 => exact hbI_ HB (IsS68.ge HI0.out)); rintro e w26 ⟨rfl, hi, hb, hk⟩; refine ⟨_, rfl, ?_⟩; replace BK236 := kk_ BK236 hk NB236_0; replace HK := Aside0.mk (KeepBut.trans (hk_ HK) hk (.inl rfl)); replace HB := Aside0.mk (hb); replace HI0 := Aside0.mk (hi); (try clear hb); (try clear hb2); (try clear hk); (try clear hi); obtain ⟨hcz27_0, hcz27_1, hcz27_2, hfz27_0, hfz27_1, hfz27_2⟩ := bx3 BK236) | ((with_reducible refine gate_callee (f := 53) rfl ?_); refine gl_ (some 17) Tryd.func53 #[.agg #[.int .i64 a1_0, .int .i64 a1_1, .int .i64 a1_2]] rfl rfl rfl ?_; (with_reducible refine (spec_grCount.calls a1_0 a1_1 a1_2 t248 _ A20.out).mono ?_); rintro e w28 ⟨rfl, hb⟩; refine ⟨_, rfl, ?_⟩; replace BK236 := kb_ BK236 hb; replace HK := hkb_ HK hb; replace HB := Aside0.mk (below_step (hbI_ HB (IsS68.ge HI0.out)) hb); replace HI0 := IsS68.b HI0 hb; (try clear hb); (try clear hb2); (try clear hk); (try clear hi); try clear BK236; try clear GW236; try clear GE236; try clear NB236_0; try clear NB0_236) | ((with_reducible refine gate_callee (f := 52) rfl ?_); refine gl_ (some 18) Tryd.func52 #[.pointer (some ⟨g, 0, none⟩), .int .i64 t248] rfl rfl rfl ?_; (with_reducible refine (spec_l1Cur_pick.calls g s0_0 t239 t240 t248 t249 t250 t251 w0 _ ?side1 ?side2 A21.out).mono ?_); (case side1 => exact IsS68.q HI0); (case side2 => exact hbI_ HB (IsS68.ge HI0.out)); rintro e w29 ⟨rfl, hi, hb, hk⟩; refine ⟨_, rfl, ?_⟩; replace HK := Aside0.mk (KeepBut.trans (hk_ HK) hk (.inl rfl)); replace HB := Aside0.mk (hb); replace HI0 := Aside0.mk (hi); (try clear hb); (try clear hb2); (try clear hk); (try clear hi)))
   go_ret
   exact ⟨by first | rfl | (simp [errW_none, errW_some] <;> rfl) | (simp [*, errW_none, errW_some] <;> rfl), IsS68.q HI0, hbI_ HB (IsS68.ge HI0.out), hk_ HK⟩
 ·replace c4 := Bool.eq_false_iff.mpr c4
  subst c4
  have H1 : (some (0, s0_1, s0_2)) = some (r1, r2, r3) := by rw [if_neg (show ¬ (false = true) by decide)] at H; exact H
  clear H
  have H := H1
  clear H1
  simp only [Option.some.injEq, Prod.mk.injEq] at H
  obtain ⟨rfl, rfl, rfl⟩ := H
  go_enter Tryd.func46, Tryd.ntmps46
  go_wp2_with (first | ((with_reducible refine gate_dst (N := 3) rfl ?_); refine box_event ?hg (N := 3) ?hd (cs := #[.int .i64 a1_0, .int .i64 a1_1, .int .i64 a1_2]) (t := 26) ?hr ?_; (case hd => rfl); (case hg => rfl); (case hr => first | (go_simp; done) | (go_simp; rfl)); intro gb236 hg w30 hbox hb; have BK236 := Aside0.mk (hbox); have GW236 := Aside0.mk ((by rw [hg]; exact (keep_size (hk_ HK)) : w.heap.size ≤ gb236)); have GE236 := Aside0.mk ((Nat.le_trans HW0.out (by rw [hg]; exact (keep_size (hk_ HK)) : w.heap.size ≤ gb236) : w0.heap.size ≤ gb236)); have NB0_236 := Aside0.mk ((by rw [hg]; exact Nat.ne_of_lt (IsS68.lt (show IsS68 w0 _ g s0_0 s0_1 s0_2 from IsS68.q HI0)) : g ≠ gb236)); have NB236_0 := Aside0.mk ((by rw [hg]; exact Nat.ne_of_gt (IsS68.lt (show IsS68 w0 _ g s0_0 s0_1 s0_2 from IsS68.q HI0)) : gb236 ≠ g)); replace HK := hkb_ HK hb; replace HB := Aside0.mk (below_step (hbI_ HB (IsS68.ge HI0.out)) hb); replace HI0 := IsS68.b HI0 hb; clear hb hbox hg; have hnb31 := NB236_0.out; have hnc31 := NB0_236.out; obtain ⟨hcz32_0, hcz32_1, hcz32_2, hfz32_0, hfz32_1, hfz32_2⟩ := bx3 BK236) | ((with_reducible refine gate_callee (f := 39) rfl ?_); refine gl_ (some 6) Tryd.func39 #[.agg #[.int .i64 a1_0, .int .i64 a1_1, .int .i64 a1_2]] rfl rfl rfl ?_; (with_reducible refine (spec_grGood.calls a1_0 a1_1 a1_2 false _ A3.out).mono ?_); rintro e w33 ⟨rfl, hb⟩; refine ⟨_, rfl, ?_⟩; replace BK236 := kb_ BK236 hb; replace HK := hkb_ HK hb; replace HB := Aside0.mk (below_step (hbI_ HB (IsS68.ge HI0.out)) hb); replace HI0 := IsS68.b HI0 hb; (try clear hb); (try clear hb2); (try clear hk); (try clear hi)))
  go_ret
  exact ⟨by first | rfl | (simp [errW_none, errW_some] <;> rfl) | (simp [*, errW_none, errW_some] <;> rfl), IsS68.q HI0, hbI_ HB (IsS68.ge HI0.out), hk_ HK⟩

end Go.Proofs.YtgeoecfphklcmaaDoor.PFnGrids
