-- Laid for this claim by wip/tools/print2.sh, a changed copy of the kit's print (wip/tools/patch_print.py): not by print.sh.
import Derived.Test.YtdfjlelbkkaloaaPFnGradesx0
namespace Go.Proofs.Ytdfjlelbkkaloaa.PFnGrades
open Go.RowKit Go.Proofs.YtdfjlelbkkaloaaW.PrintWords Go.Proofs.YtdfjlelbkkaloaaW.PrintLast Go.Proofs.YtdfjlelbkkaloaaW.PrintMore
attribute [local go_sem] max2_int min2_int max_two min_two max_three min_three max_four min_four   -- for this text's walks alone
set_option linter.unusedVariables false
set_option linter.unusedSimpArgs false

/-- A state of type 76 at block g of W; what its slices lead to came in by w0. -/
def IsS76 (w0 W : World) (g : Nat) (f0 : List Int) (f1 : Int) (f2 : Int) : Prop := ∃ A0 c0, W.heap[g]? = some (.cells #[.slice A0 f0.length c0, .int .i64 f1, .int .u64 f2] 76 (0, 0)) ∧ w0.heap.size ≤ g ∧ Kd.C (Kd.int .u8) w0 A0 f0.length f0
theorem IsS76.grown {w0 W : World} {g : Nat} {f0 : List Int} {f1 : Int} {f2 : Int} {W1 : World} {row : Option Nat} (h : IsS76 w0 W g f0 f1 f2) (hw : W.grownBy W1 row) (hne : some g ≠ row) : IsS76 w0 W1 g f0 f1 f2 := by
 obtain ⟨A0, c0, hb, hg, hr0⟩ := h
 exact ⟨A0, c0, blk_grown hb hw hne, hg, hr0⟩
theorem IsS76.own_neN {w0 W : World} {g : Nat} {f0 : List Int} {f1 : Int} {f2 : Int} {α : Type} {d : Kd α} {e : Nat} {base : Nat} {ok : Nat → Prop} {v : Value} {xs : List α} (h : IsS76 w0 W g f0 f1 f2) (ho : Kd.N d e W base ok v xs) (ht : e ≠ 76) : some g ≠ v.ownBlock := by
 obtain ⟨A0, c0, hb, hg, hr0⟩ := h
 exact Kd.N_ne ho hb ht
theorem IsS76.fresh {w0 W : World} {g : Nat} {f0 : List Int} {f1 : Int} {f2 : Int} (h : IsS76 w0 W g f0 f1 f2) : ∀ k, W.heap.size ≤ k → k ≠ g := by
 obtain ⟨A0, c0, hb, hg, hr0⟩ := h
 exact Kd.freshB hb
theorem IsS76.kept {w0 W : World} {g : Nat} {f0 : List Int} {f1 : Int} {f2 : Int} {W1 : World} {S : Nat → Prop} (h : IsS76 w0 W g f0 f1 f2) (hk : Kept W W1 S) (hne : ¬ S g) : IsS76 w0 W1 g f0 f1 f2 := by
 obtain ⟨A0, c0, hb, hg, hr0⟩ := h
 exact ⟨A0, c0, blk_kept hb hk hne, hg, hr0⟩
theorem IsS76.below {w0 W : World} {g : Nat} {f0 : List Int} {f1 : Int} {f2 : Int} {W1 : World} (h : IsS76 w0 W g f0 f1 f2) (hw : Below W.heap.size W W1) : IsS76 w0 W1 g f0 f1 f2 := h.grown (grown_of_below hw none) (by simp)
theorem IsS76.alloc {w0 W : World} {g : Nat} {f0 : List Int} {f1 : Int} {f2 : Int} (h : IsS76 w0 W g f0 f1 f2) (o : Obj) : IsS76 w0 (W.alloc o) g f0 f1 f2 := h.below (below_alloc (Below.refl _ _) o)
theorem IsS76.drewN {w0 W : World} {g : Nat} {f0 : List Int} {f1 : Int} {f2 : Int} (h : IsS76 w0 W g f0 f1 f2) (m : Nat) : IsS76 w0 (W.drewN m) g f0 f1 f2 := h
theorem IsS76.drew {w0 W : World} {g : Nat} {f0 : List Int} {f1 : Int} {f2 : Int} (h : IsS76 w0 W g f0 f1 f2) : IsS76 w0 W.drew g f0 f1 f2 := h
theorem IsS76.at_ {w0 W : World} {g : Nat} {f0 : List Int} {f1 : Int} {f2 : Int} {w' : World} {m : Nat} (hq : W.drewN m = w') (h : IsS76 w0 W g f0 f1 f2) : IsS76 w0 w' g f0 f1 f2 := by subst hq; exact IsS76.drewN h m
theorem IsS76.apart {w0 W : World} {g : Nat} {f0 : List Int} {f1 : Int} {f2 : Int} {α : Type} {d : Kd α} {e : Nat} {base : Nat} {ok : Nat → Prop} {v : Value} {xs : List α} (h : IsS76 w0 W g f0 f1 f2) (ho : d.R e W base ok v xs) (ht : ∀ q, q ∈ e :: d.E → q ≠ 76) : d.R e W base (fun k => ok k ∧ k ≠ g) v xs := by
 obtain ⟨A0, c0, hb, hg, hr0⟩ := h
 exact Kd.R_types ho hb ht
theorem IsS76.own_ne {w0 W : World} {g : Nat} {f0 : List Int} {f1 : Int} {f2 : Int} {α : Type} {d : Kd α} {e : Nat} {base : Nat} {ok : Nat → Prop} {v : Value} {xs : List α} (h : IsS76 w0 W g f0 f1 f2) (ho : d.R e W base ok v xs) (ht : e ≠ 76) : some g ≠ v.ownBlock := by
 obtain ⟨A0, c0, hb, hg, hr0⟩ := h
 exact Kd.R_ne ho hb ht
theorem IsS76.apartQ {w0 W : World} {g : Nat} {f0 : List Int} {f1 : Int} {f2 : Int} {α : Type} {d : Kd α} {e : Nat} {base : Nat} {ok : Nat → Prop} {v : Value} {xs : List α} (h : IsS76 w0 W g f0 f1 f2) (ho : d.Q e W base ok v xs) (ht : ∀ q, q ∈ e :: d.E → q ≠ 76) : d.Q e W base (fun k => ok k ∧ k ≠ g) v xs := by
 obtain ⟨A0, c0, hb, hg, hr0⟩ := h
 exact Kd.Q_types ho hb ht
theorem IsS76.own_neQ {w0 W : World} {g : Nat} {f0 : List Int} {f1 : Int} {f2 : Int} {α : Type} {d : Kd α} {e : Nat} {base : Nat} {ok : Nat → Prop} {v : Value} {xs : List α} (h : IsS76 w0 W g f0 f1 f2) (ho : d.Q e W base ok v xs) (ht : e ≠ 76) : some g ≠ v.ownBlock := by
 obtain ⟨A0, c0, hb, hg, hr0⟩ := h
 exact Kd.Q_ne ho hb ht
theorem IsS76.apartS {w0 W : World} {g : Nat} {f0 : List Int} {f1 : Int} {f2 : Int} {α : Type} {d : Kd α} {e : Nat} {base : Nat} {ok : Nat → Prop} {v : Value} {xs : List α} (h : IsS76 w0 W g f0 f1 f2) (ho : d.S e W base ok v xs) (ht : ∀ q, q ∈ e :: d.E → q ≠ 76) : d.S e W base (fun k => ok k ∧ k ≠ g) v xs := by
 obtain ⟨A0, c0, hb, hg, hr0⟩ := h
 exact Kd.S_types ho hb ht
theorem IsS76.own_neS {w0 W : World} {g : Nat} {f0 : List Int} {f1 : Int} {f2 : Int} {α : Type} {d : Kd α} {e : Nat} {base : Nat} {ok : Nat → Prop} {v : Value} {xs : List α} (h : IsS76 w0 W g f0 f1 f2) (ho : d.S e W base ok v xs) (ht : e ≠ 76) : some g ≠ v.ownBlock := by
 obtain ⟨A0, c0, hb, hg, hr0⟩ := h
 exact Kd.S_ne ho hb ht
theorem IsS76.lt {w0 W : World} {g : Nat} {f0 : List Int} {f1 : Int} {f2 : Int} (h : IsS76 w0 W g f0 f1 f2) : g < W.heap.size := by
 obtain ⟨A0, c0, hb, hg, hr0⟩ := h
 exact blk_lt hb
theorem IsS76.ge {w0 W : World} {g : Nat} {f0 : List Int} {f1 : Int} {f2 : Int} (h : IsS76 w0 W g f0 f1 f2) : w0.heap.size ≤ g := by
 obtain ⟨A0, c0, hb, hg, hr0⟩ := h
 exact hg
theorem IsS76.ne_blk {w0 W : World} {g : Nat} {f0 : List Int} {f1 : Int} {f2 : Int} {a : Nat} {cs : Array Value} {t : TypeId} {fr : Nat × Nat} (h : IsS76 w0 W g f0 f1 f2) (hb2 : W.heap[a]? = some (.cells cs t fr)) (ht : t ≠ 76) : g ≠ a := by
 obtain ⟨A0, c0, hb, hg, hr0⟩ := h
 rintro rfl
 rw [hb] at hb2
 injection hb2 with hb2
 injection hb2 with _ ht2
 exact ht ht2.symm
theorem IsS76.far {w0 W : World} {g : Nat} {f0 : List Int} {f1 : Int} {f2 : Int} {p : Addr} (h : IsS76 w0 W g f0 f1 f2) (hne : g ≠ p.block) (u : Value) : IsS76 w0 (W.setCell p u) g f0 f1 f2 := by
 obtain ⟨A0, c0, hb, hg, hr0⟩ := h
 exact ⟨A0, c0, blk_far hb hne u, hg, hr0⟩
theorem cellS76_0 {W : World} {g : Nat} {A0 : Option Addr} {c0 : Nat} {f0 : List Int} {f1 : Int} {f2 : Int} (h : W.heap[g]? = some (.cells #[.slice A0 f0.length c0, .int .i64 f1, .int .u64 f2] 76 (0, 0))) : W.cell? ⟨g, 0, none⟩ = some (.slice A0 f0.length c0) := (blk_cell h 0).trans rfl
theorem cellS76_1 {W : World} {g : Nat} {A0 : Option Addr} {c0 : Nat} {f0 : List Int} {f1 : Int} {f2 : Int} (h : W.heap[g]? = some (.cells #[.slice A0 f0.length c0, .int .i64 f1, .int .u64 f2] 76 (0, 0))) : W.cell? ⟨g, 1, none⟩ = some (.int .i64 f1) := (blk_cell h 1).trans rfl
theorem IsS76.set_1 {w0 W : World} {g : Nat} {f0 : List Int} {f1 : Int} {f2 : Int} (h : IsS76 w0 W g f0 f1 f2) (x : Int) : IsS76 w0 (W.setCell ⟨g, 1, none⟩ (.int .i64 x)) g f0 x f2 := by
 obtain ⟨A0, c0, hb, hg, hr0⟩ := h
 exact ⟨A0, c0, by simpa using blk_set hb 1 (.int .i64 x), hg, hr0⟩
theorem cellS76_2 {W : World} {g : Nat} {A0 : Option Addr} {c0 : Nat} {f0 : List Int} {f1 : Int} {f2 : Int} (h : W.heap[g]? = some (.cells #[.slice A0 f0.length c0, .int .i64 f1, .int .u64 f2] 76 (0, 0))) : W.cell? ⟨g, 2, none⟩ = some (.int .u64 f2) := (blk_cell h 2).trans rfl
theorem IsS76.set_2 {w0 W : World} {g : Nat} {f0 : List Int} {f1 : Int} {f2 : Int} (h : IsS76 w0 W g f0 f1 f2) (x : Int) : IsS76 w0 (W.setCell ⟨g, 2, none⟩ (.int .u64 x)) g f0 f1 x := by
 obtain ⟨A0, c0, hb, hg, hr0⟩ := h
 exact ⟨A0, c0, by simpa using blk_set hb 2 (.int .u64 x), hg, hr0⟩
theorem IsS76.new (w0 W : World) (A0 : Option Addr) (c0 : Nat) (f0 : List Int) (f1 : Int) (f2 : Int) (hB : Below w0.heap.size w0 W) (hr0 : Kd.C (Kd.int .u8) w0 A0 f0.length f0) : IsS76 w0 (W.alloc (.cells #[.slice A0 f0.length c0, .int .i64 f1, .int .u64 f2] 76)) W.heap.size f0 f1 f2 := ⟨A0, c0, by simpa using heap_alloc_new W _, hB.size, hr0⟩
theorem IsS76.farA {w0 W : World} {g a i : Nat} {f0 : List Int} {f1 : Int} {f2 : Int} {u : Value} (h : IsS76 w0 W g f0 f1 f2) (hn : Aside0 (g ≠ a)) : IsS76 w0 (W.setCell ⟨a, i, none⟩ u) g f0 f1 f2 := IsS76.far (p := ⟨a, i, none⟩) h hn.out u
theorem IsS76.q {w0 W W1 : World} {g : Nat} {f0 : List Int} {f1 : Int} {f2 : Int} {f0' : List Int} {f1' : Int} {f2' : Int} (h : Aside0 (IsS76 w0 W g f0 f1 f2)) (hq : IsS76 w0 W g f0 f1 f2 → IsS76 w0 W1 g f0' f1' f2' := by intro h_; repeat (first | (with_reducible first | exact h_ | apply IsS76.alloc | apply IsS76.drewN | apply IsS76.drew | apply IsS76.set_1 | apply IsS76.set_2 | refine IsS76.farA ?_ (by assumption)) | exact h_)) : IsS76 w0 W1 g f0' f1' f2' := hq h.out
theorem IsS76.b {w0 W W1 W2 : World} {g : Nat} {f0 : List Int} {f1 : Int} {f2 : Int} {f0' : List Int} {f1' : Int} {f2' : Int} (h : Aside0 (IsS76 w0 W g f0 f1 f2)) (hb : Below W1.heap.size W1 W2) (hq : IsS76 w0 W g f0 f1 f2 → IsS76 w0 W1 g f0' f1' f2' := by intro h_; repeat (first | (with_reducible first | exact h_ | apply IsS76.alloc | apply IsS76.drewN | apply IsS76.drew | apply IsS76.set_1 | apply IsS76.set_2 | refine IsS76.farA ?_ (by assumption)) | exact h_)) : Aside0 (IsS76 w0 W2 g f0' f1' f2') := ⟨IsS76.below (hq h.out) hb⟩
theorem IsS76.rk {w0 W W1 W2 : World} {g : Nat} {f0 : List Int} {f1 : Int} {f2 : Int} {α : Type} {d : Kd α} {e : Nat} {base : Nat} {ok : Nat → Prop} {v : Value} {xs : List α} (hI : Aside0 (IsS76 w0 W g f0 f1 f2)) (h : Aside0 (d.R e W base ok v xs)) (hk : KeepBut W1 W2 g none) (hq : Below W.heap.size W W1 := by repeat (first | (with_reducible first | exact Below.refl _ _ | apply below_alloc | apply pw_below_drewN | apply below_drew1) | exact Below.refl _ _)) (ht : ∀ q, q ∈ e :: d.E → q ≠ 76 := by decide) : Aside0 (d.R e W2 base ok v xs) := ⟨Kd.R_mono (Kd.R_keep (Kd.R_below (IsS76.apart hI.out h.out ht) hq) hk (fun _ h => h.2)) (fun _ h => h.1)⟩

/-! ### spec_l1Cur_next: function 74 -/
def spec_l1Cur_next.f (s0_0 : List Int) (s0_1 : Int) (s0_2 : Int) : Option (Int × Int × Int) := if s0_1 < (s0_0.length : Int) then (if 0 ≤ s0_1 then (if (wrap64 (s0_1 + 1)) ≤ (s0_0.length : Int) then (some (wrap64 (rd s0_0 s0_1), wrap64 (s0_1 + 1), IntKind.u64.wrap ((IntKind.u64.wrap ((IntKind.u64.wrap (s0_2 * 6364136223846793005)) + (IntKind.u64.wrap (wrap64 (rd s0_0 s0_1))))) + 1442695040888963407))) else (some (wrap64 (Go.bits .and .u64 ((IntKind.u64.wrap ((IntKind.u64.wrap ((IntKind.u64.wrap (s0_2 * 6364136223846793005)) + (IntKind.u64.wrap (wrap64 (rd s0_0 s0_1))))) + 1442695040888963407)) / 1099511627776) 255), wrap64 (s0_1 + 1), IntKind.u64.wrap ((IntKind.u64.wrap ((IntKind.u64.wrap (s0_2 * 6364136223846793005)) + (IntKind.u64.wrap (wrap64 (rd s0_0 s0_1))))) + 1442695040888963407)))) else (none)) else (if (wrap64 (s0_1 + 1)) ≤ (s0_0.length : Int) then (some (0, wrap64 (s0_1 + 1), IntKind.u64.wrap ((IntKind.u64.wrap (IntKind.u64.wrap (s0_2 * 6364136223846793005))) + 1442695040888963407))) else (some (wrap64 (Go.bits .and .u64 ((IntKind.u64.wrap ((IntKind.u64.wrap (IntKind.u64.wrap (s0_2 * 6364136223846793005))) + 1442695040888963407)) / 1099511627776) 255), wrap64 (s0_1 + 1), IntKind.u64.wrap ((IntKind.u64.wrap (IntKind.u64.wrap (s0_2 * 6364136223846793005))) + 1442695040888963407))))
set_option maxHeartbeats 8000000 in
set_option maxRecDepth 100000 in
theorem spec_l1Cur_next.calls (g : Nat) (s0_0 : List Int) (s0_1 : Int) (s0_2 : Int) (r1 : Int) (r2 : Int) (r3 : Int) (w0 w : World) (hI : IsS76 w0 w g s0_0 s0_1 s0_2) (hB : Below w0.heap.size w0 w) (h : spec_l1Cur_next.f s0_0 s0_1 s0_2 = some (r1, r2, r3)) :
  Calls Try.prog 74 #[.pointer (some ⟨g, 0, none⟩)] w fun e w' => e = .returned (.int .i64 r1) ∧ IsS76 w0 w' g s0_0 r2 r3 ∧ Below w0.heap.size w0 w' ∧ KeepBut w w' g none := by
 have HI0 := Aside0.mk hI
 have HK := Aside0.mk (KeepBut.refl w g none)
 have HL := Aside0.mk hB.size
 clear hI
 have HW0 := Aside0.mk hB.size
 have HB := Aside0.mk hB
 clear hB
 have H : (if s0_1 < (s0_0.length : Int) then (if 0 ≤ s0_1 then (if (wrap64 (s0_1 + 1)) ≤ (s0_0.length : Int) then (some (wrap64 (rd s0_0 s0_1), wrap64 (s0_1 + 1), IntKind.u64.wrap ((IntKind.u64.wrap ((IntKind.u64.wrap (s0_2 * 6364136223846793005)) + (IntKind.u64.wrap (wrap64 (rd s0_0 s0_1))))) + 1442695040888963407))) else (some (wrap64 (Go.bits .and .u64 ((IntKind.u64.wrap ((IntKind.u64.wrap ((IntKind.u64.wrap (s0_2 * 6364136223846793005)) + (IntKind.u64.wrap (wrap64 (rd s0_0 s0_1))))) + 1442695040888963407)) / 1099511627776) 255), wrap64 (s0_1 + 1), IntKind.u64.wrap ((IntKind.u64.wrap ((IntKind.u64.wrap (s0_2 * 6364136223846793005)) + (IntKind.u64.wrap (wrap64 (rd s0_0 s0_1))))) + 1442695040888963407)))) else (none)) else (if (wrap64 (s0_1 + 1)) ≤ (s0_0.length : Int) then (some (0, wrap64 (s0_1 + 1), IntKind.u64.wrap ((IntKind.u64.wrap (IntKind.u64.wrap (s0_2 * 6364136223846793005))) + 1442695040888963407))) else (some (wrap64 (Go.bits .and .u64 ((IntKind.u64.wrap ((IntKind.u64.wrap (IntKind.u64.wrap (s0_2 * 6364136223846793005))) + 1442695040888963407)) / 1099511627776) 255), wrap64 (s0_1 + 1), IntKind.u64.wrap ((IntKind.u64.wrap (IntKind.u64.wrap (s0_2 * 6364136223846793005))) + 1442695040888963407))))) = some (r1, r2, r3) := h
 clear h
 by_cases c2 : s0_1 < (s0_0.length : Int)
 ·rw [if_pos c2] at H
  have c2b0 : decide (s0_1 < (s0_0.length : Int)) = true := decide_eq_true c2
  clear c2
  by_cases c3 : 0 ≤ s0_1
  ·rw [if_pos c3] at H
   have c3b0 : decide (0 ≤ s0_1) = true := decide_eq_true c3
   clear c3
   by_cases c4 : (wrap64 (s0_1 + 1)) ≤ (s0_0.length : Int)
   ·rw [if_pos c4] at H
    have c4b0 : decide ((wrap64 (s0_1 + 1)) ≤ (s0_0.length : Int)) = true := decide_eq_true c4
    clear c4
    simp only [Option.some.injEq, Prod.mk.injEq] at H
    obtain ⟨rfl, rfl, rfl⟩ := H
    obtain ⟨ASz5_0, cSz5_0, HGz5, hgz5, HSz5_0⟩ := HI0.out
    have hcz5_0 := cellS76_0 HGz5
    have hcz5_1 := cellS76_1 HGz5
    have hcz5_2 := cellS76_2 HGz5
    have hfz5_1 := blk_frozen HGz5 1
    have hfz5_2 := blk_frozen HGz5 2
    clear HGz5 hgz5
    have p206 : 0 ≤ (s0_1 : Int) := of_decide_eq_true (by first | (with_reducible assumption) | assumption)
    have q206 : s0_1 < (s0_0.length : Int) := of_decide_eq_true (by first | (with_reducible assumption) | assumption)
    obtain ⟨ad206, e206, hx206_0⟩ := Kd.at_int HSz5_0 s0_1 p206 q206
    cases e206
    replace hx206_0 := pw_cell_below HB.out hx206_0
    replace p206 := eq_true p206
    replace q206 := eq_true q206
    go_enter Try.func74, Try.ntmps74
    go_wp2
    repeat (go_quiet (fail); try go_wp2)
    go_ret
    exact ⟨by first | rfl | (simp [errW_none, errW_some] <;> rfl) | (simp [*, errW_none, errW_some] <;> rfl), IsS76.q HI0, hbI_ HB (IsS76.ge HI0.out), hk_ HK⟩
   ·rw [if_neg c4] at H
    have c4b0 : decide ((wrap64 (s0_1 + 1)) ≤ (s0_0.length : Int)) = false := decide_eq_false c4
    clear c4
    simp only [Option.some.injEq, Prod.mk.injEq] at H
    obtain ⟨rfl, rfl, rfl⟩ := H
    obtain ⟨ASz6_0, cSz6_0, HGz6, hgz6, HSz6_0⟩ := HI0.out
    have hcz6_0 := cellS76_0 HGz6
    have hcz6_1 := cellS76_1 HGz6
    have hcz6_2 := cellS76_2 HGz6
    have hfz6_1 := blk_frozen HGz6 1
    have hfz6_2 := blk_frozen HGz6 2
    clear HGz6 hgz6
    have p206 : 0 ≤ (s0_1 : Int) := of_decide_eq_true (by first | (with_reducible assumption) | assumption)
    have q206 : s0_1 < (s0_0.length : Int) := of_decide_eq_true (by first | (with_reducible assumption) | assumption)
    obtain ⟨ad206, e206, hx206_0⟩ := Kd.at_int HSz6_0 s0_1 p206 q206
    cases e206
    replace hx206_0 := pw_cell_below HB.out hx206_0
    replace p206 := eq_true p206
    replace q206 := eq_true q206
    go_enter Try.func74, Try.ntmps74
    go_wp2
    repeat (go_quiet (fail); try go_wp2)
    go_ret
    exact ⟨by first | rfl | (simp [errW_none, errW_some] <;> rfl) | (simp [*, errW_none, errW_some] <;> rfl), IsS76.q HI0, hbI_ HB (IsS76.ge HI0.out), hk_ HK⟩
  ·rw [if_neg c3] at H
   exact absurd H (by simp)
 ·rw [if_neg c2] at H
  have c2b0 : decide (s0_1 < (s0_0.length : Int)) = false := decide_eq_false c2
  clear c2
  by_cases c7 : (wrap64 (s0_1 + 1)) ≤ (s0_0.length : Int)
  ·rw [if_pos c7] at H
   have c7b0 : decide ((wrap64 (s0_1 + 1)) ≤ (s0_0.length : Int)) = true := decide_eq_true c7
   clear c7
   simp only [Option.some.injEq, Prod.mk.injEq] at H
   obtain ⟨rfl, rfl, rfl⟩ := H
   obtain ⟨ASz8_0, cSz8_0, HGz8, hgz8, HSz8_0⟩ := HI0.out
   have hcz8_0 := cellS76_0 HGz8
   have hcz8_1 := cellS76_1 HGz8
   have hcz8_2 := cellS76_2 HGz8
   have hfz8_1 := blk_frozen HGz8 1
   have hfz8_2 := blk_frozen HGz8 2
   clear HGz8 hgz8
   go_enter Try.func74, Try.ntmps74
   go_wp2
   repeat (go_quiet (fail); try go_wp2)
   go_ret
   exact ⟨by first | rfl | (simp [errW_none, errW_some] <;> rfl) | (simp [*, errW_none, errW_some] <;> rfl), IsS76.q HI0, hbI_ HB (IsS76.ge HI0.out), hk_ HK⟩
  ·rw [if_neg c7] at H
   have c7b0 : decide ((wrap64 (s0_1 + 1)) ≤ (s0_0.length : Int)) = false := decide_eq_false c7
   clear c7
   simp only [Option.some.injEq, Prod.mk.injEq] at H
   obtain ⟨rfl, rfl, rfl⟩ := H
   obtain ⟨ASz9_0, cSz9_0, HGz9, hgz9, HSz9_0⟩ := HI0.out
   have hcz9_0 := cellS76_0 HGz9
   have hcz9_1 := cellS76_1 HGz9
   have hcz9_2 := cellS76_2 HGz9
   have hfz9_1 := blk_frozen HGz9 1
   have hfz9_2 := blk_frozen HGz9 2
   clear HGz9 hgz9
   go_enter Try.func74, Try.ntmps74
   go_wp2
   repeat (go_quiet (fail); try go_wp2)
   go_ret
   exact ⟨by first | rfl | (simp [errW_none, errW_some] <;> rfl) | (simp [*, errW_none, errW_some] <;> rfl), IsS76.q HI0, hbI_ HB (IsS76.ge HI0.out), hk_ HK⟩

/-! ### spec_l1Cur_pick: function 60 -/
def spec_l1Cur_pick.f (s0_0 : List Int) (s0_1 : Int) (s0_2 : Int) (a1 : Int) : Option (Int × Int × Int) := if a1 ≤ 1 then (some (0, s0_1, s0_2)) else ((spec_l1Cur_next.f s0_0 s0_1 s0_2).bind fun bt207 => (if a1 > 200 then ((spec_l1Cur_next.f s0_0 bt207.2.1 bt207.2.2).bind fun bt210 => (if a1 = 0 then (none) else (some (Int.tmod (wrap64 ((wrap64 (bt207.1 * 256)) + bt210.1)) a1, bt210.2.1, bt210.2.2)))) else (if a1 = 0 then (none) else (some (Int.tmod bt207.1 a1, bt207.2.1, bt207.2.2)))))
set_option maxHeartbeats 8000000 in
set_option maxRecDepth 100000 in
theorem spec_l1Cur_pick.calls (g : Nat) (s0_0 : List Int) (s0_1 : Int) (s0_2 : Int) (a1 : Int) (r1 : Int) (r2 : Int) (r3 : Int) (w0 w : World) (hI : IsS76 w0 w g s0_0 s0_1 s0_2) (hB : Below w0.heap.size w0 w) (h : spec_l1Cur_pick.f s0_0 s0_1 s0_2 a1 = some (r1, r2, r3)) :
  Calls Try.prog 60 #[.pointer (some ⟨g, 0, none⟩), .int .i64 a1] w fun e w' => e = .returned (.int .i64 r1) ∧ IsS76 w0 w' g s0_0 r2 r3 ∧ Below w0.heap.size w0 w' ∧ KeepBut w w' g none := by
 have HI0 := Aside0.mk hI
 have HK := Aside0.mk (KeepBut.refl w g none)
 have HL := Aside0.mk hB.size
 clear hI
 have HW0 := Aside0.mk hB.size
 have HB := Aside0.mk hB
 clear hB
 have H : (if a1 ≤ 1 then (some (0, s0_1, s0_2)) else ((spec_l1Cur_next.f s0_0 s0_1 s0_2).bind fun bt207 => (if a1 > 200 then ((spec_l1Cur_next.f s0_0 bt207.2.1 bt207.2.2).bind fun bt210 => (if a1 = 0 then (none) else (some (Int.tmod (wrap64 ((wrap64 (bt207.1 * 256)) + bt210.1)) a1, bt210.2.1, bt210.2.2)))) else (if a1 = 0 then (none) else (some (Int.tmod bt207.1 a1, bt207.2.1, bt207.2.2)))))) = some (r1, r2, r3) := h
 clear h
 by_cases c3 : a1 ≤ 1
 ·rw [if_pos c3] at H
  have c3b0 : decide (a1 ≤ 1) = true := decide_eq_true c3
  clear c3
  simp only [Option.some.injEq, Prod.mk.injEq] at H
  obtain ⟨rfl, rfl, rfl⟩ := H
  go_enter Try.func60, Try.ntmps60
  go_wp2
  go_ret
  exact ⟨by first | rfl | (simp [errW_none, errW_some] <;> rfl) | (simp [*, errW_none, errW_some] <;> rfl), IsS76.q HI0, hbI_ HB (IsS76.ge HI0.out), hk_ HK⟩
 ·rw [if_neg c3] at H
  have c3b0 : decide (a1 ≤ 1) = false := decide_eq_false c3
  clear c3
  replace H := Option.bind_eq_some_iff.mp H
  obtain ⟨⟨t207, t208, t209⟩, A40, H⟩ := H
  replace H : (if a1 > 200 then ((spec_l1Cur_next.f s0_0 t208 t209).bind fun bt210 => (if a1 = 0 then (none) else (some (Int.tmod (wrap64 ((wrap64 (t207 * 256)) + bt210.1)) a1, bt210.2.1, bt210.2.2)))) else (if a1 = 0 then (none) else (some (Int.tmod t207 a1, t208, t209)))) = some (r1, r2, r3) := H
  have A4 := Aside0.mk A40
  clear A40
  by_cases c5 : a1 > 200
  ·rw [if_pos c5] at H
   have c5b0 : decide (200 < a1) = true := decide_eq_true c5
   clear c5
   replace H := Option.bind_eq_some_iff.mp H
   obtain ⟨⟨t210, t211, t212⟩, A60, H⟩ := H
   replace H : (if a1 = 0 then (none) else (some (Int.tmod (wrap64 ((wrap64 (t207 * 256)) + t210)) a1, t211, t212))) = some (r1, r2, r3) := H
   have A6 := Aside0.mk A60
   clear A60
   by_cases c7 : a1 = 0
   ·rw [if_pos c7] at H
    exact absurd H (by simp)
   ·rw [if_neg c7] at H
    have c7b0 : (a1 == 0) = false := beq_eq_false_iff_ne.mpr c7
    have c7b1 : (a1 != 0) = true := bne_iff_ne.mpr c7
    simp only [Option.some.injEq, Prod.mk.injEq] at H
    obtain ⟨rfl, rfl, rfl⟩ := H
    go_enter Try.func60, Try.ntmps60
    go_wp2_with (first | ((with_reducible refine gate_callee (f := 74) rfl ?_); refine gl_ (some 9) Try.func74 #[.pointer (some ⟨g, 0, none⟩)] rfl rfl rfl ?_; (with_reducible refine (spec_l1Cur_next.calls g s0_0 s0_1 s0_2 t207 t208 t209 w0 _ ?side1 ?side2 A4.out).mono ?_); (case side1 => exact IsS76.q HI0); (case side2 => exact hbI_ HB (IsS76.ge HI0.out)); rintro e w8 ⟨rfl, hi, hb, hk⟩; refine ⟨_, rfl, ?_⟩; replace HK := Aside0.mk (KeepBut.trans (hk_ HK) hk (.inl rfl)); replace HB := Aside0.mk (hb); replace HI0 := Aside0.mk (hi); (try clear hb); (try clear hb2); (try clear hk); (try clear hi)) | ((with_reducible refine gate_callee (f := 74) rfl ?_); refine gl_ (some 15) Try.func74 #[.pointer (some ⟨g, 0, none⟩)] rfl rfl rfl ?_; (with_reducible refine (spec_l1Cur_next.calls g s0_0 t208 t209 t210 t211 t212 w0 _ ?side1 ?side2 A6.out).mono ?_); (case side1 => exact IsS76.q HI0); (case side2 => exact hbI_ HB (IsS76.ge HI0.out)); rintro e w9 ⟨rfl, hi, hb, hk⟩; refine ⟨_, rfl, ?_⟩; replace HK := Aside0.mk (KeepBut.trans (hk_ HK) hk (.inl rfl)); replace HB := Aside0.mk (hb); replace HI0 := Aside0.mk (hi); (try clear hb); (try clear hb2); (try clear hk); (try clear hi)))
    go_ret
    exact ⟨by first | rfl | (simp [errW_none, errW_some] <;> rfl) | (simp [*, errW_none, errW_some] <;> rfl), IsS76.q HI0, hbI_ HB (IsS76.ge HI0.out), hk_ HK⟩
  ·rw [if_neg c5] at H
   have c5b0 : decide (200 < a1) = false := decide_eq_false c5
   clear c5
   by_cases c10 : a1 = 0
   ·rw [if_pos c10] at H
    exact absurd H (by simp)
   ·rw [if_neg c10] at H
    have c10b0 : (a1 == 0) = false := beq_eq_false_iff_ne.mpr c10
    have c10b1 : (a1 != 0) = true := bne_iff_ne.mpr c10
    simp only [Option.some.injEq, Prod.mk.injEq] at H
    obtain ⟨rfl, rfl, rfl⟩ := H
    go_enter Try.func60, Try.ntmps60
    go_wp2_with (first | ((with_reducible refine gate_callee (f := 74) rfl ?_); refine gl_ (some 9) Try.func74 #[.pointer (some ⟨g, 0, none⟩)] rfl rfl rfl ?_; (with_reducible refine (spec_l1Cur_next.calls g s0_0 s0_1 s0_2 t207 t208 t209 w0 _ ?side1 ?side2 A4.out).mono ?_); (case side1 => exact IsS76.q HI0); (case side2 => exact hbI_ HB (IsS76.ge HI0.out)); rintro e w11 ⟨rfl, hi, hb, hk⟩; refine ⟨_, rfl, ?_⟩; replace HK := Aside0.mk (KeepBut.trans (hk_ HK) hk (.inl rfl)); replace HB := Aside0.mk (hb); replace HI0 := Aside0.mk (hi); (try clear hb); (try clear hb2); (try clear hk); (try clear hi)))
    go_ret
    exact ⟨by first | rfl | (simp [errW_none, errW_some] <;> rfl) | (simp [*, errW_none, errW_some] <;> rfl), IsS76.q HI0, hbI_ HB (IsS76.ge HI0.out), hk_ HK⟩

/-! ### spec_l1Cur_among: function 57 -/
def spec_l1Cur_among.f (s0_0 : List Int) (s0_1 : Int) (s0_2 : Int) (l1 : List Int) : Option (Int × Int × Int) := (spec_l1Cur_pick.f s0_0 s0_1 s0_2 (l1.length : Int)).bind fun bt213 => (if 0 ≤ bt213.1 then (if bt213.1 < (l1.length : Int) then (some (rd l1 bt213.1, bt213.2.1, bt213.2.2)) else (none)) else (none))
set_option maxHeartbeats 8000000 in
set_option maxRecDepth 100000 in
theorem spec_l1Cur_among.calls (g : Nat) (s0_0 : List Int) (s0_1 : Int) (s0_2 : Int) (A1 : Option Addr) (c1 : Nat) (l1 : List Int) (r1 : Int) (r2 : Int) (r3 : Int) (w0 w : World) (hI : IsS76 w0 w g s0_0 s0_1 s0_2) (hB : Below w0.heap.size w0 w) (hr1 : Kd.C (Kd.int .i64) w A1 l1.length l1) (hc1 : l1.length ≤ c1) (hf1 : ∀ ad, A1 = some ad → 0 < l1.length → ad.block ≠ g) (h : spec_l1Cur_among.f s0_0 s0_1 s0_2 l1 = some (r1, r2, r3)) :
  Calls Try.prog 57 #[.pointer (some ⟨g, 0, none⟩), .slice A1 l1.length c1] w fun e w' => e = .returned (.int .i64 r1) ∧ IsS76 w0 w' g s0_0 r2 r3 ∧ Below w0.heap.size w0 w' ∧ KeepBut w w' g none := by
 have HR1 := Aside0.mk hr1
 have HC1 := Aside0.mk hc1
 clear hr1 hc1
 have HI0 := Aside0.mk hI
 have HK := Aside0.mk (KeepBut.refl w g none)
 have HL := Aside0.mk hB.size
 clear hI
 have HW0 := Aside0.mk hB.size
 have HB := Aside0.mk hB
 clear hB
 have H : ((spec_l1Cur_pick.f s0_0 s0_1 s0_2 (l1.length : Int)).bind fun bt213 => (if 0 ≤ bt213.1 then (if bt213.1 < (l1.length : Int) then (some (rd l1 bt213.1, bt213.2.1, bt213.2.2)) else (none)) else (none))) = some (r1, r2, r3) := h
 clear h
 replace H := Option.bind_eq_some_iff.mp H
 obtain ⟨⟨t213, t214, t215⟩, A30, H⟩ := H
 replace H : (if 0 ≤ t213 then (if t213 < (l1.length : Int) then (some (rd l1 t213, t214, t215)) else (none)) else (none)) = some (r1, r2, r3) := H
 have A3 := Aside0.mk A30
 clear A30
 by_cases c4 : 0 ≤ t213
 ·rw [if_pos c4] at H
  have c4b0 : decide (0 ≤ t213) = true := decide_eq_true c4
  clear c4
  by_cases c5 : t213 < (l1.length : Int)
  ·rw [if_pos c5] at H
   have c5b0 : decide (t213 < (l1.length : Int)) = true := decide_eq_true c5
   clear c5
   simp only [Option.some.injEq, Prod.mk.injEq] at H
   obtain ⟨rfl, rfl, rfl⟩ := H
   go_enter Try.func57, Try.ntmps57
   go_wp2_with (first | ((with_reducible refine gate_callee (f := 60) rfl ?_); refine gl_ (some 9) Try.func60 #[.pointer (some ⟨g, 0, none⟩), .int .i64 (l1.length : Int)] rfl rfl rfl ?_; (with_reducible refine (spec_l1Cur_pick.calls g s0_0 s0_1 s0_2 (l1.length : Int) t213 t214 t215 w0 _ ?side1 ?side2 A3.out).mono ?_); (case side1 => exact IsS76.q HI0); (case side2 => exact hbI_ HB (IsS76.ge HI0.out)); rintro e w6 ⟨rfl, hi, hb, hk⟩; refine ⟨_, rfl, ?_⟩; replace HK := Aside0.mk (KeepBut.trans (hk_ HK) hk (.inl rfl)); replace HB := Aside0.mk (hb); replace HI0 := Aside0.mk (hi); (try clear hb); (try clear hb2); (try clear hk); (try clear hi); have p216 : 0 ≤ (t213 : Int) := of_decide_eq_true (by first | (with_reducible assumption) | assumption); have q216 : t213 < (l1.length : Int) := of_decide_eq_true (by first | (with_reducible assumption) | assumption); obtain ⟨ad216, e216, hx216_0⟩ := Kd.at_int HR1.out t213 p216 q216; cases e216; replace hx216_0 := keep_cell HK.out hx216_0 (by first | (rw [add_block]; exact hf1 _ rfl (by omega)) | exact hf1 _ rfl (by omega) | exact hf1 ad216 rfl (by omega)); replace p216 := eq_true p216; replace q216 := eq_true q216))
   go_ret
   exact ⟨by first | rfl | (simp [errW_none, errW_some] <;> rfl) | (simp [*, errW_none, errW_some] <;> rfl), IsS76.q HI0, hbI_ HB (IsS76.ge HI0.out), hk_ HK⟩
  ·rw [if_neg c5] at H
   exact absurd H (by simp)
 ·rw [if_neg c4] at H
  exact absurd H (by simp)

/-! ### spec_l1Cur_one: function 73 -/
def spec_l1Cur_one.f (s0_0 : List Int) (s0_1 : Int) (s0_2 : Int) (a1 : Int) : Option (Bool × Int × Int) := (spec_l1Cur_pick.f s0_0 s0_1 s0_2 a1).bind fun bt217 => (some ((bt217.1 == 0), bt217.2.1, bt217.2.2))
set_option maxHeartbeats 8000000 in
set_option maxRecDepth 100000 in
theorem spec_l1Cur_one.calls (g : Nat) (s0_0 : List Int) (s0_1 : Int) (s0_2 : Int) (a1 : Int) (r1 : Bool) (r2 : Int) (r3 : Int) (w0 w : World) (hI : IsS76 w0 w g s0_0 s0_1 s0_2) (hB : Below w0.heap.size w0 w) (h : spec_l1Cur_one.f s0_0 s0_1 s0_2 a1 = some (r1, r2, r3)) :
  Calls Try.prog 73 #[.pointer (some ⟨g, 0, none⟩), .int .i64 a1] w fun e w' => e = .returned (.bool r1) ∧ IsS76 w0 w' g s0_0 r2 r3 ∧ Below w0.heap.size w0 w' ∧ KeepBut w w' g none := by
 have HI0 := Aside0.mk hI
 have HK := Aside0.mk (KeepBut.refl w g none)
 have HL := Aside0.mk hB.size
 clear hI
 have HW0 := Aside0.mk hB.size
 have HB := Aside0.mk hB
 clear hB
 have H : ((spec_l1Cur_pick.f s0_0 s0_1 s0_2 a1).bind fun bt217 => (some ((bt217.1 == 0), bt217.2.1, bt217.2.2))) = some (r1, r2, r3) := h
 clear h
 replace H := Option.bind_eq_some_iff.mp H
 obtain ⟨⟨t217, t218, t219⟩, A30, H⟩ := H
 replace H : (some ((t217 == 0), t218, t219)) = some (r1, r2, r3) := H
 have A3 := Aside0.mk A30
 clear A30
 simp only [Option.some.injEq, Prod.mk.injEq] at H
 obtain ⟨rfl, rfl, rfl⟩ := H
 go_enter Try.func73, Try.ntmps73
 go_wp2_with (first | ((with_reducible refine gate_callee (f := 60) rfl ?_); refine gl_ (some 7) Try.func60 #[.pointer (some ⟨g, 0, none⟩), .int .i64 a1] rfl rfl rfl ?_; (with_reducible refine (spec_l1Cur_pick.calls g s0_0 s0_1 s0_2 a1 t217 t218 t219 w0 _ ?side1 ?side2 A3.out).mono ?_); (case side1 => exact IsS76.q HI0); (case side2 => exact hbI_ HB (IsS76.ge HI0.out)); rintro e w4 ⟨rfl, hi, hb, hk⟩; refine ⟨_, rfl, ?_⟩; replace HK := Aside0.mk (KeepBut.trans (hk_ HK) hk (.inl rfl)); replace HB := Aside0.mk (hb); replace HI0 := Aside0.mk (hi); (try clear hb); (try clear hb2); (try clear hk); (try clear hi)))
 go_ret
 exact ⟨by first | rfl | (simp [errW_none, errW_some] <;> rfl) | (simp [*, errW_none, errW_some] <;> rfl), IsS76.q HI0, hbI_ HB (IsS76.ge HI0.out), hk_ HK⟩

/-! ### spec_l1Cur_grid: function 75 -/
def spec_l1Cur_grid.f (s0_0 : List Int) (s0_1 : Int) (s0_2 : Int) : Option (Int × Int × Int × Int × Int) := (spec_l1Cur_one.f s0_0 s0_1 s0_2 24).bind fun bt221 => (if bt221.1 = true then ((some (([(⟨8, 5, 3⟩ : S28), (⟨8, 3, 5⟩ : S28), (⟨4, 6, 5⟩ : S28), (⟨1, 1, 1⟩ : S28)] : List (S28)) : List (S28))).bind fun y224 => ((spec_l1Cur_pick.f s0_0 bt221.2.1 bt221.2.2 4).bind fun bt227 => (if 0 ≤ bt227.1 then (if bt227.1 < (y224.length : Int) then (some ((rd_T28 y224 bt227.1).f0, (rd_T28 y224 bt227.1).f1, (rd_T28 y224 bt227.1).f2, bt227.2.1, bt227.2.2)) else (none)) else (none)))) else ((spec_l1Cur_pick.f s0_0 bt221.2.1 bt221.2.2 4).bind fun bt231 => ((spec_l1Cur_pick.f s0_0 bt231.2.1 bt231.2.2 3).bind fun bt234 => ((spec_l1Cur_pick.f s0_0 bt234.2.1 bt234.2.2 3).bind fun bt237 => (some (wrap64 (1 + bt231.1), wrap64 (1 + bt234.1), wrap64 (1 + bt237.1), bt237.2.1, bt237.2.2))))))
set_option maxHeartbeats 8000000 in
set_option maxRecDepth 100000 in
theorem spec_l1Cur_grid.calls (g : Nat) (s0_0 : List Int) (s0_1 : Int) (s0_2 : Int) (r1 : Int) (r2 : Int) (r3 : Int) (r4 : Int) (r5 : Int) (w0 w : World) (hI : IsS76 w0 w g s0_0 s0_1 s0_2) (hB : Below w0.heap.size w0 w) (h : spec_l1Cur_grid.f s0_0 s0_1 s0_2 = some (r1, r2, r3, r4, r5)) :
  Calls Try.prog 75 #[.pointer (some ⟨g, 0, none⟩)] w fun e w' => e = .returned (.agg #[.int .i64 r1, .int .i64 r2, .int .i64 r3]) ∧ IsS76 w0 w' g s0_0 r4 r5 ∧ Below w0.heap.size w0 w' ∧ KeepBut w w' g none := by
 have hu28 := Try.underlying28
 have HI0 := Aside0.mk hI
 have HK := Aside0.mk (KeepBut.refl w g none)
 have HL := Aside0.mk hB.size
 clear hI
 have HW0 := Aside0.mk hB.size
 have HB := Aside0.mk hB
 clear hB
 have H : ((spec_l1Cur_one.f s0_0 s0_1 s0_2 24).bind fun bt221 => (if bt221.1 = true then ((some (([(⟨8, 5, 3⟩ : S28), (⟨8, 3, 5⟩ : S28), (⟨4, 6, 5⟩ : S28), (⟨1, 1, 1⟩ : S28)] : List (S28)) : List (S28))).bind fun y224 => ((spec_l1Cur_pick.f s0_0 bt221.2.1 bt221.2.2 4).bind fun bt227 => (if 0 ≤ bt227.1 then (if bt227.1 < (y224.length : Int) then (some ((rd_T28 y224 bt227.1).f0, (rd_T28 y224 bt227.1).f1, (rd_T28 y224 bt227.1).f2, bt227.2.1, bt227.2.2)) else (none)) else (none)))) else ((spec_l1Cur_pick.f s0_0 bt221.2.1 bt221.2.2 4).bind fun bt231 => ((spec_l1Cur_pick.f s0_0 bt231.2.1 bt231.2.2 3).bind fun bt234 => ((spec_l1Cur_pick.f s0_0 bt234.2.1 bt234.2.2 3).bind fun bt237 => (some (wrap64 (1 + bt231.1), wrap64 (1 + bt234.1), wrap64 (1 + bt237.1), bt237.2.1, bt237.2.2))))))) = some (r1, r2, r3, r4, r5) := h
 clear h
 replace H := Option.bind_eq_some_iff.mp H
 obtain ⟨⟨t221, t222, t223⟩, A20, H⟩ := H
 replace H : (if t221 = true then ((some (([(⟨8, 5, 3⟩ : S28), (⟨8, 3, 5⟩ : S28), (⟨4, 6, 5⟩ : S28), (⟨1, 1, 1⟩ : S28)] : List (S28)) : List (S28))).bind fun y224 => ((spec_l1Cur_pick.f s0_0 t222 t223 4).bind fun bt227 => (if 0 ≤ bt227.1 then (if bt227.1 < (y224.length : Int) then (some ((rd_T28 y224 bt227.1).f0, (rd_T28 y224 bt227.1).f1, (rd_T28 y224 bt227.1).f2, bt227.2.1, bt227.2.2)) else (none)) else (none)))) else ((spec_l1Cur_pick.f s0_0 t222 t223 4).bind fun bt231 => ((spec_l1Cur_pick.f s0_0 bt231.2.1 bt231.2.2 3).bind fun bt234 => ((spec_l1Cur_pick.f s0_0 bt234.2.1 bt234.2.2 3).bind fun bt237 => (some (wrap64 (1 + bt231.1), wrap64 (1 + bt234.1), wrap64 (1 + bt237.1), bt237.2.1, bt237.2.2)))))) = some (r1, r2, r3, r4, r5) := H
 have A2 := Aside0.mk A20
 clear A20
 by_cases c3 : t221 = true
 ·subst c3
  have H1 : ((some (([(⟨8, 5, 3⟩ : S28), (⟨8, 3, 5⟩ : S28), (⟨4, 6, 5⟩ : S28), (⟨1, 1, 1⟩ : S28)] : List (S28)) : List (S28))).bind fun y224 => ((spec_l1Cur_pick.f s0_0 t222 t223 4).bind fun bt227 => (if 0 ≤ bt227.1 then (if bt227.1 < (y224.length : Int) then (some ((rd_T28 y224 bt227.1).f0, (rd_T28 y224 bt227.1).f1, (rd_T28 y224 bt227.1).f2, bt227.2.1, bt227.2.2)) else (none)) else (none)))) = some (r1, r2, r3, r4, r5) := by rw [if_pos rfl] at H; exact H
  clear H
  have H := H1
  clear H1
  obtain ⟨y224, hy224⟩ : ∃ y_ : List (S28), y_ = (([(⟨8, 5, 3⟩ : S28), (⟨8, 3, 5⟩ : S28), (⟨4, 6, 5⟩ : S28), (⟨1, 1, 1⟩ : S28)] : List (S28))) := ⟨_, rfl⟩
  replace H : ((spec_l1Cur_pick.f s0_0 t222 t223 4).bind fun bt227 => (if 0 ≤ bt227.1 then (if bt227.1 < (y224.length : Int) then (some ((rd_T28 y224 bt227.1).f0, (rd_T28 y224 bt227.1).f1, (rd_T28 y224 bt227.1).f2, bt227.2.1, bt227.2.2)) else (none)) else (none))) = some (r1, r2, r3, r4, r5) := by first | (rw [hy224]; with_reducible exact H) | (have H2_ := (Option.bind_some _ _).symm.trans H; rw [hy224]; with_reducible exact H2_) | (have H2_ := (Option.bind_some _ _).symm.trans H; with_reducible exact H2_) | with_reducible exact H | (rw [hy224]; exact H) | exact H
  have Ny224 := Aside0.mk hy224
  clear hy224
  replace H := Option.bind_eq_some_iff.mp H
  obtain ⟨⟨t227, t228, t229⟩, A40, H⟩ := H
  replace H : (if 0 ≤ t227 then (if t227 < (y224.length : Int) then (some ((rd_T28 y224 t227).f0, (rd_T28 y224 t227).f1, (rd_T28 y224 t227).f2, t228, t229)) else (none)) else (none)) = some (r1, r2, r3, r4, r5) := H
  have A4 := Aside0.mk A40
  clear A40
  by_cases c5 : 0 ≤ t227
  ·rw [if_pos c5] at H
   have c5b0 : decide (0 ≤ t227) = true := decide_eq_true c5
   clear c5
   by_cases c6 : t227 < (y224.length : Int)
   ·rw [if_pos c6] at H
    have c6b0 : decide (t227 < (y224.length : Int)) = true := decide_eq_true c6
    clear c6
    simp only [Option.some.injEq, Prod.mk.injEq] at H
    obtain ⟨rfl, rfl, rfl, rfl, rfl⟩ := H
    go_enter Try.func75, Try.ntmps75
    go_wp2_with (first | ((with_reducible refine gate_dst (N := 2) rfl ?_); refine box_event ?hg (N := 2) ?hd (cs := #[.int .i64 0, .int .i64 0, .int .i64 0]) (t := 28) ?hr ?_; (case hd => rfl); (case hg => rfl); (case hr => first | (go_simp; done) | (go_simp; rfl)); intro gb220 hg w7 hbox hb; have BK220 := Aside0.mk (hbox); have GW220 := Aside0.mk ((by rw [hg]; exact (keep_size (hk_ HK)) : w.heap.size ≤ gb220)); have GE220 := Aside0.mk ((Nat.le_trans HW0.out (by rw [hg]; exact (keep_size (hk_ HK)) : w.heap.size ≤ gb220) : w0.heap.size ≤ gb220)); have NB0_220 := Aside0.mk ((by rw [hg]; exact Nat.ne_of_lt (IsS76.lt (show IsS76 w0 _ g s0_0 s0_1 s0_2 from IsS76.q HI0)) : g ≠ gb220)); have NB220_0 := Aside0.mk ((by rw [hg]; exact Nat.ne_of_gt (IsS76.lt (show IsS76 w0 _ g s0_0 s0_1 s0_2 from IsS76.q HI0)) : gb220 ≠ g)); replace HK := hkb_ HK hb; replace HB := Aside0.mk (below_step (hbI_ HB (IsS76.ge HI0.out)) hb); replace HI0 := IsS76.b HI0 hb; clear hb hbox hg) | ((with_reducible refine gate_callee (f := 73) rfl ?_); refine gl_ (some 4) Try.func73 #[.pointer (some ⟨g, 0, none⟩), .int .i64 24] rfl rfl rfl ?_; (with_reducible refine (spec_l1Cur_one.calls g s0_0 s0_1 s0_2 24 true t222 t223 w0 _ ?side1 ?side2 A2.out).mono ?_); (case side1 => exact IsS76.q HI0); (case side2 => exact hbI_ HB (IsS76.ge HI0.out)); rintro e w8 ⟨rfl, hi, hb, hk⟩; refine ⟨_, rfl, ?_⟩; replace BK220 := kk_ BK220 hk NB220_0; replace HK := Aside0.mk (KeepBut.trans (hk_ HK) hk (.inl rfl)); replace HB := Aside0.mk (hb); replace HI0 := Aside0.mk (hi); (try clear hb); (try clear hb2); (try clear hk); (try clear hi)) | ((with_reducible refine gate_dst (N := 9) rfl ?_); refine Kd.R_lit k28 _ 28 ?hg (N := 9) ?hd (xs := ([(⟨8, 5, 3⟩ : S28), (⟨8, 3, 5⟩ : S28), (⟨4, 6, 5⟩ : S28), (⟨1, 1, 1⟩ : S28)] : List (S28))) (inner := [.int .i64 8, .int .i64 5, .int .i64 3, .int .i64 8, .int .i64 3, .int .i64 5, .int .i64 4, .int .i64 6, .int .i64 5, .int .i64 1, .int .i64 1, .int .i64 1]) (ok := fun _ => True) (okp := fun _ => True) ?hr ?hp (fun _ hk => hk) trivial (Below.refl _ _) (Nat.le_refl _) (by simp) ?_; (case hd => rfl); (case hg => rfl); (case hr => first | (go_simp; done) | (go_simp; rfl)); (case hp => exact (Reps.c3 (show Kd.M k28 _ _ _ (⟨8, 5, 3⟩ : S28) [.int .i64 8, .int .i64 5, .int .i64 3] from (k28_mkM _ _ _ (⟨8, 5, 3⟩ : S28) )) (Reps.c3 (show Kd.M k28 _ _ _ (⟨8, 3, 5⟩ : S28) [.int .i64 8, .int .i64 3, .int .i64 5] from (k28_mkM _ _ _ (⟨8, 3, 5⟩ : S28) )) (Reps.c3 (show Kd.M k28 _ _ _ (⟨4, 6, 5⟩ : S28) [.int .i64 4, .int .i64 6, .int .i64 5] from (k28_mkM _ _ _ (⟨4, 6, 5⟩ : S28) )) (Reps.c3 (show Kd.M k28 _ _ _ (⟨1, 1, 1⟩ : S28) [.int .i64 1, .int .i64 1, .int .i64 1] from (k28_mkM _ _ _ (⟨1, 1, 1⟩ : S28) )) (Reps.none _ _)))))); intro v225 w9 ho10 hb hg_ hnew_; clear hg_ hnew_; (first | rw [← Ny224.out] at ho10 | (simp only [Int.reduceToNat] at ho10; rw [← Ny224.out] at ho10)); have HO226 := Aside0.mk (Kd.R_lower (Kd.R_newB ho10 (g := gb220) (o := .cells #[.int .i64 0, .int .i64 0, .int .i64 0] 28 (0, 0)) (kp_ BK220)) (keep_size (hk_ HK))); replace BK220 := kb_ BK220 hb; replace HK := hkb_ HK hb; replace HB := Aside0.mk (below_step (hbI_ HB (IsS76.ge HI0.out)) hb); replace HI0 := IsS76.b HI0 hb; clear hb ho10) | ((with_reducible refine gate_callee (f := 60) rfl ?_); refine gl_ (some 11) Try.func60 #[.pointer (some ⟨g, 0, none⟩), .int .i64 4] rfl rfl rfl ?_; (with_reducible refine (spec_l1Cur_pick.calls g s0_0 t222 t223 4 t227 t228 t229 w0 _ ?side1 ?side2 A4.out).mono ?_); (case side1 => exact IsS76.q HI0); (case side2 => exact hbI_ HB (IsS76.ge HI0.out)); rintro e w11 ⟨rfl, hi, hb, hk⟩; refine ⟨_, rfl, ?_⟩; have n0_ := Aside0.mk (KeepBut.blk hk (kp_ BK220) NB220_0.out (by simp)); have n1_ := IsS76.rk HI0 HO226 hk; have n2_ := Aside0.mk (KeepBut.trans (hk_ HK) hk (.inl rfl)); have n3_ := Aside0.mk (hb); have n4_ := Aside0.mk (hi); clear BK220 HO226 HK HB HI0; have BK220 := n0_; have HO226 := n1_; have HK := n2_; have HB := n3_; have HI0 := n4_; clear n0_ n1_ n2_ n3_ n4_; (try clear hb); (try clear hb2); (try clear hk); (try clear hi); obtain ⟨Ao12, co12, eo12⟩ := Kd.R_slice HO226.out; subst eo12; have p230 : 0 ≤ (t227 : Int) := of_decide_eq_true (by first | (with_reducible assumption) | assumption); have q230 : t227 < (y224.length : Int) := of_decide_eq_true (by first | (with_reducible assumption) | assumption); obtain ⟨ad230, e230, hx230_0, hx230_1, hx230_2⟩ := at_T28 (Kd.R_reads' HO226.out).2.2 t227 p230 q230; cases e230; replace p230 := eq_true p230; replace q230 := eq_true q230; have hnb13 := NB220_0.out; have hnc13 := NB0_220.out; obtain ⟨hcz14_0, hcz14_1, hcz14_2, hfz14_0, hfz14_1, hfz14_2⟩ := bx3 BK220))
    refine bodyPost_ret (results_cell_row rfl _ _ gb220 28 #[.int .i64 ((rd_T28 y224 t227).f0), .int .i64 ((rd_T28 y224 t227).f1), .int .i64 ((rd_T28 y224 t227).f2)] (0, 0) _ rfl (kpq_ (kputs BK220 [(0, _), (1, _), (2, _)])) Try.underlying28 rfl (by kernel_rfl)) rfl ?_
    exact ⟨by first | rfl | (simp [errW_none, errW_some] <;> rfl) | (simp [*, errW_none, errW_some] <;> rfl), IsS76.q HI0, hbI_ HB (IsS76.ge HI0.out), hk_ HK⟩
   ·rw [if_neg c6] at H
    exact absurd H (by simp)
  ·rw [if_neg c5] at H
   exact absurd H (by simp)
 ·replace c3 := Bool.eq_false_iff.mpr c3
  subst c3
  have H1 : ((spec_l1Cur_pick.f s0_0 t222 t223 4).bind fun bt231 => ((spec_l1Cur_pick.f s0_0 bt231.2.1 bt231.2.2 3).bind fun bt234 => ((spec_l1Cur_pick.f s0_0 bt234.2.1 bt234.2.2 3).bind fun bt237 => (some (wrap64 (1 + bt231.1), wrap64 (1 + bt234.1), wrap64 (1 + bt237.1), bt237.2.1, bt237.2.2))))) = some (r1, r2, r3, r4, r5) := by rw [if_neg (show ¬ (false = true) by decide)] at H; exact H
  clear H
  have H := H1
  clear H1
  replace H := Option.bind_eq_some_iff.mp H
  obtain ⟨⟨t231, t232, t233⟩, A150, H⟩ := H
  replace H : ((spec_l1Cur_pick.f s0_0 t232 t233 3).bind fun bt234 => ((spec_l1Cur_pick.f s0_0 bt234.2.1 bt234.2.2 3).bind fun bt237 => (some (wrap64 (1 + t231), wrap64 (1 + bt234.1), wrap64 (1 + bt237.1), bt237.2.1, bt237.2.2)))) = some (r1, r2, r3, r4, r5) := H
  have A15 := Aside0.mk A150
  clear A150
  replace H := Option.bind_eq_some_iff.mp H
  obtain ⟨⟨t234, t235, t236⟩, A160, H⟩ := H
  replace H : ((spec_l1Cur_pick.f s0_0 t235 t236 3).bind fun bt237 => (some (wrap64 (1 + t231), wrap64 (1 + t234), wrap64 (1 + bt237.1), bt237.2.1, bt237.2.2))) = some (r1, r2, r3, r4, r5) := H
  have A16 := Aside0.mk A160
  clear A160
  replace H := Option.bind_eq_some_iff.mp H
  obtain ⟨⟨t237, t238, t239⟩, A170, H⟩ := H
  replace H : (some (wrap64 (1 + t231), wrap64 (1 + t234), wrap64 (1 + t237), t238, t239)) = some (r1, r2, r3, r4, r5) := H
  have A17 := Aside0.mk A170
  clear A170
  simp only [Option.some.injEq, Prod.mk.injEq] at H
  obtain ⟨rfl, rfl, rfl, rfl, rfl⟩ := H
  go_enter Try.func75, Try.ntmps75
  go_wp2_with (first | ((with_reducible refine gate_dst (N := 2) rfl ?_); refine box_event ?hg (N := 2) ?hd (cs := #[.int .i64 0, .int .i64 0, .int .i64 0]) (t := 28) ?hr ?_; (case hd => rfl); (case hg => rfl); (case hr => first | (go_simp; done) | (go_simp; rfl)); intro gb220 hg w18 hbox hb; have BK220 := Aside0.mk (hbox); have GW220 := Aside0.mk ((by rw [hg]; exact (keep_size (hk_ HK)) : w.heap.size ≤ gb220)); have GE220 := Aside0.mk ((Nat.le_trans HW0.out (by rw [hg]; exact (keep_size (hk_ HK)) : w.heap.size ≤ gb220) : w0.heap.size ≤ gb220)); have NB0_220 := Aside0.mk ((by rw [hg]; exact Nat.ne_of_lt (IsS76.lt (show IsS76 w0 _ g s0_0 s0_1 s0_2 from IsS76.q HI0)) : g ≠ gb220)); have NB220_0 := Aside0.mk ((by rw [hg]; exact Nat.ne_of_gt (IsS76.lt (show IsS76 w0 _ g s0_0 s0_1 s0_2 from IsS76.q HI0)) : gb220 ≠ g)); replace HK := hkb_ HK hb; replace HB := Aside0.mk (below_step (hbI_ HB (IsS76.ge HI0.out)) hb); replace HI0 := IsS76.b HI0 hb; clear hb hbox hg) | ((with_reducible refine gate_callee (f := 73) rfl ?_); refine gl_ (some 4) Try.func73 #[.pointer (some ⟨g, 0, none⟩), .int .i64 24] rfl rfl rfl ?_; (with_reducible refine (spec_l1Cur_one.calls g s0_0 s0_1 s0_2 24 false t222 t223 w0 _ ?side1 ?side2 A2.out).mono ?_); (case side1 => exact IsS76.q HI0); (case side2 => exact hbI_ HB (IsS76.ge HI0.out)); rintro e w19 ⟨rfl, hi, hb, hk⟩; refine ⟨_, rfl, ?_⟩; replace BK220 := kk_ BK220 hk NB220_0; replace HK := Aside0.mk (KeepBut.trans (hk_ HK) hk (.inl rfl)); replace HB := Aside0.mk (hb); replace HI0 := Aside0.mk (hi); (try clear hb); (try clear hb2); (try clear hk); (try clear hi)) | ((with_reducible refine gate_callee (f := 60) rfl ?_); refine gl_ (some 15) Try.func60 #[.pointer (some ⟨g, 0, none⟩), .int .i64 4] rfl rfl rfl ?_; (with_reducible refine (spec_l1Cur_pick.calls g s0_0 t222 t223 4 t231 t232 t233 w0 _ ?side1 ?side2 A15.out).mono ?_); (case side1 => exact IsS76.q HI0); (case side2 => exact hbI_ HB (IsS76.ge HI0.out)); rintro e w20 ⟨rfl, hi, hb, hk⟩; refine ⟨_, rfl, ?_⟩; replace BK220 := kk_ BK220 hk NB220_0; replace HK := Aside0.mk (KeepBut.trans (hk_ HK) hk (.inl rfl)); replace HB := Aside0.mk (hb); replace HI0 := Aside0.mk (hi); (try clear hb); (try clear hb2); (try clear hk); (try clear hi)) | ((with_reducible refine gate_callee (f := 60) rfl ?_); refine gl_ (some 18) Try.func60 #[.pointer (some ⟨g, 0, none⟩), .int .i64 3] rfl rfl rfl ?_; (with_reducible refine (spec_l1Cur_pick.calls g s0_0 t232 t233 3 t234 t235 t236 w0 _ ?side1 ?side2 A16.out).mono ?_); (case side1 => exact IsS76.q HI0); (case side2 => exact hbI_ HB (IsS76.ge HI0.out)); rintro e w21 ⟨rfl, hi, hb, hk⟩; refine ⟨_, rfl, ?_⟩; replace BK220 := kk_ BK220 hk NB220_0; replace HK := Aside0.mk (KeepBut.trans (hk_ HK) hk (.inl rfl)); replace HB := Aside0.mk (hb); replace HI0 := Aside0.mk (hi); (try clear hb); (try clear hb2); (try clear hk); (try clear hi)) | ((with_reducible refine gate_callee (f := 60) rfl ?_); refine gl_ (some 21) Try.func60 #[.pointer (some ⟨g, 0, none⟩), .int .i64 3] rfl rfl rfl ?_; (with_reducible refine (spec_l1Cur_pick.calls g s0_0 t235 t236 3 t237 t238 t239 w0 _ ?side1 ?side2 A17.out).mono ?_); (case side1 => exact IsS76.q HI0); (case side2 => exact hbI_ HB (IsS76.ge HI0.out)); rintro e w22 ⟨rfl, hi, hb, hk⟩; refine ⟨_, rfl, ?_⟩; replace BK220 := kk_ BK220 hk NB220_0; replace HK := Aside0.mk (KeepBut.trans (hk_ HK) hk (.inl rfl)); replace HB := Aside0.mk (hb); replace HI0 := Aside0.mk (hi); (try clear hb); (try clear hb2); (try clear hk); (try clear hi); have hnb23 := NB220_0.out; have hnc23 := NB0_220.out; obtain ⟨hcz24_0, hcz24_1, hcz24_2, hfz24_0, hfz24_1, hfz24_2⟩ := bx3 BK220))
  refine bodyPost_ret (results_cell_row rfl _ _ gb220 28 #[.int .i64 (wrap64 (1 + t231)), .int .i64 (wrap64 (1 + t234)), .int .i64 (wrap64 (1 + t237))] (0, 0) _ rfl (kpq_ (kputs BK220 [(0, _), (1, _), (2, _)])) Try.underlying28 rfl (by kernel_rfl)) rfl ?_
  exact ⟨by first | rfl | (simp [errW_none, errW_some] <;> rfl) | (simp [*, errW_none, errW_some] <;> rfl), IsS76.q HI0, hbI_ HB (IsS76.ge HI0.out), hk_ HK⟩

end Go.Proofs.Ytdfjlelbkkaloaa.PFnGrades
