-- Laid for this claim by wip/tools/print2.sh, a changed copy of the kit's print (wip/tools/patch_print.py): not by print.sh.
import Derived.Test.YtihjlepgmppedaaGreatDoorPFnRulesx13
import Derived.Test.YtihjlepgmppedaaGreatDoorPFnRulesx14
import Derived.Test.YtihjlepgmppedaaGreatDoorVFnRules
namespace Go.Proofs.YtihjlepgmppedaaGreatDoor.PFnRules
set_option maxHeartbeats 8000000
set_option maxRecDepth 100000
open Go.RowKit Go.Proofs.YtihjlepgmppedaaGreatDoorW.PrintWords Go.Proofs.YtihjlepgmppedaaGreatDoorW.PrintLast Go.Proofs.YtihjlepgmppedaaGreatDoorW.PrintMore
set_option linter.unusedVariables false
set_option linter.unusedSimpArgs false

/-- A state of type 57 at block g of W; what its slices lead to came in by w0. -/
def IsS57 (w0 W : World) (g : Nat) (f0 : List ByteArray) (f1 : Int) (f2 : List (S73)) (f3 : Bool) : Prop := ∃ A0 c0, ∃ A2 c2, W.heap[g]? = some (.cells #[.slice A0 f0.length c0, .int .i64 f1, .slice A2 f2.length c2, .bool f3] 57 (0, 0)) ∧ w0.heap.size ≤ g ∧ Kd.C Kd.string w0 A0 f0.length f0 ∧ Kd.C k73 w0 A2 f2.length f2
theorem IsS57.grown {w0 W : World} {g : Nat} {f0 : List ByteArray} {f1 : Int} {f2 : List (S73)} {f3 : Bool} {W1 : World} {row : Option Nat} (h : IsS57 w0 W g f0 f1 f2 f3) (hw : W.grownBy W1 row) (hne : some g ≠ row) : IsS57 w0 W1 g f0 f1 f2 f3 := by
 obtain ⟨A0, c0, A2, c2, hb, hg, hr0, hr2⟩ := h
 exact ⟨A0, c0, A2, c2, blk_grown hb hw hne, hg, hr0, hr2⟩
theorem IsS57.own_neN {w0 W : World} {g : Nat} {f0 : List ByteArray} {f1 : Int} {f2 : List (S73)} {f3 : Bool} {α : Type} {d : Kd α} {e : Nat} {base : Nat} {ok : Nat → Prop} {v : Value} {xs : List α} (h : IsS57 w0 W g f0 f1 f2 f3) (ho : Kd.N d e W base ok v xs) (ht : e ≠ 57) : some g ≠ v.ownBlock := by
 obtain ⟨A0, c0, A2, c2, hb, hg, hr0, hr2⟩ := h
 exact Kd.N_ne ho hb ht
theorem IsS57.fresh {w0 W : World} {g : Nat} {f0 : List ByteArray} {f1 : Int} {f2 : List (S73)} {f3 : Bool} (h : IsS57 w0 W g f0 f1 f2 f3) : ∀ k, W.heap.size ≤ k → k ≠ g := by
 obtain ⟨A0, c0, A2, c2, hb, hg, hr0, hr2⟩ := h
 exact Kd.freshB hb
theorem IsS57.kept {w0 W : World} {g : Nat} {f0 : List ByteArray} {f1 : Int} {f2 : List (S73)} {f3 : Bool} {W1 : World} {S : Nat → Prop} (h : IsS57 w0 W g f0 f1 f2 f3) (hk : Kept W W1 S) (hne : ¬ S g) : IsS57 w0 W1 g f0 f1 f2 f3 := by
 obtain ⟨A0, c0, A2, c2, hb, hg, hr0, hr2⟩ := h
 exact ⟨A0, c0, A2, c2, blk_kept hb hk hne, hg, hr0, hr2⟩
theorem IsS57.below {w0 W : World} {g : Nat} {f0 : List ByteArray} {f1 : Int} {f2 : List (S73)} {f3 : Bool} {W1 : World} (h : IsS57 w0 W g f0 f1 f2 f3) (hw : Below W.heap.size W W1) : IsS57 w0 W1 g f0 f1 f2 f3 := h.grown (grown_of_below hw none) (by simp)
theorem IsS57.alloc {w0 W : World} {g : Nat} {f0 : List ByteArray} {f1 : Int} {f2 : List (S73)} {f3 : Bool} (h : IsS57 w0 W g f0 f1 f2 f3) (o : Obj) : IsS57 w0 (W.alloc o) g f0 f1 f2 f3 := h.below (below_alloc (Below.refl _ _) o)
theorem IsS57.drewN {w0 W : World} {g : Nat} {f0 : List ByteArray} {f1 : Int} {f2 : List (S73)} {f3 : Bool} (h : IsS57 w0 W g f0 f1 f2 f3) (m : Nat) : IsS57 w0 (W.drewN m) g f0 f1 f2 f3 := h
theorem IsS57.drew {w0 W : World} {g : Nat} {f0 : List ByteArray} {f1 : Int} {f2 : List (S73)} {f3 : Bool} (h : IsS57 w0 W g f0 f1 f2 f3) : IsS57 w0 W.drew g f0 f1 f2 f3 := h
theorem IsS57.at_ {w0 W : World} {g : Nat} {f0 : List ByteArray} {f1 : Int} {f2 : List (S73)} {f3 : Bool} {w' : World} {m : Nat} (hq : W.drewN m = w') (h : IsS57 w0 W g f0 f1 f2 f3) : IsS57 w0 w' g f0 f1 f2 f3 := by subst hq; exact IsS57.drewN h m
theorem IsS57.apart {w0 W : World} {g : Nat} {f0 : List ByteArray} {f1 : Int} {f2 : List (S73)} {f3 : Bool} {α : Type} {d : Kd α} {e : Nat} {base : Nat} {ok : Nat → Prop} {v : Value} {xs : List α} (h : IsS57 w0 W g f0 f1 f2 f3) (ho : d.R e W base ok v xs) (ht : ∀ q, q ∈ e :: d.E → q ≠ 57) : d.R e W base (fun k => ok k ∧ k ≠ g) v xs := by
 obtain ⟨A0, c0, A2, c2, hb, hg, hr0, hr2⟩ := h
 exact Kd.R_types ho hb ht
theorem IsS57.own_ne {w0 W : World} {g : Nat} {f0 : List ByteArray} {f1 : Int} {f2 : List (S73)} {f3 : Bool} {α : Type} {d : Kd α} {e : Nat} {base : Nat} {ok : Nat → Prop} {v : Value} {xs : List α} (h : IsS57 w0 W g f0 f1 f2 f3) (ho : d.R e W base ok v xs) (ht : e ≠ 57) : some g ≠ v.ownBlock := by
 obtain ⟨A0, c0, A2, c2, hb, hg, hr0, hr2⟩ := h
 exact Kd.R_ne ho hb ht
theorem IsS57.apartQ {w0 W : World} {g : Nat} {f0 : List ByteArray} {f1 : Int} {f2 : List (S73)} {f3 : Bool} {α : Type} {d : Kd α} {e : Nat} {base : Nat} {ok : Nat → Prop} {v : Value} {xs : List α} (h : IsS57 w0 W g f0 f1 f2 f3) (ho : d.Q e W base ok v xs) (ht : ∀ q, q ∈ e :: d.E → q ≠ 57) : d.Q e W base (fun k => ok k ∧ k ≠ g) v xs := by
 obtain ⟨A0, c0, A2, c2, hb, hg, hr0, hr2⟩ := h
 exact Kd.Q_types ho hb ht
theorem IsS57.own_neQ {w0 W : World} {g : Nat} {f0 : List ByteArray} {f1 : Int} {f2 : List (S73)} {f3 : Bool} {α : Type} {d : Kd α} {e : Nat} {base : Nat} {ok : Nat → Prop} {v : Value} {xs : List α} (h : IsS57 w0 W g f0 f1 f2 f3) (ho : d.Q e W base ok v xs) (ht : e ≠ 57) : some g ≠ v.ownBlock := by
 obtain ⟨A0, c0, A2, c2, hb, hg, hr0, hr2⟩ := h
 exact Kd.Q_ne ho hb ht
theorem IsS57.apartS {w0 W : World} {g : Nat} {f0 : List ByteArray} {f1 : Int} {f2 : List (S73)} {f3 : Bool} {α : Type} {d : Kd α} {e : Nat} {base : Nat} {ok : Nat → Prop} {v : Value} {xs : List α} (h : IsS57 w0 W g f0 f1 f2 f3) (ho : d.S e W base ok v xs) (ht : ∀ q, q ∈ e :: d.E → q ≠ 57) : d.S e W base (fun k => ok k ∧ k ≠ g) v xs := by
 obtain ⟨A0, c0, A2, c2, hb, hg, hr0, hr2⟩ := h
 exact Kd.S_types ho hb ht
theorem IsS57.own_neS {w0 W : World} {g : Nat} {f0 : List ByteArray} {f1 : Int} {f2 : List (S73)} {f3 : Bool} {α : Type} {d : Kd α} {e : Nat} {base : Nat} {ok : Nat → Prop} {v : Value} {xs : List α} (h : IsS57 w0 W g f0 f1 f2 f3) (ho : d.S e W base ok v xs) (ht : e ≠ 57) : some g ≠ v.ownBlock := by
 obtain ⟨A0, c0, A2, c2, hb, hg, hr0, hr2⟩ := h
 exact Kd.S_ne ho hb ht
theorem IsS57.lt {w0 W : World} {g : Nat} {f0 : List ByteArray} {f1 : Int} {f2 : List (S73)} {f3 : Bool} (h : IsS57 w0 W g f0 f1 f2 f3) : g < W.heap.size := by
 obtain ⟨A0, c0, A2, c2, hb, hg, hr0, hr2⟩ := h
 exact blk_lt hb
theorem IsS57.ge {w0 W : World} {g : Nat} {f0 : List ByteArray} {f1 : Int} {f2 : List (S73)} {f3 : Bool} (h : IsS57 w0 W g f0 f1 f2 f3) : w0.heap.size ≤ g := by
 obtain ⟨A0, c0, A2, c2, hb, hg, hr0, hr2⟩ := h
 exact hg
theorem IsS57.ne_blk {w0 W : World} {g : Nat} {f0 : List ByteArray} {f1 : Int} {f2 : List (S73)} {f3 : Bool} {a : Nat} {cs : Array Value} {t : TypeId} {fr : Nat × Nat} (h : IsS57 w0 W g f0 f1 f2 f3) (hb2 : W.heap[a]? = some (.cells cs t fr)) (ht : t ≠ 57) : g ≠ a := by
 obtain ⟨A0, c0, A2, c2, hb, hg, hr0, hr2⟩ := h
 rintro rfl
 rw [hb] at hb2
 injection hb2 with hb2
 injection hb2 with _ ht2
 exact ht ht2.symm
theorem IsS57.far {w0 W : World} {g : Nat} {f0 : List ByteArray} {f1 : Int} {f2 : List (S73)} {f3 : Bool} {p : Addr} (h : IsS57 w0 W g f0 f1 f2 f3) (hne : g ≠ p.block) (u : Value) : IsS57 w0 (W.setCell p u) g f0 f1 f2 f3 := by
 obtain ⟨A0, c0, A2, c2, hb, hg, hr0, hr2⟩ := h
 exact ⟨A0, c0, A2, c2, blk_far hb hne u, hg, hr0, hr2⟩
theorem cellS57_0 {W : World} {g : Nat} {A0 : Option Addr} {c0 : Nat} {A2 : Option Addr} {c2 : Nat} {f0 : List ByteArray} {f1 : Int} {f2 : List (S73)} {f3 : Bool} (h : W.heap[g]? = some (.cells #[.slice A0 f0.length c0, .int .i64 f1, .slice A2 f2.length c2, .bool f3] 57 (0, 0))) : W.cell? ⟨g, 0, none⟩ = some (.slice A0 f0.length c0) := (blk_cell h 0).trans rfl
theorem cellS57_1 {W : World} {g : Nat} {A0 : Option Addr} {c0 : Nat} {A2 : Option Addr} {c2 : Nat} {f0 : List ByteArray} {f1 : Int} {f2 : List (S73)} {f3 : Bool} (h : W.heap[g]? = some (.cells #[.slice A0 f0.length c0, .int .i64 f1, .slice A2 f2.length c2, .bool f3] 57 (0, 0))) : W.cell? ⟨g, 1, none⟩ = some (.int .i64 f1) := (blk_cell h 1).trans rfl
theorem IsS57.set_1 {w0 W : World} {g : Nat} {f0 : List ByteArray} {f1 : Int} {f2 : List (S73)} {f3 : Bool} (h : IsS57 w0 W g f0 f1 f2 f3) (x : Int) : IsS57 w0 (W.setCell ⟨g, 1, none⟩ (.int .i64 x)) g f0 x f2 f3 := by
 obtain ⟨A0, c0, A2, c2, hb, hg, hr0, hr2⟩ := h
 exact ⟨A0, c0, A2, c2, by simpa using blk_set hb 1 (.int .i64 x), hg, hr0, hr2⟩
theorem cellS57_2 {W : World} {g : Nat} {A0 : Option Addr} {c0 : Nat} {A2 : Option Addr} {c2 : Nat} {f0 : List ByteArray} {f1 : Int} {f2 : List (S73)} {f3 : Bool} (h : W.heap[g]? = some (.cells #[.slice A0 f0.length c0, .int .i64 f1, .slice A2 f2.length c2, .bool f3] 57 (0, 0))) : W.cell? ⟨g, 2, none⟩ = some (.slice A2 f2.length c2) := (blk_cell h 2).trans rfl
theorem cellS57_3 {W : World} {g : Nat} {A0 : Option Addr} {c0 : Nat} {A2 : Option Addr} {c2 : Nat} {f0 : List ByteArray} {f1 : Int} {f2 : List (S73)} {f3 : Bool} (h : W.heap[g]? = some (.cells #[.slice A0 f0.length c0, .int .i64 f1, .slice A2 f2.length c2, .bool f3] 57 (0, 0))) : W.cell? ⟨g, 3, none⟩ = some (.bool f3) := (blk_cell h 3).trans rfl
theorem IsS57.set_3 {w0 W : World} {g : Nat} {f0 : List ByteArray} {f1 : Int} {f2 : List (S73)} {f3 : Bool} (h : IsS57 w0 W g f0 f1 f2 f3) (x : Bool) : IsS57 w0 (W.setCell ⟨g, 3, none⟩ (.bool x)) g f0 f1 f2 x := by
 obtain ⟨A0, c0, A2, c2, hb, hg, hr0, hr2⟩ := h
 exact ⟨A0, c0, A2, c2, by simpa using blk_set hb 3 (.bool x), hg, hr0, hr2⟩
theorem IsS57.new (w0 W : World) (A0 : Option Addr) (c0 : Nat) (A2 : Option Addr) (c2 : Nat) (f0 : List ByteArray) (f1 : Int) (f2 : List (S73)) (f3 : Bool) (hB : Below w0.heap.size w0 W) (hr0 : Kd.C Kd.string w0 A0 f0.length f0) (hr2 : Kd.C k73 w0 A2 f2.length f2) : IsS57 w0 (W.alloc (.cells #[.slice A0 f0.length c0, .int .i64 f1, .slice A2 f2.length c2, .bool f3] 57)) W.heap.size f0 f1 f2 f3 := ⟨A0, c0, A2, c2, by simpa using heap_alloc_new W _, hB.size, hr0, hr2⟩
theorem IsS57.farA {w0 W : World} {g a i : Nat} {f0 : List ByteArray} {f1 : Int} {f2 : List (S73)} {f3 : Bool} {u : Value} (h : IsS57 w0 W g f0 f1 f2 f3) (hn : Aside0 (g ≠ a)) : IsS57 w0 (W.setCell ⟨a, i, none⟩ u) g f0 f1 f2 f3 := IsS57.far (p := ⟨a, i, none⟩) h hn.out u
theorem IsS57.q {w0 W W1 : World} {g : Nat} {f0 : List ByteArray} {f1 : Int} {f2 : List (S73)} {f3 : Bool} {f0' : List ByteArray} {f1' : Int} {f2' : List (S73)} {f3' : Bool} (h : Aside0 (IsS57 w0 W g f0 f1 f2 f3)) (hq : IsS57 w0 W g f0 f1 f2 f3 → IsS57 w0 W1 g f0' f1' f2' f3' := by intro h_; repeat (first | (with_reducible first | exact h_ | apply IsS57.alloc | apply IsS57.drewN | apply IsS57.drew | apply IsS57.set_1 | apply IsS57.set_3 | refine IsS57.farA ?_ (by assumption)) | exact h_)) : IsS57 w0 W1 g f0' f1' f2' f3' := hq h.out
theorem IsS57.b {w0 W W1 W2 : World} {g : Nat} {f0 : List ByteArray} {f1 : Int} {f2 : List (S73)} {f3 : Bool} {f0' : List ByteArray} {f1' : Int} {f2' : List (S73)} {f3' : Bool} (h : Aside0 (IsS57 w0 W g f0 f1 f2 f3)) (hb : Below W1.heap.size W1 W2) (hq : IsS57 w0 W g f0 f1 f2 f3 → IsS57 w0 W1 g f0' f1' f2' f3' := by intro h_; repeat (first | (with_reducible first | exact h_ | apply IsS57.alloc | apply IsS57.drewN | apply IsS57.drew | apply IsS57.set_1 | apply IsS57.set_3 | refine IsS57.farA ?_ (by assumption)) | exact h_)) : Aside0 (IsS57 w0 W2 g f0' f1' f2' f3') := ⟨IsS57.below (hq h.out) hb⟩
theorem IsS57.rk {w0 W W1 W2 : World} {g : Nat} {f0 : List ByteArray} {f1 : Int} {f2 : List (S73)} {f3 : Bool} {α : Type} {d : Kd α} {e : Nat} {base : Nat} {ok : Nat → Prop} {v : Value} {xs : List α} (hI : Aside0 (IsS57 w0 W g f0 f1 f2 f3)) (h : Aside0 (d.R e W base ok v xs)) (hk : KeepBut W1 W2 g none) (hq : Below W.heap.size W W1 := by repeat (first | (with_reducible first | exact Below.refl _ _ | apply below_alloc | apply pw_below_drewN | apply below_drew1) | exact Below.refl _ _)) (ht : ∀ q, q ∈ e :: d.E → q ≠ 57 := by decide) : Aside0 (d.R e W2 base ok v xs) := ⟨Kd.R_mono (Kd.R_keep (Kd.R_below (IsS57.apart hI.out h.out ht) hq) hk (fun _ h => h.2)) (fun _ h => h.1)⟩

/-! ### impl_ruleParser_rule: function 34 -/
/-! #### the program's reader of rules (impl.ruleParser): what stands in memory -/
def wdI (ws : List ByteArray) (i : Nat) : ByteArray := rdOf ByteArray.empty ws (i : Int)
def nxt (ws : List ByteArray) (i : Nat) (f : Bool) : ByteArray := if f = true then ⟨#[]⟩ else if i = ws.length then ⟨#[]⟩ else wdI ws i
def IP (w0 w : World) (g : Nat) (ws : List ByteArray) (m i : Nat) (out : List S73) (f : Bool) : Prop :=
 (w0.heap.size ≤ g ∧ Below w0.heap.size w0 w ∧ LaidW w0) ∧ ws.length ≤ 1000 ∧ i ≤ ws.length ∧ out.length + m ≤ i ∧ ∃ vw vo : Value, w.heap[g]? = some (.cells #[vw, .int .i64 (i : Int), vo, .bool f] 57 (0, 0)) ∧ Kd.R Kd.string 9 w w0.heap.size (fun _ => True) vw ws ∧ Kd.R k73 73 w w0.heap.size (fun _ => True) vo out
def SameI (w1 w : World) : Prop := w1.os = w.os ∧ w1.tape = w.tape ∧ w1.output = w.output ∧ w1.heap = w.heap
theorem IP.of_heap {w0 w w1 : World} {g : Nat} {ws : List ByteArray} {m i : Nat} {out : List S73} {f : Bool} (h : IP w0 w g ws m i out f) (e : SameI w1 w) : IP w0 w1 g ws m i out f := by
 obtain ⟨e1, e2, e3, e⟩ := e
 have hb : Below w.heap.size w w1 := ⟨e1, e2, e3, by rw [e]; exact Nat.le_refl _, fun i _ => by rw [e]⟩
 obtain ⟨⟨h1, h2, hL⟩, h3, h4, h5, vw, vo, h6, h7, h8⟩ := h
 exact ⟨⟨h1, below_step h2 hb, hL⟩, h3, h4, h5, vw, vo, by rw [e]; exact h6, Kd.R_below h7 hb, Kd.R_below h8 hb⟩
theorem IP.hh {w0 w w1 : World} {g : Nat} {ws : List ByteArray} {m i : Nat} {out : List S73} {f : Bool} (h : Aside0 (IP w0 w g ws m i out f)) (e : SameI w1 w := by exact ⟨rfl, rfl, rfl, rfl⟩) : IP w0 w1 g ws m i out f := IP.of_heap h.out e
theorem IP.slacks {w0 w : World} {g : Nat} {ws : List ByteArray} {m m' i : Nat} {out : List S73} {f : Bool} (h : IP w0 w g ws m i out f) (hm : m' ≤ m) : IP w0 w g ws m' i out f := by
 obtain ⟨h1, h3, h4, h5, h6⟩ := h
 exact ⟨h1, h3, h4, by omega, h6⟩
/-- One word on. -/
theorem IP.step_ {w0 w w1 : World} {g : Nat} {ws : List ByteArray} {m i : Nat} {out : List S73} {f : Bool} {x : Int} (h : IP w0 w g ws m i out f) (hi : i < ws.length) (hx : x = (i : Int)) (e : SameI w1 (w.setCell ⟨g, 1, none⟩ (.int .i64 (x + 1)))) : IP w0 w1 g ws (m + 1) (i + 1) out f := by
 subst hx
 refine IP.of_heap (w := w.setCell ⟨g, 1, none⟩ (.int .i64 ((i : Int) + 1))) ?_ e
 obtain ⟨⟨h1, h2, hL⟩, h3, h4, h5, vw, vo, h6, h7, h8⟩ := h
 refine ⟨⟨h1, below_set h2 h1, hL⟩, h3, by omega, by omega, vw, vo, ?_, Kd.R_set h7 h6 ?_ _ _, Kd.R_set h8 h6 ?_ _ _⟩
 ·have := blk_set h6 1 (.int .i64 ((i : Int) + 1))
  simpa using this
 ·intro q hq; simp [Kd.string, Kd.scalar] at hq; subst hq; decide
 ·intro q hq; simp [k73, Kd.iso, Kd.pair, Kd.int, Kd.scalar] at hq; subst hq; decide
/-- The reader fails. -/
theorem IP.fail_ {w0 w w1 : World} {g : Nat} {ws : List ByteArray} {m i : Nat} {out : List S73} {f : Bool} (h : IP w0 w g ws m i out f) (e : SameI w1 (w.setCell ⟨g, 3, none⟩ (.bool true))) : IP w0 w1 g ws m i out true := by
 refine IP.of_heap (w := w.setCell ⟨g, 3, none⟩ (.bool true)) ?_ e
 obtain ⟨⟨h1, h2, hL⟩, h3, h4, h5, vw, vo, h6, h7, h8⟩ := h
 refine ⟨⟨h1, below_set h2 h1, hL⟩, h3, h4, h5, vw, vo, ?_, Kd.R_set h7 h6 ?_ _ _, Kd.R_set h8 h6 ?_ _ _⟩
 ·have := blk_set h6 3 (.bool true)
  simpa using this
 ·intro q hq; simp [Kd.string, Kd.scalar] at hq; subst hq; decide
 ·intro q hq; simp [k73, Kd.iso, Kd.pair, Kd.int, Kd.scalar] at hq; subst hq; decide
/-- What a walk reads. -/
theorem IP.read {w0 w : World} {g : Nat} {ws : List ByteArray} {m i : Nat} {out : List S73} {f : Bool} (h : IP w0 w g ws m i out f) : ∃ (x : Int) (A : Option Addr) (c : Nat) (A2 : Option Addr) (c2 : Nat), Aside0 (x = (i : Int)) ∧ 0 ≤ x ∧ x ≤ 1000 ∧ w.cell? ⟨g, 0, none⟩ = some (.slice A ws.length c) ∧ w.cell? ⟨g, 1, none⟩ = some (.int .i64 x) ∧ w.cell? ⟨g, 2, none⟩ = some (.slice A2 out.length c2) ∧ w.cell? ⟨g, 3, none⟩ = some (.bool f) ∧ w.frozen? ⟨g, 1, none⟩ = false ∧ w.frozen? ⟨g, 2, none⟩ = false ∧ w.frozen? ⟨g, 3, none⟩ = false ∧ Aside0 (Kd.R k73 73 w w0.heap.size (fun _ => True) (.slice A2 out.length c2) out) := by
 obtain ⟨_, h3, h4, _, vw, vo, h6, h7, h8⟩ := h
 obtain ⟨A, c, rfl, _, _⟩ := Kd.R_reads h7
 obtain ⟨A2, c2, rfl, _, _⟩ := Kd.R_reads h8
 obtain ⟨hc0, hc1, hc2, hc3, _, hf1, hf2, hf3⟩ := bx4 (am_ h6)
 exact ⟨_, A, c, A2, c2, ⟨rfl⟩, by omega, by omega, hc0, hc1, hc2, hc3, hf1, hf2, hf3, ⟨h8⟩⟩
theorem ruInfoI : (Tryz.prog.info? 73).map (fun i => (i.zero, i.size, i.bytes)) = some (some (.agg #[.int .i64 0, .int .i64 0]), 2, 16) := by kernel_rfl
theorem iGrown {α β : Type} {d : Kd α} {d' : Kd β} {e e' : Nat} {W W1 : World} {base base' : Nat} {ok' : Nat → Prop} {v v' : Value} {xs : List α} {ys : List β} (h : Kd.R d e W base (fun _ => True) v xs) (h' : Kd.R d' e' W base' ok' v' ys)
  (ht : ∀ q, q ∈ e :: d.E → q ≠ e') (hg : W.grownBy W1 v'.ownBlock) : Kd.R d e W1 base (fun _ => True) v xs := by
 refine Kd.R_mono (Kd.R_grown (ok := fun k => some k ≠ v'.ownBlock) (Kd.R_mono (Kd.R_bound h) ?_) hg (fun k hk => hk)) (fun _ _ => trivial)
 rintro k ⟨_, _, _, q, hq, cells, hc⟩ he
 obtain ⟨inner, ho⟩ := Kd.R_own h'
 obtain ⟨cells', hc'⟩ := own_typed ho k he.symm
 rw [hc] at hc'
 injection hc' with hc'
 injection hc' with _ hc'
 exact ht q hq hc'
/-- A part more: behind the append (w1) and the store. -/
theorem IP.appended {w0 w W w1 : World} {g : Nat} {ws : List ByteArray} {m i : Nat} {out : List S73} {f : Bool} {A2 : Option Addr} {c2 : Nat} {p : S73} {v1 : Value} (h : IP w0 w g ws (m + 1) i out f) (hc : w.cell? ⟨g, 2, none⟩ = some (.slice A2 out.length c2)) (hg : W.grownBy w1 (Value.slice A2 out.length c2).ownBlock) (e : SameI W w)
  (ho : Kd.R k73 73 w1 w0.heap.size (fun _ => True) v1 (out ++ [p])) (hb : Below w0.heap.size w0 w1) : IP w0 (w1.setCell ⟨g, 2, none⟩ v1) g ws m i (out ++ [p]) f ∧ w1.cell? ⟨g, 2, none⟩ = some (.slice A2 out.length c2) ∧ w1.frozen? ⟨g, 2, none⟩ = false := by
 obtain ⟨e1, e2, e3, e⟩ := e
 have hq : Below w.heap.size w W := ⟨e1, e2, e3, by rw [e]; exact Nat.le_refl _, fun i _ => by rw [e]⟩
 obtain ⟨⟨h1, h2, hL⟩, h3, h4, h5, vw, vo, h6, h7, h8⟩ := h
 obtain ⟨_, _, hc2, _, _, _, _, _⟩ := bx4 (am_ h6)
 obtain rfl : vo = .slice A2 out.length c2 := by rw [hc] at hc2; exact (Option.some.inj hc2).symm
 have h6' : W.heap[g]? = some (.cells #[vw, .int .i64 (i : Int), .slice A2 out.length c2, .bool f] 57 (0, 0)) := by rw [e]; exact h6
 have h8' := Kd.R_below h8 hq
 have h7' := iGrown (Kd.R_below h7 hq) h8' (by intro q hq; simp [Kd.string, Kd.scalar] at hq; subst hq; decide) hg
 have h9 := blk_grown h6' hg (Kd.R_ne h8' h6' (by decide))
 obtain ⟨_, _, hd2, _, _, _, hf2, _⟩ := bx4 (am_ h9)
 refine ⟨⟨⟨h1, below_set hb h1, hL⟩, h3, h4, by simp; omega, vw, v1, ?_, Kd.R_set h7' h9 ?_ _ _, Kd.R_set ho h9 ?_ _ _⟩, hd2, hf2⟩
 ·have := blk_set h9 2 v1
  simpa using this
 ·intro q hq; simp [Kd.string, Kd.scalar] at hq; subst hq; decide
 ·intro q hq; simp [k73, Kd.iso, Kd.pair, Kd.int, Kd.scalar] at hq; subst hq; decide
theorem IP.step_full {w0 w : World} {g : Nat} {ws : List ByteArray} {m i : Nat} {out : List S73} {f : Bool} {x : Int} {A2 : Option Addr} {c2 : Nat} (h : IP w0 w g ws m i out f) (hi : i < ws.length) (hx : x = (i : Int)) (hc : w.cell? ⟨g, 2, none⟩ = some (.slice A2 out.length c2)) (hO : Kd.R k73 73 w w0.heap.size (fun _ => True) (.slice A2 out.length c2) out) :
  Aside0 (IP w0 (w.setCell ⟨g, 1, none⟩ (.int .i64 (x + 1))) g ws (m + 1) (i + 1) out f) ∧ (w.setCell ⟨g, 1, none⟩ (.int .i64 (x + 1))).cell? ⟨g, 2, none⟩ = some (.slice A2 out.length c2) ∧ Aside0 (Kd.R k73 73 (w.setCell ⟨g, 1, none⟩ (.int .i64 (x + 1))) w0.heap.size (fun _ => True) (.slice A2 out.length c2) out) := by
 have hs := IP.step_ (w1 := w.setCell ⟨g, 1, none⟩ (.int .i64 (x + 1))) h hi hx ⟨rfl, rfl, rfl, rfl⟩
 obtain ⟨_, _, _, _, vw, vo, h6, _, _⟩ := h
 have h9 := blk_set h6 1 (.int .i64 (x + 1))
 obtain ⟨_, _, hc2, _, _, _, _, _⟩ := bx4 (am_ h6)
 rw [hc] at hc2
 have ev := Option.some.inj hc2
 subst ev
 refine ⟨⟨hs⟩, ?_, ⟨Kd.R_set hO h6 ?_ _ _⟩⟩
 ·have h10 : (w.setCell ⟨g, 1, none⟩ (.int .i64 (x + 1))).heap[g]? = some (.cells #[vw, .int .i64 (x + 1), .slice A2 out.length c2, .bool f] 57 (0, 0)) := by simpa using h9
  exact (bx4 (am_ h10)).2.2.1
 ·intro q hq; simp [k73, Kd.iso, Kd.pair, Kd.int, Kd.scalar] at hq; subst hq; decide
theorem lit_toList (l : List UInt8) : (⟨l.toArray⟩ : ByteArray).toList = l := by rw [ByteArray.toList_eq]
/-! #### next, take -/
theorem iNext (w0 w : World) (g : Nat) (ws : List ByteArray) (m i : Nat) (out : List S73) (f : Bool) (hI : IP w0 w g ws m i out f) :
  Calls Tryz.prog 51 #[.pointer (some ⟨g, 0, none⟩)] w fun e w' => e = .returned (.string (nxt ws i f)) ∧ Drawn0 w w' := by
 obtain ⟨x, A, c, A2, c2, HX, hx0, hx1, hc0, hc1, hc2, hc3, hf1, hf2, hf3, HO⟩ := hI.read
 by_cases hf : f = true
 ·subst hf
  have e0 : nxt ws i true = ⟨#[]⟩ := by simp [nxt]
  rw [e0]
  clear hI e0
  go_enter Tryz.func51, Tryz.ntmps51
  go_wp2
  repeat (go_quiet (fail); try go_wp2)
  go_ret
  exact ⟨rfl, ⟨_, rfl⟩⟩
 ·replace hf := Bool.eq_false_iff.mpr hf
  subst hf
  by_cases hi : i = ws.length
  ·have e0 : nxt ws i false = ⟨#[]⟩ := by simp [nxt, hi]
   rw [e0]
   have d1 : (x == (ws.length : Int)) = true := by have := HX.out; simp; omega
   clear hI e0 hi
   go_enter Tryz.func51, Tryz.ntmps51
   go_wp2
   repeat (go_quiet (fail); try go_wp2)
   go_ret
   exact ⟨rfl, ⟨_, rfl⟩⟩
  ·have e0 : nxt ws i false = wdI ws i := by simp [nxt, hi]
   rw [e0]
   have hle := hI.2.2.1
   have d1 : (x == (ws.length : Int)) = false := by have := HX.out; simp; omega
   have q1 : (x < (ws.length : Int)) = True := eq_true (by have := HX.out; omega)
   obtain ⟨_, _, _, _, vw, vo, h6, h7, _⟩ := hI
   obtain ⟨A', c', rfl, _, hC⟩ := Kd.R_reads h7
   obtain ⟨hd0, _, _, _, _, _, _, _⟩ := bx4 (am_ h6)
   rw [hc0] at hd0
   have ea := Option.some.inj hd0
   injection ea with ea _ ec
   subst ea ec
   obtain ⟨ad, rfl, hc⟩ := Kd.at_string hC x hx0 (by have := HX.out; omega)
   have hc' : w.cell? (ad.add x.toNat) = some (.string (wdI ws i)) := by rw [hc, HX.out]; rfl
   clear e0 hi hle hC h6 h7 hd0 hc
   go_enter Tryz.func51, Tryz.ntmps51
   go_wp2
   repeat (go_quiet (fail); try go_wp2)
   go_ret
   exact ⟨rfl, by repeat (first | exact Drawn0.refl _ | apply Drawn0.step)⟩
theorem nxt_lt {ws : List ByteArray} {i : Nat} {f : Bool} {l : List UInt8} (h : ((nxt ws i f).toList == l) = true) (hl : l ≠ []) : f = false ∧ i < ws.length := by
 have e0 : (⟨#[]⟩ : ByteArray).toList = [] := by rw [ByteArray.toList_eq]
 have h' : (nxt ws i f).toList = l := by simpa using h
 unfold nxt at h'
 by_cases hf : f = true
 ·rw [if_pos hf, e0] at h'; exact absurd h'.symm hl
 ·rw [if_neg hf] at h'
  refine ⟨by simpa using hf, ?_⟩
  rcases Nat.lt_or_ge i ws.length with hi | hi
  ·exact hi
  ·have e1 : wdI ws i = ⟨#[]⟩ := by
    unfold wdI rdOf
    rw [List.getD_eq_getElem?_getD, List.getElem?_eq_none (by simpa using hi)]
    rfl
   rw [e1, ite_self, e0] at h'
   exact absurd h'.symm hl
theorem iTakeT (w0 w : World) (g : Nat) (ws : List ByteArray) (m i : Nat) (out : List S73) (f : Bool) (s : ByteArray) (hI : IP w0 w g ws m i out f) (hs : ((nxt ws i f).toList == s.toList) = true) (hn : s.toList ≠ []) :
  Calls Tryz.prog 54 #[.pointer (some ⟨g, 0, none⟩), .string s] w fun e w' => e = .returned (.tuple #[]) ∧ IP w0 w' g ws (m + 1) (i + 1) out f := by
 obtain ⟨x, A, c, A2, c2, HX, hx0, hx1, hc0, hc1, hc2, hc3, hf1, hf2, hf3, HO⟩ := hI.read
 have HLT := am_ (nxt_lt hs hn).2
 have HI := am_ hI
 have hs' : ((nxt ws i f).toList != s.toList) = false := by simpa using hs
 clear hI hn
 go_enter Tryz.func54, Tryz.ntmps54
 go_wp2_with (first | ((with_reducible refine gk_ 51 ?_); refine gq_ 5 Tryz.func51 #[.pointer (some ⟨g, 0, none⟩)] ?_; (with_reducible refine (iNext w0 _ g ws m i out f ?sd).mono ?_); (case sd => exact IP.hh HI); rintro e w1 ⟨rfl, ⟨n, rfl⟩⟩; refine ⟨_, rfl, ?_⟩))
 go_end0
 exact ⟨rfl, IP.step_ HI.out HLT.out HX.out ⟨rfl, rfl, rfl, rfl⟩⟩
theorem iTakeF (w0 w : World) (g : Nat) (ws : List ByteArray) (m i : Nat) (out : List S73) (f : Bool) (s : ByteArray) (hI : IP w0 w g ws m i out f) (hs : ((nxt ws i f).toList == s.toList) = false) :
  Calls Tryz.prog 54 #[.pointer (some ⟨g, 0, none⟩), .string s] w fun e w' => e = .returned (.tuple #[]) ∧ IP w0 w' g ws m i out true := by
 obtain ⟨x, A, c, A2, c2, HX, hx0, hx1, hc0, hc1, hc2, hc3, hf1, hf2, hf3, HO⟩ := hI.read
 have HI := am_ hI
 have hs' : ((nxt ws i f).toList != s.toList) = true := by simpa using hs
 clear hI
 go_enter Tryz.func54, Tryz.ntmps54
 go_wp2_with (first | ((with_reducible refine gk_ 51 ?_); refine gq_ 5 Tryz.func51 #[.pointer (some ⟨g, 0, none⟩)] ?_; (with_reducible refine (iNext w0 _ g ws m i out f ?sd).mono ?_); (case sd => exact IP.hh HI); rintro e w1 ⟨rfl, ⟨n, rfl⟩⟩; refine ⟨_, rfl, ?_⟩))
 refine bodyPost_ret (results_none rfl _ _ _) rfl ?_
 exact ⟨rfl, IP.fail_ HI.out ⟨rfl, rfl, rfl, rfl⟩⟩
/-! #### what the program's reader comes to -/
def nameAt : Nat → ByteArray → Nat → Option Nat
 | 0, _, _ => none
 | d + 1, s, k => if (s.toList == (fieldNames_.getD k ByteArray.empty).toList) = true then some k else nameAt d s (k + 1)
def iTk (ws : List ByteArray) (i : Nat) (f : Bool) (l : List UInt8) : Nat × Bool := if ((nxt ws i f).toList == l) = true then (i + 1, f) else (i, true)
def kindOf (s : ByteArray) : Int := Lib.index [60, 61, 62] s.data.toList
theorem kindOf_le (s : ByteArray) : kindOf s ≤ 3 := by
 have index_le : ∀ s sub : List UInt8, Lib.index s sub ≤ s.length := by
  intro s sub
  induction s with
  | nil => unfold Lib.index; split <;> simp
  | cons b l ih =>
   unfold Lib.index
   split
   ·simp; omega
   ·split
    ·simp; omega
    ·simp; omega
 exact index_le [60, 61, 62] s.data.toList
mutual
def iAtom : Nat → List ByteArray → Nat → List S73 → Bool → Option (Nat × List S73 × Bool)
 | 0, _, _, _, _ => none
 | k + 1, ws, i, out, f =>
  if ((nxt ws i f).toList == [40]) = true then (iRule k ws (i + 1) out f).bind fun r => some ((iTk ws r.1 r.2.2 [41]).1, r.2.1, (iTk ws r.1 r.2.2 [41]).2)
  else match nameAt 5 (nxt ws i f) 0 with
   | some q => some (i + 1, out ++ [⟨1, q⟩], f)
   | none => (impl_decimal.f 30 (nxt ws i f)).bind fun r => if r.2 = true then (if 1000000 < r.1 then some (i, out, true) else if i < ws.length then some (i + 1, out ++ [⟨0, r.1⟩], f) else none) else some (i, out, true)
def iProd : Nat → List ByteArray → Nat → List S73 → Bool → Option (Nat × List S73 × Bool)
 | 0, _, _, _, _ => none
 | k + 1, ws, i, out, f => (iAtom k ws i out f).bind fun r => iProdL k ws r.1 r.2.1 r.2.2
def iProdL : Nat → List ByteArray → Nat → List S73 → Bool → Option (Nat × List S73 × Bool)
 | 0, _, _, _, _ => none
 | k + 1, ws, i, out, f =>
  if ((nxt ws i f).toList == [42]) = true then (iAtom k ws (i + 1) out f).bind fun r => iProdL k ws r.1 (r.2.1 ++ [⟨4, 0⟩]) r.2.2
  else if ((nxt ws i f).toList == [47]) = true then (iAtom k ws (i + 1) out f).bind fun r => iProdL k ws r.1 (r.2.1 ++ [⟨5, 0⟩]) r.2.2
  else some (i, out, f)
def iSum : Nat → List ByteArray → Nat → List S73 → Bool → Option (Nat × List S73 × Bool)
 | 0, _, _, _, _ => none
 | k + 1, ws, i, out, f => (iProd k ws i out f).bind fun r => iSumL k ws r.1 r.2.1 r.2.2
def iSumL : Nat → List ByteArray → Nat → List S73 → Bool → Option (Nat × List S73 × Bool)
 | 0, _, _, _, _ => none
 | k + 1, ws, i, out, f =>
  if ((nxt ws i f).toList == [43]) = true then (iProd k ws (i + 1) out f).bind fun r => iSumL k ws r.1 (r.2.1 ++ [⟨2, 0⟩]) r.2.2
  else if ((nxt ws i f).toList == [45]) = true then (iProd k ws (i + 1) out f).bind fun r => iSumL k ws r.1 (r.2.1 ++ [⟨3, 0⟩]) r.2.2
  else some (i, out, f)
def iRule : Nat → List ByteArray → Nat → List S73 → Bool → Option (Nat × List S73 × Bool)
 | 0, _, _, _, _ => none
 | k + 1, ws, i, out, f =>
  if ((nxt ws i f).toList == [105, 102]) = true then
   (iSum k ws (i + 1) out f).bind fun r =>
    if ((nxt ws r.1 r.2.2).toList == []) = true then some (r.1, r.2.1, true)
    else if kindOf (nxt ws r.1 r.2.2) < 0 then some (r.1, r.2.1, true)
    else if (nxt ws r.1 r.2.2).size = 1 then
     (iSum k ws (r.1 + 1) r.2.1 r.2.2).bind fun t =>
      if (iTk ws t.1 t.2.2 [116, 104, 101, 110]).2 = true then some ((iTk ws t.1 t.2.2 [116, 104, 101, 110]).1, t.2.1, true)
      else (iRule k ws (iTk ws t.1 t.2.2 [116, 104, 101, 110]).1 t.2.1 false).bind fun u =>
       if (iTk ws u.1 u.2.2 [101, 108, 115, 101]).2 = true then some ((iTk ws u.1 u.2.2 [101, 108, 115, 101]).1, u.2.1, true)
       else (iRule k ws (iTk ws u.1 u.2.2 [101, 108, 115, 101]).1 u.2.1 false).bind fun v => some (v.1, v.2.1 ++ [⟨6 + kindOf (nxt ws r.1 r.2.2), 0⟩], v.2.2)
    else some (r.1, r.2.1, true)
  else iSum k ws i out f
end
def RuI (f : Nat) (F : List ByteArray → Nat → List S73 → Bool → Option (Nat × List S73 × Bool)) : Prop :=
 ∀ (w0 w : World) (g : Nat) (ws : List ByteArray) (m i : Nat) (out : List S73) (b : Bool) (j : Nat) (o : List S73) (b' : Bool), IP w0 w g ws m i out b → F ws i out b = some (j, o, b') →
  Calls Tryz.prog f #[.pointer (some ⟨g, 0, none⟩)] w fun e w' => e = .returned (.tuple #[]) ∧ IP w0 w' g ws m j o b'
theorem iProd_calls (k : Nat) (ih : ∀ q, q ≤ k → RuI 79 (iAtom q)) : RuI 70 (iProd (k + 1)) := by
 intro w0 w g ws m i out f j o f' hI h
 have HI := am_ hI
 clear hI
 simp only [iProd] at h
 obtain ⟨⟨j1, o1, f1⟩, e1, h⟩ := Option.bind_eq_some_iff.mp h
 have E1 := am_ e1
 have IH1 := am_ (ih k (Nat.le_refl k))
 have IH := am_ ih
 clear ih e1
 have H' := am_ h
 clear h
 go_enter Tryz.func70, Tryz.ntmps70
 go_wp2_with (first | ((with_reducible refine gk_ 79 ?_); (try (refine gate_guard (by rfl) ?_; dsimp only)); refine gq_ 4 Tryz.func79 #[.pointer (some ⟨g, 0, none⟩)] ?_; refine (IH1.out w0 _ g ws m i out f _ _ _ ?sd E1.out).mono ?_; (case sd => exact IP.hh HI); rintro e w1 ⟨rfl, hr_⟩; refine ⟨_, rfl, ?_⟩; replace HI := am_ hr_; clear hr_; obtain ⟨x, Aw, cw, Ap, cp, HX, hx0, hx1, hd0, hd1, hd2, hd3, hf1, hf2, hf3, HO⟩ := HI.out.read))
 clear hx0 hx1 hd0 hd1 hd2 hd3 hf1 hf2 hf3 HX HO
 go_loopg [] k (fun kq w' => ∃ (i1 : Nat) (o2 : List S73) (f2 : Bool), Aside0 (iProdL kq ws i1 o2 f2 = some (j, o, f')) ∧ Aside0 (kq ≤ k) ∧ Aside0 (IP w0 w' g ws m i1 o2 f2))
 case atStart => exact ⟨_, _, _, H', ⟨Nat.le_refl _⟩, HI⟩
 case round =>
  clear H' HI IH1 E1
  obtain ⟨i1, o2, f2, HA, HK, HI⟩ := hrel
  cases gk with
  | zero => exact absurd HA.out (by simp [iProdL])
  | succ q =>
   have h := HA.out
   clear HA
   simp only [iProdL] at h
   have hq : q ≤ k := by have := HK.out; omega
   have IH1 := am_ (IH.out q hq)
   clear hq
   obtain ⟨x, Aw, cw, Ap, cp, HX, hx0, hx1, hd0, hd1, hd2, hd3, hf1, hf2, hf3, HO⟩ := HI.out.read
   by_cases hc0 : ((nxt ws i1 f2).toList == [42]) = true
   ·rw [if_pos hc0] at h
    obtain ⟨⟨j2, o3, f3⟩, e2, h⟩ := Option.bind_eq_some_iff.mp h
    have E2 := am_ e2
    have H' := am_ h
    clear e2 h
    have hc1 : ((nxt ws i1 f2).toList == [47]) = false := by have := eq_of_beq hc0; rw [this]; rfl
    have HLT := am_ (nxt_lt hc0 (by simp)).2
    go_wp2_with (first | ((with_reducible refine gk_ 51 ?_); (try (refine gate_guard (by rfl) ?_; dsimp only)); refine gq_ 6 Tryz.func51 #[.pointer (some ⟨g, 0, none⟩)] ?_; (with_reducible refine (iNext w0 _ g ws m i1 o2 f2 ?sd).mono ?_); (case sd => exact IP.hh HI); rintro e w1 ⟨rfl, ⟨nq_, rfl⟩⟩; refine ⟨_, rfl, ?_⟩) | ((with_reducible refine gk_ 51 ?_); (try (refine gate_guard (by rfl) ?_; dsimp only)); refine gq_ 10 Tryz.func51 #[.pointer (some ⟨g, 0, none⟩)] ?_; (with_reducible refine (iNext w0 _ g ws m i1 o2 f2 ?sd).mono ?_); (case sd => exact IP.hh HI); rintro e w1 ⟨rfl, ⟨nq_, rfl⟩⟩; refine ⟨_, rfl, ?_⟩) | ((with_reducible refine gk_ 51 ?_); (try (refine gate_guard (by rfl) ?_; dsimp only)); refine gq_ 14 Tryz.func51 #[.pointer (some ⟨g, 0, none⟩)] ?_; (with_reducible refine (iNext w0 _ g ws m i1 o2 f2 ?sd).mono ?_); (case sd => exact IP.hh HI); rintro e w1 ⟨rfl, ⟨nq_, rfl⟩⟩; refine ⟨_, rfl, ?_⟩) | ((with_reducible refine gk_ 79 ?_); (try (refine gate_guard (by rfl) ?_; dsimp only)); refine gq_ 24 Tryz.func79 #[.pointer (some ⟨g, 0, none⟩)] ?_; refine (IH1.out w0 _ g ws (m + 1) (i1 + 1) o2 f2 _ _ _ ?sd E2.out).mono ?_; (case sd => exact IP.step_ HI.out HLT.out HX.out ⟨rfl, rfl, rfl, rfl⟩); rintro e w1 ⟨rfl, hr_⟩; refine ⟨_, rfl, ?_⟩; clear hx0 hx1 hd0 hd1 hd2 hd3 hf1 hf2 hf3 HX HO; replace HI := am_ hr_; clear hr_; obtain ⟨x, Aw, cw, Ap, cp, HX, hx0, hx1, hd0, hd1, hd2, hd3, hf1, hf2, hf3, HO⟩ := HI.out.read) | ((with_reducible refine gate_builtin (b := .append) (xs := #[.tmp 29, .tmp 32]) rfl ?_); at_builtin; refine Kd.R_append k73 (w0 := w0) w0.heap.size rfl (.tmp 29) (.tmp 32) 23 73 (.agg #[(.int .i64 0), (.int .i64 0)]) 16 rfl Tryz.underlying23 ruInfoI rfl (by decide) (by omega) (.slice Ap o3.length cp) o3 (⟨4, 0⟩ : S73) [.int .i64 (4), .int .i64 (0)] (fun _ => True) (fun _ => False) rfl (by first | (go_simp; done) | (go_simp; rfl)) ?aP (fun _ hk => hk.elim) ?aF ?aO ?aB ?aS ?aL ?_; (case aP => exact k73_mkM _ _ _ (⟨4, 0⟩ : S73)); (case aF => exact (fun _ _ => trivial)); (case aO => exact Kd.R_below HO.out ⟨rfl, rfl, rfl, Nat.le_refl _, fun _ _ => rfl⟩); (case aB => exact below_step HI.out.1.2.1 ⟨rfl, rfl, rfl, Nat.le_refl _, fun _ _ => rfl⟩); (case aS => exact Nat.le_trans HI.out.1.2.1.size (Nat.le_refl _)); (case aL => have := HI.out.2.1; have := HI.out.2.2.1; have := HI.out.2.2.2.1; omega); intro v1 w1 ho hb hg hat; obtain ⟨Ao, co, eo⟩ := Kd.R_slice ho; rw [List.length_append, List.length_singleton] at eo; subst eo; obtain ⟨hr_, he1, he2⟩ := IP.appended HI.out hd2 hg ⟨rfl, rfl, rfl, rfl⟩ ho hb; replace HI := am_ hr_; clear hr_ ho hb hg hat))
    go_roundg q
    case measure => omega
    case rel => exact ⟨_, _, _, H', ⟨by have := HK.out; omega⟩, HI⟩
   ·rw [if_neg hc0] at h
    by_cases hc1 : ((nxt ws i1 f2).toList == [47]) = true
    ·rw [if_pos hc1] at h
     obtain ⟨⟨j2, o3, f3⟩, e2, h⟩ := Option.bind_eq_some_iff.mp h
     have E2 := am_ e2
     have H' := am_ h
     clear e2 h
     replace hc0 := Bool.eq_false_iff.mpr hc0
     have HLT := am_ (nxt_lt hc1 (by simp)).2
     go_wp2_with (first | ((with_reducible refine gk_ 51 ?_); (try (refine gate_guard (by rfl) ?_; dsimp only)); refine gq_ 6 Tryz.func51 #[.pointer (some ⟨g, 0, none⟩)] ?_; (with_reducible refine (iNext w0 _ g ws m i1 o2 f2 ?sd).mono ?_); (case sd => exact IP.hh HI); rintro e w1 ⟨rfl, ⟨nq_, rfl⟩⟩; refine ⟨_, rfl, ?_⟩) | ((with_reducible refine gk_ 51 ?_); (try (refine gate_guard (by rfl) ?_; dsimp only)); refine gq_ 10 Tryz.func51 #[.pointer (some ⟨g, 0, none⟩)] ?_; (with_reducible refine (iNext w0 _ g ws m i1 o2 f2 ?sd).mono ?_); (case sd => exact IP.hh HI); rintro e w1 ⟨rfl, ⟨nq_, rfl⟩⟩; refine ⟨_, rfl, ?_⟩) | ((with_reducible refine gk_ 51 ?_); (try (refine gate_guard (by rfl) ?_; dsimp only)); refine gq_ 14 Tryz.func51 #[.pointer (some ⟨g, 0, none⟩)] ?_; (with_reducible refine (iNext w0 _ g ws m i1 o2 f2 ?sd).mono ?_); (case sd => exact IP.hh HI); rintro e w1 ⟨rfl, ⟨nq_, rfl⟩⟩; refine ⟨_, rfl, ?_⟩) | ((with_reducible refine gk_ 79 ?_); (try (refine gate_guard (by rfl) ?_; dsimp only)); refine gq_ 24 Tryz.func79 #[.pointer (some ⟨g, 0, none⟩)] ?_; refine (IH1.out w0 _ g ws (m + 1) (i1 + 1) o2 f2 _ _ _ ?sd E2.out).mono ?_; (case sd => exact IP.step_ HI.out HLT.out HX.out ⟨rfl, rfl, rfl, rfl⟩); rintro e w1 ⟨rfl, hr_⟩; refine ⟨_, rfl, ?_⟩; clear hx0 hx1 hd0 hd1 hd2 hd3 hf1 hf2 hf3 HX HO; replace HI := am_ hr_; clear hr_; obtain ⟨x, Aw, cw, Ap, cp, HX, hx0, hx1, hd0, hd1, hd2, hd3, hf1, hf2, hf3, HO⟩ := HI.out.read) | ((with_reducible refine gate_builtin (b := .append) (xs := #[.tmp 29, .tmp 32]) rfl ?_); at_builtin; refine Kd.R_append k73 (w0 := w0) w0.heap.size rfl (.tmp 29) (.tmp 32) 23 73 (.agg #[(.int .i64 0), (.int .i64 0)]) 16 rfl Tryz.underlying23 ruInfoI rfl (by decide) (by omega) (.slice Ap o3.length cp) o3 (⟨5, 0⟩ : S73) [.int .i64 (5), .int .i64 (0)] (fun _ => True) (fun _ => False) rfl (by first | (go_simp; done) | (go_simp; rfl)) ?aP (fun _ hk => hk.elim) ?aF ?aO ?aB ?aS ?aL ?_; (case aP => exact k73_mkM _ _ _ (⟨5, 0⟩ : S73)); (case aF => exact (fun _ _ => trivial)); (case aO => exact Kd.R_below HO.out ⟨rfl, rfl, rfl, Nat.le_refl _, fun _ _ => rfl⟩); (case aB => exact below_step HI.out.1.2.1 ⟨rfl, rfl, rfl, Nat.le_refl _, fun _ _ => rfl⟩); (case aS => exact Nat.le_trans HI.out.1.2.1.size (Nat.le_refl _)); (case aL => have := HI.out.2.1; have := HI.out.2.2.1; have := HI.out.2.2.2.1; omega); intro v1 w1 ho hb hg hat; obtain ⟨Ao, co, eo⟩ := Kd.R_slice ho; rw [List.length_append, List.length_singleton] at eo; subst eo; obtain ⟨hr_, he1, he2⟩ := IP.appended HI.out hd2 hg ⟨rfl, rfl, rfl, rfl⟩ ho hb; replace HI := am_ hr_; clear hr_ ho hb hg hat))
     go_roundg q
     case measure => omega
     case rel => exact ⟨_, _, _, H', ⟨by have := HK.out; omega⟩, HI⟩
    ·rw [if_neg hc1] at h
     replace hc0 := Bool.eq_false_iff.mpr hc0
     replace hc1 := Bool.eq_false_iff.mpr hc1
     simp only [Option.some.injEq, Prod.mk.injEq] at h
     obtain ⟨rfl, rfl, rfl⟩ := h
     go_wp2_with (first | ((with_reducible refine gk_ 51 ?_); (try (refine gate_guard (by rfl) ?_; dsimp only)); refine gq_ 6 Tryz.func51 #[.pointer (some ⟨g, 0, none⟩)] ?_; (with_reducible refine (iNext w0 _ g ws m i1 o2 f2 ?sd).mono ?_); (case sd => exact IP.hh HI); rintro e w1 ⟨rfl, ⟨nq_, rfl⟩⟩; refine ⟨_, rfl, ?_⟩) | ((with_reducible refine gk_ 51 ?_); (try (refine gate_guard (by rfl) ?_; dsimp only)); refine gq_ 10 Tryz.func51 #[.pointer (some ⟨g, 0, none⟩)] ?_; (with_reducible refine (iNext w0 _ g ws m i1 o2 f2 ?sd).mono ?_); (case sd => exact IP.hh HI); rintro e w1 ⟨rfl, ⟨nq_, rfl⟩⟩; refine ⟨_, rfl, ?_⟩))
     go_end0
     exact ⟨rfl, IP.of_heap HI.out ⟨rfl, rfl, rfl, rfl⟩⟩
theorem iSum_calls (k : Nat) (ih : ∀ q, q ≤ k → RuI 70 (iProd q)) : RuI 52 (iSum (k + 1)) := by
 intro w0 w g ws m i out f j o f' hI h
 have HI := am_ hI
 clear hI
 simp only [iSum] at h
 obtain ⟨⟨j1, o1, f1⟩, e1, h⟩ := Option.bind_eq_some_iff.mp h
 have E1 := am_ e1
 have IH1 := am_ (ih k (Nat.le_refl k))
 have IH := am_ ih
 clear ih e1
 have H' := am_ h
 clear h
 go_enter Tryz.func52, Tryz.ntmps52
 go_wp2_with (first | ((with_reducible refine gk_ 70 ?_); (try (refine gate_guard (by rfl) ?_; dsimp only)); refine gq_ 4 Tryz.func70 #[.pointer (some ⟨g, 0, none⟩)] ?_; refine (IH1.out w0 _ g ws m i out f _ _ _ ?sd E1.out).mono ?_; (case sd => exact IP.hh HI); rintro e w1 ⟨rfl, hr_⟩; refine ⟨_, rfl, ?_⟩; replace HI := am_ hr_; clear hr_; obtain ⟨x, Aw, cw, Ap, cp, HX, hx0, hx1, hd0, hd1, hd2, hd3, hf1, hf2, hf3, HO⟩ := HI.out.read))
 clear hx0 hx1 hd0 hd1 hd2 hd3 hf1 hf2 hf3 HX HO
 go_loopg [] k (fun kq w' => ∃ (i1 : Nat) (o2 : List S73) (f2 : Bool), Aside0 (iSumL kq ws i1 o2 f2 = some (j, o, f')) ∧ Aside0 (kq ≤ k) ∧ Aside0 (IP w0 w' g ws m i1 o2 f2))
 case atStart => exact ⟨_, _, _, H', ⟨Nat.le_refl _⟩, HI⟩
 case round =>
  clear H' HI IH1 E1
  obtain ⟨i1, o2, f2, HA, HK, HI⟩ := hrel
  cases gk with
  | zero => exact absurd HA.out (by simp [iSumL])
  | succ q =>
   have h := HA.out
   clear HA
   simp only [iSumL] at h
   have hq : q ≤ k := by have := HK.out; omega
   have IH1 := am_ (IH.out q hq)
   clear hq
   obtain ⟨x, Aw, cw, Ap, cp, HX, hx0, hx1, hd0, hd1, hd2, hd3, hf1, hf2, hf3, HO⟩ := HI.out.read
   by_cases hc0 : ((nxt ws i1 f2).toList == [43]) = true
   ·rw [if_pos hc0] at h
    obtain ⟨⟨j2, o3, f3⟩, e2, h⟩ := Option.bind_eq_some_iff.mp h
    have E2 := am_ e2
    have H' := am_ h
    clear e2 h
    have hc1 : ((nxt ws i1 f2).toList == [45]) = false := by have := eq_of_beq hc0; rw [this]; rfl
    have HLT := am_ (nxt_lt hc0 (by simp)).2
    go_wp2_with (first | ((with_reducible refine gk_ 51 ?_); (try (refine gate_guard (by rfl) ?_; dsimp only)); refine gq_ 6 Tryz.func51 #[.pointer (some ⟨g, 0, none⟩)] ?_; (with_reducible refine (iNext w0 _ g ws m i1 o2 f2 ?sd).mono ?_); (case sd => exact IP.hh HI); rintro e w1 ⟨rfl, ⟨nq_, rfl⟩⟩; refine ⟨_, rfl, ?_⟩) | ((with_reducible refine gk_ 51 ?_); (try (refine gate_guard (by rfl) ?_; dsimp only)); refine gq_ 10 Tryz.func51 #[.pointer (some ⟨g, 0, none⟩)] ?_; (with_reducible refine (iNext w0 _ g ws m i1 o2 f2 ?sd).mono ?_); (case sd => exact IP.hh HI); rintro e w1 ⟨rfl, ⟨nq_, rfl⟩⟩; refine ⟨_, rfl, ?_⟩) | ((with_reducible refine gk_ 51 ?_); (try (refine gate_guard (by rfl) ?_; dsimp only)); refine gq_ 14 Tryz.func51 #[.pointer (some ⟨g, 0, none⟩)] ?_; (with_reducible refine (iNext w0 _ g ws m i1 o2 f2 ?sd).mono ?_); (case sd => exact IP.hh HI); rintro e w1 ⟨rfl, ⟨nq_, rfl⟩⟩; refine ⟨_, rfl, ?_⟩) | ((with_reducible refine gk_ 70 ?_); (try (refine gate_guard (by rfl) ?_; dsimp only)); refine gq_ 24 Tryz.func70 #[.pointer (some ⟨g, 0, none⟩)] ?_; refine (IH1.out w0 _ g ws (m + 1) (i1 + 1) o2 f2 _ _ _ ?sd E2.out).mono ?_; (case sd => exact IP.step_ HI.out HLT.out HX.out ⟨rfl, rfl, rfl, rfl⟩); rintro e w1 ⟨rfl, hr_⟩; refine ⟨_, rfl, ?_⟩; clear hx0 hx1 hd0 hd1 hd2 hd3 hf1 hf2 hf3 HX HO; replace HI := am_ hr_; clear hr_; obtain ⟨x, Aw, cw, Ap, cp, HX, hx0, hx1, hd0, hd1, hd2, hd3, hf1, hf2, hf3, HO⟩ := HI.out.read) | ((with_reducible refine gate_builtin (b := .append) (xs := #[.tmp 29, .tmp 32]) rfl ?_); at_builtin; refine Kd.R_append k73 (w0 := w0) w0.heap.size rfl (.tmp 29) (.tmp 32) 23 73 (.agg #[(.int .i64 0), (.int .i64 0)]) 16 rfl Tryz.underlying23 ruInfoI rfl (by decide) (by omega) (.slice Ap o3.length cp) o3 (⟨2, 0⟩ : S73) [.int .i64 (2), .int .i64 (0)] (fun _ => True) (fun _ => False) rfl (by first | (go_simp; done) | (go_simp; rfl)) ?aP (fun _ hk => hk.elim) ?aF ?aO ?aB ?aS ?aL ?_; (case aP => exact k73_mkM _ _ _ (⟨2, 0⟩ : S73)); (case aF => exact (fun _ _ => trivial)); (case aO => exact Kd.R_below HO.out ⟨rfl, rfl, rfl, Nat.le_refl _, fun _ _ => rfl⟩); (case aB => exact below_step HI.out.1.2.1 ⟨rfl, rfl, rfl, Nat.le_refl _, fun _ _ => rfl⟩); (case aS => exact Nat.le_trans HI.out.1.2.1.size (Nat.le_refl _)); (case aL => have := HI.out.2.1; have := HI.out.2.2.1; have := HI.out.2.2.2.1; omega); intro v1 w1 ho hb hg hat; obtain ⟨Ao, co, eo⟩ := Kd.R_slice ho; rw [List.length_append, List.length_singleton] at eo; subst eo; obtain ⟨hr_, he1, he2⟩ := IP.appended HI.out hd2 hg ⟨rfl, rfl, rfl, rfl⟩ ho hb; replace HI := am_ hr_; clear hr_ ho hb hg hat))
    go_roundg q
    case measure => omega
    case rel => exact ⟨_, _, _, H', ⟨by have := HK.out; omega⟩, HI⟩
   ·rw [if_neg hc0] at h
    by_cases hc1 : ((nxt ws i1 f2).toList == [45]) = true
    ·rw [if_pos hc1] at h
     obtain ⟨⟨j2, o3, f3⟩, e2, h⟩ := Option.bind_eq_some_iff.mp h
     have E2 := am_ e2
     have H' := am_ h
     clear e2 h
     replace hc0 := Bool.eq_false_iff.mpr hc0
     have HLT := am_ (nxt_lt hc1 (by simp)).2
     go_wp2_with (first | ((with_reducible refine gk_ 51 ?_); (try (refine gate_guard (by rfl) ?_; dsimp only)); refine gq_ 6 Tryz.func51 #[.pointer (some ⟨g, 0, none⟩)] ?_; (with_reducible refine (iNext w0 _ g ws m i1 o2 f2 ?sd).mono ?_); (case sd => exact IP.hh HI); rintro e w1 ⟨rfl, ⟨nq_, rfl⟩⟩; refine ⟨_, rfl, ?_⟩) | ((with_reducible refine gk_ 51 ?_); (try (refine gate_guard (by rfl) ?_; dsimp only)); refine gq_ 10 Tryz.func51 #[.pointer (some ⟨g, 0, none⟩)] ?_; (with_reducible refine (iNext w0 _ g ws m i1 o2 f2 ?sd).mono ?_); (case sd => exact IP.hh HI); rintro e w1 ⟨rfl, ⟨nq_, rfl⟩⟩; refine ⟨_, rfl, ?_⟩) | ((with_reducible refine gk_ 51 ?_); (try (refine gate_guard (by rfl) ?_; dsimp only)); refine gq_ 14 Tryz.func51 #[.pointer (some ⟨g, 0, none⟩)] ?_; (with_reducible refine (iNext w0 _ g ws m i1 o2 f2 ?sd).mono ?_); (case sd => exact IP.hh HI); rintro e w1 ⟨rfl, ⟨nq_, rfl⟩⟩; refine ⟨_, rfl, ?_⟩) | ((with_reducible refine gk_ 70 ?_); (try (refine gate_guard (by rfl) ?_; dsimp only)); refine gq_ 24 Tryz.func70 #[.pointer (some ⟨g, 0, none⟩)] ?_; refine (IH1.out w0 _ g ws (m + 1) (i1 + 1) o2 f2 _ _ _ ?sd E2.out).mono ?_; (case sd => exact IP.step_ HI.out HLT.out HX.out ⟨rfl, rfl, rfl, rfl⟩); rintro e w1 ⟨rfl, hr_⟩; refine ⟨_, rfl, ?_⟩; clear hx0 hx1 hd0 hd1 hd2 hd3 hf1 hf2 hf3 HX HO; replace HI := am_ hr_; clear hr_; obtain ⟨x, Aw, cw, Ap, cp, HX, hx0, hx1, hd0, hd1, hd2, hd3, hf1, hf2, hf3, HO⟩ := HI.out.read) | ((with_reducible refine gate_builtin (b := .append) (xs := #[.tmp 29, .tmp 32]) rfl ?_); at_builtin; refine Kd.R_append k73 (w0 := w0) w0.heap.size rfl (.tmp 29) (.tmp 32) 23 73 (.agg #[(.int .i64 0), (.int .i64 0)]) 16 rfl Tryz.underlying23 ruInfoI rfl (by decide) (by omega) (.slice Ap o3.length cp) o3 (⟨3, 0⟩ : S73) [.int .i64 (3), .int .i64 (0)] (fun _ => True) (fun _ => False) rfl (by first | (go_simp; done) | (go_simp; rfl)) ?aP (fun _ hk => hk.elim) ?aF ?aO ?aB ?aS ?aL ?_; (case aP => exact k73_mkM _ _ _ (⟨3, 0⟩ : S73)); (case aF => exact (fun _ _ => trivial)); (case aO => exact Kd.R_below HO.out ⟨rfl, rfl, rfl, Nat.le_refl _, fun _ _ => rfl⟩); (case aB => exact below_step HI.out.1.2.1 ⟨rfl, rfl, rfl, Nat.le_refl _, fun _ _ => rfl⟩); (case aS => exact Nat.le_trans HI.out.1.2.1.size (Nat.le_refl _)); (case aL => have := HI.out.2.1; have := HI.out.2.2.1; have := HI.out.2.2.2.1; omega); intro v1 w1 ho hb hg hat; obtain ⟨Ao, co, eo⟩ := Kd.R_slice ho; rw [List.length_append, List.length_singleton] at eo; subst eo; obtain ⟨hr_, he1, he2⟩ := IP.appended HI.out hd2 hg ⟨rfl, rfl, rfl, rfl⟩ ho hb; replace HI := am_ hr_; clear hr_ ho hb hg hat))
     go_roundg q
     case measure => omega
     case rel => exact ⟨_, _, _, H', ⟨by have := HK.out; omega⟩, HI⟩
    ·rw [if_neg hc1] at h
     replace hc0 := Bool.eq_false_iff.mpr hc0
     replace hc1 := Bool.eq_false_iff.mpr hc1
     simp only [Option.some.injEq, Prod.mk.injEq] at h
     obtain ⟨rfl, rfl, rfl⟩ := h
     go_wp2_with (first | ((with_reducible refine gk_ 51 ?_); (try (refine gate_guard (by rfl) ?_; dsimp only)); refine gq_ 6 Tryz.func51 #[.pointer (some ⟨g, 0, none⟩)] ?_; (with_reducible refine (iNext w0 _ g ws m i1 o2 f2 ?sd).mono ?_); (case sd => exact IP.hh HI); rintro e w1 ⟨rfl, ⟨nq_, rfl⟩⟩; refine ⟨_, rfl, ?_⟩) | ((with_reducible refine gk_ 51 ?_); (try (refine gate_guard (by rfl) ?_; dsimp only)); refine gq_ 10 Tryz.func51 #[.pointer (some ⟨g, 0, none⟩)] ?_; (with_reducible refine (iNext w0 _ g ws m i1 o2 f2 ?sd).mono ?_); (case sd => exact IP.hh HI); rintro e w1 ⟨rfl, ⟨nq_, rfl⟩⟩; refine ⟨_, rfl, ?_⟩))
     go_end0
     exact ⟨rfl, IP.of_heap HI.out ⟨rfl, rfl, rfl, rfl⟩⟩
theorem iAtom_calls (k : Nat) (ih : RuI 34 (iRule k)) : RuI 79 (iAtom (k + 1)) := by
 intro w0 w g ws m i out f j o f' hI h
 have HI := am_ hI
 simp only [iAtom] at h
 have IH1 := am_ ih
 clear ih hI
 obtain ⟨x, Aw, cw, Ap, cp, HX, hx0, hx1, hd0, hd1, hd2, hd3, hf1, hf2, hf3, HO⟩ := HI.out.read
 by_cases c1 : ((nxt ws i f).toList == [40]) = true
 ·rw [if_pos c1] at h
  obtain ⟨⟨j1, o1, f1⟩, e1, h⟩ := Option.bind_eq_some_iff.mp h
  have E1 := am_ e1
  have HLT := am_ (nxt_lt c1 (by simp)).2
  clear e1
  dsimp only at h
  by_cases c2 : ((nxt ws j1 f1).toList == [41]) = true
  ·simp only [iTk, if_pos c2, Option.some.injEq, Prod.mk.injEq] at h
   obtain ⟨rfl, rfl, rfl⟩ := h
   have C2 := am_ c2
   clear c2
   go_enter Tryz.func79, Tryz.ntmps79
   go_wp2_with (first | ((with_reducible refine gk_ 51 ?_); (try (refine gate_guard (by rfl) ?_; dsimp only)); refine gq_ 8 Tryz.func51 #[.pointer (some ⟨g, 0, none⟩)] ?_; (with_reducible refine (iNext w0 _ g ws m i out f ?sd).mono ?_); (case sd => exact IP.hh HI); rintro e w1 ⟨rfl, ⟨nq_, rfl⟩⟩; refine ⟨_, rfl, ?_⟩) | ((with_reducible refine gk_ 34 ?_); (try (refine gate_guard (by rfl) ?_; dsimp only)); refine gq_ 19 Tryz.func34 #[.pointer (some ⟨g, 0, none⟩)] ?_; refine (IH1.out w0 _ g ws (m + 1) (i + 1) out f _ _ _ ?sd E1.out).mono ?_; (case sd => exact IP.step_ HI.out HLT.out HX.out ⟨rfl, rfl, rfl, rfl⟩); rintro e w1 ⟨rfl, hr_⟩; refine ⟨_, rfl, ?_⟩; clear hx0 hx1 hd0 hd1 hd2 hd3 hf1 hf2 hf3 HX HO; replace HI := am_ hr_; clear hr_; obtain ⟨x, Aw, cw, Ap, cp, HX, hx0, hx1, hd0, hd1, hd2, hd3, hf1, hf2, hf3, HO⟩ := HI.out.read) | ((with_reducible refine gk_ 54 ?_); (try (refine gate_guard (by rfl) ?_; dsimp only)); refine gq_ 21 Tryz.func54 #[.pointer (some ⟨g, 0, none⟩), .string ⟨#[41]⟩] ?_; (with_reducible refine (iTakeT w0 _ g ws (m + 1) j1 o1 f1 (⟨#[41]⟩ : ByteArray) ?sd ?se ?sn).mono ?_); (case sd => exact IP.hh HI); (case se => rw [lit_toList [41]]; exact C2.out); (case sn => rw [lit_toList [41]]; simp); rintro e w1 ⟨rfl, hr_⟩; refine ⟨_, rfl, ?_⟩; clear hx0 hx1 hd0 hd1 hd2 hd3 hf1 hf2 hf3 HX HO; replace HI := am_ hr_; clear hr_; obtain ⟨x, Aw, cw, Ap, cp, HX, hx0, hx1, hd0, hd1, hd2, hd3, hf1, hf2, hf3, HO⟩ := HI.out.read))
   refine bodyPost_ret (results_none rfl _ _ _) rfl ?_
   exact ⟨rfl, IP.slacks (IP.of_heap HI.out ⟨rfl, rfl, rfl, rfl⟩) (by omega)⟩
  ·simp only [iTk, if_neg c2, Option.some.injEq, Prod.mk.injEq] at h
   obtain ⟨rfl, rfl, rfl⟩ := h
   have C2 := am_ (Bool.eq_false_iff.mpr c2)
   clear c2
   go_enter Tryz.func79, Tryz.ntmps79
   go_wp2_with (first | ((with_reducible refine gk_ 51 ?_); (try (refine gate_guard (by rfl) ?_; dsimp only)); refine gq_ 8 Tryz.func51 #[.pointer (some ⟨g, 0, none⟩)] ?_; (with_reducible refine (iNext w0 _ g ws m i out f ?sd).mono ?_); (case sd => exact IP.hh HI); rintro e w1 ⟨rfl, ⟨nq_, rfl⟩⟩; refine ⟨_, rfl, ?_⟩) | ((with_reducible refine gk_ 34 ?_); (try (refine gate_guard (by rfl) ?_; dsimp only)); refine gq_ 19 Tryz.func34 #[.pointer (some ⟨g, 0, none⟩)] ?_; refine (IH1.out w0 _ g ws (m + 1) (i + 1) out f _ _ _ ?sd E1.out).mono ?_; (case sd => exact IP.step_ HI.out HLT.out HX.out ⟨rfl, rfl, rfl, rfl⟩); rintro e w1 ⟨rfl, hr_⟩; refine ⟨_, rfl, ?_⟩; clear hx0 hx1 hd0 hd1 hd2 hd3 hf1 hf2 hf3 HX HO; replace HI := am_ hr_; clear hr_; obtain ⟨x, Aw, cw, Ap, cp, HX, hx0, hx1, hd0, hd1, hd2, hd3, hf1, hf2, hf3, HO⟩ := HI.out.read) | ((with_reducible refine gk_ 54 ?_); (try (refine gate_guard (by rfl) ?_; dsimp only)); refine gq_ 21 Tryz.func54 #[.pointer (some ⟨g, 0, none⟩), .string ⟨#[41]⟩] ?_; (with_reducible refine (iTakeF w0 _ g ws (m + 1) j1 o1 f1 (⟨#[41]⟩ : ByteArray) ?sd ?se).mono ?_); (case sd => exact IP.hh HI); (case se => rw [lit_toList [41]]; exact C2.out); rintro e w1 ⟨rfl, hr_⟩; refine ⟨_, rfl, ?_⟩; clear hx0 hx1 hd0 hd1 hd2 hd3 hf1 hf2 hf3 HX HO; replace HI := am_ hr_; clear hr_; obtain ⟨x, Aw, cw, Ap, cp, HX, hx0, hx1, hd0, hd1, hd2, hd3, hf1, hf2, hf3, HO⟩ := HI.out.read))
   refine bodyPost_ret (results_none rfl _ _ _) rfl ?_
   exact ⟨rfl, IP.slacks (IP.of_heap HI.out ⟨rfl, rfl, rfl, rfl⟩) (by omega)⟩
 ·rw [if_neg c1] at h
  replace c1 := Bool.eq_false_iff.mpr c1
  clear IH1
  have hn0 : w.cell? ⟨0, 0, none⟩ = some (.string ⟨#[116, 111, 110, 110, 101, 115]⟩) := (HI.out.1.2.2.below HI.out.1.2.1).name 0 (by decide)
  have hn1 : w.cell? ⟨0, 1, none⟩ = some (.string ⟨#[103, 114, 97, 100, 101]⟩) := (HI.out.1.2.2.below HI.out.1.2.1).name 1 (by decide)
  have hn2 : w.cell? ⟨0, 2, none⟩ = some (.string ⟨#[114, 111, 99, 107]⟩) := (HI.out.1.2.2.below HI.out.1.2.1).name 2 (by decide)
  have hn3 : w.cell? ⟨0, 3, none⟩ = some (.string ⟨#[108, 101, 118, 101, 108]⟩) := (HI.out.1.2.2.below HI.out.1.2.1).name 3 (by decide)
  have hn4 : w.cell? ⟨0, 4, none⟩ = some (.string ⟨#[109, 101, 116, 97, 108]⟩) := (HI.out.1.2.2.below HI.out.1.2.1).name 4 (by decide)
  have H' := am_ h
  clear h
  go_enter Tryz.func79, Tryz.ntmps79
  go_wp2_with (first | ((with_reducible refine gk_ 51 ?_); (try (refine gate_guard (by rfl) ?_; dsimp only)); refine gq_ 8 Tryz.func51 #[.pointer (some ⟨g, 0, none⟩)] ?_; (with_reducible refine (iNext w0 _ g ws m i out f ?sd).mono ?_); (case sd => exact IP.hh HI); rintro e w1 ⟨rfl, ⟨nq_, rfl⟩⟩; refine ⟨_, rfl, ?_⟩))
  go_loopg [23] 5 (fun kq v23 w' => ∃ (y : Int) (kk : Nat), v23 = .int .i64 y ∧ Aside0 (y = (kk : Int)) ∧ Aside0 (kq + kk = 5) ∧ Aside0 (nameAt 5 (nxt ws i f) 0 = nameAt kq (nxt ws i f) kk) ∧ Aside0 (IP w0 w' g ws m i out f))
  case atStart => exact ⟨0, 0, rfl, ⟨rfl⟩, ⟨rfl⟩, ⟨rfl⟩, ⟨IP.of_heap HI.out ⟨rfl, rfl, rfl, rfl⟩⟩⟩
  case round =>
   clear HI hn0 hn1 hn2 hn3 hn4 c1
   clear hx0 hx1 hd0 hd1 hd2 hd3 hf1 hf2 hf3 HX HO
   obtain ⟨y, kk, rfl, HY, HQ, HF, HI⟩ := hrel
   obtain ⟨x, Aw, cw, Ap, cp, HX, hx0, hx1, hd0, hd1, hd2, hd3, hf1, hf2, hf3, HO⟩ := HI.out.read
   cases gk with
   | zero =>
    have d0 : decide (y < 5) = false := decide_eq_false (by have := HY.out; have := HQ.out; omega)
    have h := H'.out
    rw [HF.out] at h
    simp only [nameAt] at h
    obtain ⟨⟨n, ok⟩, en, h⟩ := Option.bind_eq_some_iff.mp h
    have EN := am_ en
    clear en HF H'
    dsimp only at h
    by_cases hok : ok = true
    ·subst hok
     rw [if_pos rfl] at h
     by_cases hn : 1000000 < n
     ·rw [if_pos hn] at h
      have dn : decide (1000000 < n) = true := decide_eq_true hn
      clear hn
      simp only [Option.some.injEq, Prod.mk.injEq] at h
      obtain ⟨rfl, rfl, rfl⟩ := h
      go_wp2_with (first | ((with_reducible refine gk_ 91 ?_); (try (refine gate_guard (by rfl) ?_; dsimp only)); refine gq_ 51 Tryz.func91 #[.string (nxt ws i f)] ?_; (with_reducible refine (impl_decimal.calls 30 _ n true _ EN.out).mono ?_); rintro e w1 ⟨rfl, ⟨nq_, rfl⟩⟩; refine ⟨_, rfl, ?_⟩))
      refine bodyPost_ret (results_none rfl _ _ _) rfl ?_
      exact ⟨rfl, IP.fail_ HI.out ⟨rfl, rfl, rfl, rfl⟩⟩
     ·rw [if_neg hn] at h
      have dn : decide (1000000 < n) = false := decide_eq_false hn
      clear hn
      by_cases hl : i < ws.length
      case neg => rw [if_neg hl] at h; cases h
      rw [if_pos hl] at h
      have HLT := am_ hl
      clear hl
      simp only [Option.some.injEq, Prod.mk.injEq] at h
      obtain ⟨rfl, rfl, rfl⟩ := h
      obtain ⟨HIS, hd2S, HOS⟩ := IP.step_full HI.out HLT.out HX.out hd2 HO.out
      go_wp2_with (first | ((with_reducible refine gk_ 91 ?_); (try (refine gate_guard (by rfl) ?_; dsimp only)); refine gq_ 51 Tryz.func91 #[.string (nxt ws i f)] ?_; (with_reducible refine (impl_decimal.calls 30 _ n true _ EN.out).mono ?_); rintro e w1 ⟨rfl, ⟨nq_, rfl⟩⟩; refine ⟨_, rfl, ?_⟩) | ((with_reducible refine gate_builtin (b := .append) (xs := #[.tmp 74, .tmp 77]) rfl ?_); at_builtin; refine Kd.R_append k73 (w0 := w0) w0.heap.size rfl (.tmp 74) (.tmp 77) 23 73 (.agg #[(.int .i64 0), (.int .i64 0)]) 16 rfl Tryz.underlying23 ruInfoI rfl (by decide) (by omega) (.slice Ap out.length cp) out (⟨0, n⟩ : S73) [.int .i64 (0), .int .i64 (n)] (fun _ => True) (fun _ => False) rfl (by first | (go_simp; done) | (go_simp; rfl)) ?aP (fun _ hk => hk.elim) ?aF ?aO ?aB ?aS ?aL ?_; (case aP => exact k73_mkM _ _ _ (⟨0, n⟩ : S73)); (case aF => exact (fun _ _ => trivial)); (case aO => exact Kd.R_below HOS.out ⟨rfl, rfl, rfl, Nat.le_refl _, fun _ _ => rfl⟩); (case aB => exact below_step HIS.out.1.2.1 ⟨rfl, rfl, rfl, Nat.le_refl _, fun _ _ => rfl⟩); (case aS => exact Nat.le_trans HIS.out.1.2.1.size (Nat.le_refl _)); (case aL => have := HIS.out.2.1; have := HIS.out.2.2.1; have := HIS.out.2.2.2.1; omega); intro v1 w1 ho hb hg hat; obtain ⟨Ao, co, eo⟩ := Kd.R_slice ho; rw [List.length_append, List.length_singleton] at eo; subst eo; obtain ⟨hr_, he1, he2⟩ := IP.appended HIS.out hd2S hg ⟨rfl, rfl, rfl, rfl⟩ ho hb; replace HI := am_ hr_; clear hr_ ho hb hg hat))
      go_end0
      exact ⟨rfl, HI.out⟩
    ·replace hok := Bool.eq_false_iff.mpr hok
     subst hok
     rw [if_neg (by simp)] at h
     simp only [Option.some.injEq, Prod.mk.injEq] at h
     obtain ⟨rfl, rfl, rfl⟩ := h
     go_wp2_with (first | ((with_reducible refine gk_ 91 ?_); (try (refine gate_guard (by rfl) ?_; dsimp only)); refine gq_ 51 Tryz.func91 #[.string (nxt ws i f)] ?_; (with_reducible refine (impl_decimal.calls 30 _ n false _ EN.out).mono ?_); rintro e w1 ⟨rfl, ⟨nq_, rfl⟩⟩; refine ⟨_, rfl, ?_⟩))
     refine bodyPost_ret (results_none rfl _ _ _) rfl ?_
     exact ⟨rfl, IP.fail_ HI.out ⟨rfl, rfl, rfl, rfl⟩⟩
   | succ q =>
    have d0 : decide (y < 5) = true := decide_eq_true (by have := HY.out; have := HQ.out; omega)
    have hkk : kk = 0 ∨ kk = 1 ∨ kk = 2 ∨ kk = 3 ∨ kk = 4 := by have := HQ.out; omega
    rcases hkk with rfl | rfl | rfl | rfl | rfl
    ·obtain rfl : y = 0 := by have := HY.out; omega
     have hix : (Instr.index 76 (.agg #[.string ⟨#[116, 111, 110, 110, 101, 115]⟩, .string ⟨#[103, 114, 97, 100, 101]⟩, .string ⟨#[114, 111, 99, 107]⟩, .string ⟨#[108, 101, 118, 101, 108]⟩, .string ⟨#[109, 101, 116, 97, 108]⟩]) (.int .i64 0)).run Tryz.prog wr = .ok (.string ⟨#[116, 111, 110, 110, 101, 115]⟩) wr := by kernel_rfl
     by_cases cw : ((nxt ws i f).toList == [116, 111, 110, 110, 101, 115]) = true
     ·have hf : nameAt 5 (nxt ws i f) 0 = some 0 := by rw [HF.out]; unfold nameAt; rw [if_pos (by rw [show (fieldNames_.getD 0 ByteArray.empty).toList = [116, 111, 110, 110, 101, 115] from lit_toList [116, 111, 110, 110, 101, 115]]; exact cw)]
      have h := H'.out
      rw [hf] at h
      simp only [Option.some.injEq, Prod.mk.injEq] at h
      obtain ⟨rfl, rfl, rfl⟩ := h
      have HLT := am_ (nxt_lt cw (by simp)).2
      obtain ⟨HIS, hd2S, HOS⟩ := IP.step_full HI.out HLT.out HX.out hd2 HO.out
      clear hf
      go_wp2_with (first | ((with_reducible refine gate_builtin (b := .append) (xs := #[.tmp 41, .tmp 44]) rfl ?_); at_builtin; refine Kd.R_append k73 (w0 := w0) w0.heap.size rfl (.tmp 41) (.tmp 44) 23 73 (.agg #[(.int .i64 0), (.int .i64 0)]) 16 rfl Tryz.underlying23 ruInfoI rfl (by decide) (by omega) (.slice Ap out.length cp) out (⟨1, 0⟩ : S73) [.int .i64 (1), .int .i64 (0)] (fun _ => True) (fun _ => False) rfl (by first | (go_simp; done) | (go_simp; rfl)) ?aP (fun _ hk => hk.elim) ?aF ?aO ?aB ?aS ?aL ?_; (case aP => exact k73_mkM _ _ _ (⟨1, 0⟩ : S73)); (case aF => exact (fun _ _ => trivial)); (case aO => exact Kd.R_below HOS.out ⟨rfl, rfl, rfl, Nat.le_refl _, fun _ _ => rfl⟩); (case aB => exact below_step HIS.out.1.2.1 ⟨rfl, rfl, rfl, Nat.le_refl _, fun _ _ => rfl⟩); (case aS => exact Nat.le_trans HIS.out.1.2.1.size (Nat.le_refl _)); (case aL => have := HIS.out.2.1; have := HIS.out.2.2.1; have := HIS.out.2.2.2.1; omega); intro v1 w1 ho hb hg hat; obtain ⟨Ao, co, eo⟩ := Kd.R_slice ho; rw [List.length_append, List.length_singleton] at eo; subst eo; obtain ⟨hr_, he1, he2⟩ := IP.appended HIS.out hd2S hg ⟨rfl, rfl, rfl, rfl⟩ ho hb; replace HI := am_ hr_; clear hr_ ho hb hg hat))
      refine bodyPost_ret (results_none rfl _ _ _) rfl ?_
      exact ⟨rfl, HI.out⟩
     ·have HF2 := am_ (show nameAt 5 (nxt ws i f) 0 = nameAt q (nxt ws i f) 1 from by rw [HF.out]; conv => lhs; unfold nameAt; rw [if_neg (by rw [show (fieldNames_.getD 0 ByteArray.empty).toList = [116, 111, 110, 110, 101, 115] from lit_toList [116, 111, 110, 110, 101, 115]]; exact cw)])
      replace cw := Bool.eq_false_iff.mpr cw
      go_wp2
      go_roundg q
      case measure => omega
      case rel => exact ⟨1, 1, rfl, ⟨rfl⟩, ⟨by have := HQ.out; omega⟩, HF2, ⟨IP.of_heap HI.out ⟨rfl, rfl, rfl, rfl⟩⟩⟩
    ·obtain rfl : y = 1 := by have := HY.out; omega
     have hix : (Instr.index 76 (.agg #[.string ⟨#[116, 111, 110, 110, 101, 115]⟩, .string ⟨#[103, 114, 97, 100, 101]⟩, .string ⟨#[114, 111, 99, 107]⟩, .string ⟨#[108, 101, 118, 101, 108]⟩, .string ⟨#[109, 101, 116, 97, 108]⟩]) (.int .i64 1)).run Tryz.prog wr = .ok (.string ⟨#[103, 114, 97, 100, 101]⟩) wr := by kernel_rfl
     by_cases cw : ((nxt ws i f).toList == [103, 114, 97, 100, 101]) = true
     ·have hf : nameAt 5 (nxt ws i f) 0 = some 1 := by rw [HF.out]; unfold nameAt; rw [if_pos (by rw [show (fieldNames_.getD 1 ByteArray.empty).toList = [103, 114, 97, 100, 101] from lit_toList [103, 114, 97, 100, 101]]; exact cw)]
      have h := H'.out
      rw [hf] at h
      simp only [Option.some.injEq, Prod.mk.injEq] at h
      obtain ⟨rfl, rfl, rfl⟩ := h
      have HLT := am_ (nxt_lt cw (by simp)).2
      obtain ⟨HIS, hd2S, HOS⟩ := IP.step_full HI.out HLT.out HX.out hd2 HO.out
      clear hf
      go_wp2_with (first | ((with_reducible refine gate_builtin (b := .append) (xs := #[.tmp 41, .tmp 44]) rfl ?_); at_builtin; refine Kd.R_append k73 (w0 := w0) w0.heap.size rfl (.tmp 41) (.tmp 44) 23 73 (.agg #[(.int .i64 0), (.int .i64 0)]) 16 rfl Tryz.underlying23 ruInfoI rfl (by decide) (by omega) (.slice Ap out.length cp) out (⟨1, 1⟩ : S73) [.int .i64 (1), .int .i64 (1)] (fun _ => True) (fun _ => False) rfl (by first | (go_simp; done) | (go_simp; rfl)) ?aP (fun _ hk => hk.elim) ?aF ?aO ?aB ?aS ?aL ?_; (case aP => exact k73_mkM _ _ _ (⟨1, 1⟩ : S73)); (case aF => exact (fun _ _ => trivial)); (case aO => exact Kd.R_below HOS.out ⟨rfl, rfl, rfl, Nat.le_refl _, fun _ _ => rfl⟩); (case aB => exact below_step HIS.out.1.2.1 ⟨rfl, rfl, rfl, Nat.le_refl _, fun _ _ => rfl⟩); (case aS => exact Nat.le_trans HIS.out.1.2.1.size (Nat.le_refl _)); (case aL => have := HIS.out.2.1; have := HIS.out.2.2.1; have := HIS.out.2.2.2.1; omega); intro v1 w1 ho hb hg hat; obtain ⟨Ao, co, eo⟩ := Kd.R_slice ho; rw [List.length_append, List.length_singleton] at eo; subst eo; obtain ⟨hr_, he1, he2⟩ := IP.appended HIS.out hd2S hg ⟨rfl, rfl, rfl, rfl⟩ ho hb; replace HI := am_ hr_; clear hr_ ho hb hg hat))
      refine bodyPost_ret (results_none rfl _ _ _) rfl ?_
      exact ⟨rfl, HI.out⟩
     ·have HF2 := am_ (show nameAt 5 (nxt ws i f) 0 = nameAt q (nxt ws i f) 2 from by rw [HF.out]; conv => lhs; unfold nameAt; rw [if_neg (by rw [show (fieldNames_.getD 1 ByteArray.empty).toList = [103, 114, 97, 100, 101] from lit_toList [103, 114, 97, 100, 101]]; exact cw)])
      replace cw := Bool.eq_false_iff.mpr cw
      go_wp2
      go_roundg q
      case measure => omega
      case rel => exact ⟨2, 2, rfl, ⟨rfl⟩, ⟨by have := HQ.out; omega⟩, HF2, ⟨IP.of_heap HI.out ⟨rfl, rfl, rfl, rfl⟩⟩⟩
    ·obtain rfl : y = 2 := by have := HY.out; omega
     have hix : (Instr.index 76 (.agg #[.string ⟨#[116, 111, 110, 110, 101, 115]⟩, .string ⟨#[103, 114, 97, 100, 101]⟩, .string ⟨#[114, 111, 99, 107]⟩, .string ⟨#[108, 101, 118, 101, 108]⟩, .string ⟨#[109, 101, 116, 97, 108]⟩]) (.int .i64 2)).run Tryz.prog wr = .ok (.string ⟨#[114, 111, 99, 107]⟩) wr := by kernel_rfl
     by_cases cw : ((nxt ws i f).toList == [114, 111, 99, 107]) = true
     ·have hf : nameAt 5 (nxt ws i f) 0 = some 2 := by rw [HF.out]; unfold nameAt; rw [if_pos (by rw [show (fieldNames_.getD 2 ByteArray.empty).toList = [114, 111, 99, 107] from lit_toList [114, 111, 99, 107]]; exact cw)]
      have h := H'.out
      rw [hf] at h
      simp only [Option.some.injEq, Prod.mk.injEq] at h
      obtain ⟨rfl, rfl, rfl⟩ := h
      have HLT := am_ (nxt_lt cw (by simp)).2
      obtain ⟨HIS, hd2S, HOS⟩ := IP.step_full HI.out HLT.out HX.out hd2 HO.out
      clear hf
      go_wp2_with (first | ((with_reducible refine gate_builtin (b := .append) (xs := #[.tmp 41, .tmp 44]) rfl ?_); at_builtin; refine Kd.R_append k73 (w0 := w0) w0.heap.size rfl (.tmp 41) (.tmp 44) 23 73 (.agg #[(.int .i64 0), (.int .i64 0)]) 16 rfl Tryz.underlying23 ruInfoI rfl (by decide) (by omega) (.slice Ap out.length cp) out (⟨1, 2⟩ : S73) [.int .i64 (1), .int .i64 (2)] (fun _ => True) (fun _ => False) rfl (by first | (go_simp; done) | (go_simp; rfl)) ?aP (fun _ hk => hk.elim) ?aF ?aO ?aB ?aS ?aL ?_; (case aP => exact k73_mkM _ _ _ (⟨1, 2⟩ : S73)); (case aF => exact (fun _ _ => trivial)); (case aO => exact Kd.R_below HOS.out ⟨rfl, rfl, rfl, Nat.le_refl _, fun _ _ => rfl⟩); (case aB => exact below_step HIS.out.1.2.1 ⟨rfl, rfl, rfl, Nat.le_refl _, fun _ _ => rfl⟩); (case aS => exact Nat.le_trans HIS.out.1.2.1.size (Nat.le_refl _)); (case aL => have := HIS.out.2.1; have := HIS.out.2.2.1; have := HIS.out.2.2.2.1; omega); intro v1 w1 ho hb hg hat; obtain ⟨Ao, co, eo⟩ := Kd.R_slice ho; rw [List.length_append, List.length_singleton] at eo; subst eo; obtain ⟨hr_, he1, he2⟩ := IP.appended HIS.out hd2S hg ⟨rfl, rfl, rfl, rfl⟩ ho hb; replace HI := am_ hr_; clear hr_ ho hb hg hat))
      refine bodyPost_ret (results_none rfl _ _ _) rfl ?_
      exact ⟨rfl, HI.out⟩
     ·have HF2 := am_ (show nameAt 5 (nxt ws i f) 0 = nameAt q (nxt ws i f) 3 from by rw [HF.out]; conv => lhs; unfold nameAt; rw [if_neg (by rw [show (fieldNames_.getD 2 ByteArray.empty).toList = [114, 111, 99, 107] from lit_toList [114, 111, 99, 107]]; exact cw)])
      replace cw := Bool.eq_false_iff.mpr cw
      go_wp2
      go_roundg q
      case measure => omega
      case rel => exact ⟨3, 3, rfl, ⟨rfl⟩, ⟨by have := HQ.out; omega⟩, HF2, ⟨IP.of_heap HI.out ⟨rfl, rfl, rfl, rfl⟩⟩⟩
    ·obtain rfl : y = 3 := by have := HY.out; omega
     have hix : (Instr.index 76 (.agg #[.string ⟨#[116, 111, 110, 110, 101, 115]⟩, .string ⟨#[103, 114, 97, 100, 101]⟩, .string ⟨#[114, 111, 99, 107]⟩, .string ⟨#[108, 101, 118, 101, 108]⟩, .string ⟨#[109, 101, 116, 97, 108]⟩]) (.int .i64 3)).run Tryz.prog wr = .ok (.string ⟨#[108, 101, 118, 101, 108]⟩) wr := by kernel_rfl
     by_cases cw : ((nxt ws i f).toList == [108, 101, 118, 101, 108]) = true
     ·have hf : nameAt 5 (nxt ws i f) 0 = some 3 := by rw [HF.out]; unfold nameAt; rw [if_pos (by rw [show (fieldNames_.getD 3 ByteArray.empty).toList = [108, 101, 118, 101, 108] from lit_toList [108, 101, 118, 101, 108]]; exact cw)]
      have h := H'.out
      rw [hf] at h
      simp only [Option.some.injEq, Prod.mk.injEq] at h
      obtain ⟨rfl, rfl, rfl⟩ := h
      have HLT := am_ (nxt_lt cw (by simp)).2
      obtain ⟨HIS, hd2S, HOS⟩ := IP.step_full HI.out HLT.out HX.out hd2 HO.out
      clear hf
      go_wp2_with (first | ((with_reducible refine gate_builtin (b := .append) (xs := #[.tmp 41, .tmp 44]) rfl ?_); at_builtin; refine Kd.R_append k73 (w0 := w0) w0.heap.size rfl (.tmp 41) (.tmp 44) 23 73 (.agg #[(.int .i64 0), (.int .i64 0)]) 16 rfl Tryz.underlying23 ruInfoI rfl (by decide) (by omega) (.slice Ap out.length cp) out (⟨1, 3⟩ : S73) [.int .i64 (1), .int .i64 (3)] (fun _ => True) (fun _ => False) rfl (by first | (go_simp; done) | (go_simp; rfl)) ?aP (fun _ hk => hk.elim) ?aF ?aO ?aB ?aS ?aL ?_; (case aP => exact k73_mkM _ _ _ (⟨1, 3⟩ : S73)); (case aF => exact (fun _ _ => trivial)); (case aO => exact Kd.R_below HOS.out ⟨rfl, rfl, rfl, Nat.le_refl _, fun _ _ => rfl⟩); (case aB => exact below_step HIS.out.1.2.1 ⟨rfl, rfl, rfl, Nat.le_refl _, fun _ _ => rfl⟩); (case aS => exact Nat.le_trans HIS.out.1.2.1.size (Nat.le_refl _)); (case aL => have := HIS.out.2.1; have := HIS.out.2.2.1; have := HIS.out.2.2.2.1; omega); intro v1 w1 ho hb hg hat; obtain ⟨Ao, co, eo⟩ := Kd.R_slice ho; rw [List.length_append, List.length_singleton] at eo; subst eo; obtain ⟨hr_, he1, he2⟩ := IP.appended HIS.out hd2S hg ⟨rfl, rfl, rfl, rfl⟩ ho hb; replace HI := am_ hr_; clear hr_ ho hb hg hat))
      refine bodyPost_ret (results_none rfl _ _ _) rfl ?_
      exact ⟨rfl, HI.out⟩
     ·have HF2 := am_ (show nameAt 5 (nxt ws i f) 0 = nameAt q (nxt ws i f) 4 from by rw [HF.out]; conv => lhs; unfold nameAt; rw [if_neg (by rw [show (fieldNames_.getD 3 ByteArray.empty).toList = [108, 101, 118, 101, 108] from lit_toList [108, 101, 118, 101, 108]]; exact cw)])
      replace cw := Bool.eq_false_iff.mpr cw
      go_wp2
      go_roundg q
      case measure => omega
      case rel => exact ⟨4, 4, rfl, ⟨rfl⟩, ⟨by have := HQ.out; omega⟩, HF2, ⟨IP.of_heap HI.out ⟨rfl, rfl, rfl, rfl⟩⟩⟩
    ·obtain rfl : y = 4 := by have := HY.out; omega
     have hix : (Instr.index 76 (.agg #[.string ⟨#[116, 111, 110, 110, 101, 115]⟩, .string ⟨#[103, 114, 97, 100, 101]⟩, .string ⟨#[114, 111, 99, 107]⟩, .string ⟨#[108, 101, 118, 101, 108]⟩, .string ⟨#[109, 101, 116, 97, 108]⟩]) (.int .i64 4)).run Tryz.prog wr = .ok (.string ⟨#[109, 101, 116, 97, 108]⟩) wr := by kernel_rfl
     by_cases cw : ((nxt ws i f).toList == [109, 101, 116, 97, 108]) = true
     ·have hf : nameAt 5 (nxt ws i f) 0 = some 4 := by rw [HF.out]; unfold nameAt; rw [if_pos (by rw [show (fieldNames_.getD 4 ByteArray.empty).toList = [109, 101, 116, 97, 108] from lit_toList [109, 101, 116, 97, 108]]; exact cw)]
      have h := H'.out
      rw [hf] at h
      simp only [Option.some.injEq, Prod.mk.injEq] at h
      obtain ⟨rfl, rfl, rfl⟩ := h
      have HLT := am_ (nxt_lt cw (by simp)).2
      obtain ⟨HIS, hd2S, HOS⟩ := IP.step_full HI.out HLT.out HX.out hd2 HO.out
      clear hf
      go_wp2_with (first | ((with_reducible refine gate_builtin (b := .append) (xs := #[.tmp 41, .tmp 44]) rfl ?_); at_builtin; refine Kd.R_append k73 (w0 := w0) w0.heap.size rfl (.tmp 41) (.tmp 44) 23 73 (.agg #[(.int .i64 0), (.int .i64 0)]) 16 rfl Tryz.underlying23 ruInfoI rfl (by decide) (by omega) (.slice Ap out.length cp) out (⟨1, 4⟩ : S73) [.int .i64 (1), .int .i64 (4)] (fun _ => True) (fun _ => False) rfl (by first | (go_simp; done) | (go_simp; rfl)) ?aP (fun _ hk => hk.elim) ?aF ?aO ?aB ?aS ?aL ?_; (case aP => exact k73_mkM _ _ _ (⟨1, 4⟩ : S73)); (case aF => exact (fun _ _ => trivial)); (case aO => exact Kd.R_below HOS.out ⟨rfl, rfl, rfl, Nat.le_refl _, fun _ _ => rfl⟩); (case aB => exact below_step HIS.out.1.2.1 ⟨rfl, rfl, rfl, Nat.le_refl _, fun _ _ => rfl⟩); (case aS => exact Nat.le_trans HIS.out.1.2.1.size (Nat.le_refl _)); (case aL => have := HIS.out.2.1; have := HIS.out.2.2.1; have := HIS.out.2.2.2.1; omega); intro v1 w1 ho hb hg hat; obtain ⟨Ao, co, eo⟩ := Kd.R_slice ho; rw [List.length_append, List.length_singleton] at eo; subst eo; obtain ⟨hr_, he1, he2⟩ := IP.appended HIS.out hd2S hg ⟨rfl, rfl, rfl, rfl⟩ ho hb; replace HI := am_ hr_; clear hr_ ho hb hg hat))
      refine bodyPost_ret (results_none rfl _ _ _) rfl ?_
      exact ⟨rfl, HI.out⟩
     ·have HF2 := am_ (show nameAt 5 (nxt ws i f) 0 = nameAt q (nxt ws i f) 5 from by rw [HF.out]; conv => lhs; unfold nameAt; rw [if_neg (by rw [show (fieldNames_.getD 4 ByteArray.empty).toList = [109, 101, 116, 97, 108] from lit_toList [109, 101, 116, 97, 108]]; exact cw)])
      replace cw := Bool.eq_false_iff.mpr cw
      go_wp2
      go_roundg q
      case measure => omega
      case rel => exact ⟨5, 5, rfl, ⟨rfl⟩, ⟨by have := HQ.out; omega⟩, HF2, ⟨IP.of_heap HI.out ⟨rfl, rfl, rfl, rfl⟩⟩⟩
theorem iRule_calls (k : Nat) (ihS : RuI 52 (iSum k)) (ihR : RuI 34 (iRule k)) : RuI 34 (iRule (k + 1)) := by
 intro w0 w g ws m i out f j o f' hI h
 have HI := am_ hI
 simp only [iRule] at h
 have IS := am_ ihS
 have IR := am_ ihR
 clear ihS ihR hI
 obtain ⟨x, Aw, cw, Ap, cp, HX, hx0, hx1, hd0, hd1, hd2, hd3, hf1, hf2, hf3, HO⟩ := HI.out.read
 by_cases c1 : ((nxt ws i f).toList == [105, 102]) = true
 ·rw [if_pos c1] at h
  have c1' : ((nxt ws i f).toList != [105, 102]) = false := by simpa using c1
  obtain ⟨⟨j1, o1, f1⟩, e1, h⟩ := Option.bind_eq_some_iff.mp h
  have E1 := am_ e1
  have HLT := am_ (nxt_lt c1 (by simp)).2
  clear e1
  dsimp only at h
  obtain ⟨v, hv⟩ : ∃ v, v = nxt ws j1 f1 := ⟨_, rfl⟩
  obtain ⟨kn, hkn⟩ : ∃ kn : Int, kn = kindOf v := ⟨_, rfl⟩
  rw [← hv, ← hkn] at h
  have HV := am_ hv
  have HKN := am_ hkn
  have hk0 : kn ≤ 3 := by rw [hkn]; exact kindOf_le v
  have HIX := am_ (show strings_Index.f (⟨#[60, 61, 62]⟩ : ByteArray) v = some kn from by rw [hkn]; rfl)
  clear hv hkn
  by_cases cv : (v.toList == []) = true
  ·rw [if_pos cv] at h
   have cv2 : v.toList.isEmpty = true := by have := eq_of_beq cv; rw [this]; rfl
   have cv3 : v.toList = [] := eq_of_beq cv
   simp only [Option.some.injEq, Prod.mk.injEq] at h
   obtain ⟨rfl, rfl, rfl⟩ := h
   go_enter Tryz.func34, Tryz.ntmps34
   go_wp2_with (first | ((with_reducible refine gk_ 51 ?_); (try (refine gate_guard (by rfl) ?_; dsimp only)); refine gq_ 4 Tryz.func51 #[.pointer (some ⟨g, 0, none⟩)] ?_; (with_reducible refine (iNext w0 _ g ws m i out f ?sd).mono ?_); (case sd => exact IP.hh HI); rintro e w1 ⟨rfl, ⟨nq_, rfl⟩⟩; refine ⟨_, rfl, ?_⟩) | ((with_reducible refine gk_ 52 ?_); (try (refine gate_guard (by rfl) ?_; dsimp only)); refine gq_ 16 Tryz.func52 #[.pointer (some ⟨g, 0, none⟩)] ?_; refine (IS.out w0 _ g ws (m + 1) (i + 1) out f _ _ _ ?sd E1.out).mono ?_; (case sd => exact IP.step_ HI.out HLT.out HX.out ⟨rfl, rfl, rfl, rfl⟩); rintro e w1 ⟨rfl, hr_⟩; refine ⟨_, rfl, ?_⟩; clear hx0 hx1 hd0 hd1 hd2 hd3 hf1 hf2 hf3 HX HO; replace HI := am_ hr_; clear hr_; obtain ⟨x, Aw, cw, Ap, cp, HX, hx0, hx1, hd0, hd1, hd2, hd3, hf1, hf2, hf3, HO⟩ := HI.out.read) | ((with_reducible refine gk_ 51 ?_); (try (refine gate_guard (by rfl) ?_; dsimp only)); refine gq_ 18 Tryz.func51 #[.pointer (some ⟨g, 0, none⟩)] ?_; (with_reducible refine (iNext w0 _ g ws (m + 1) j1 o1 f1 ?sd).mono ?_); (case sd => exact IP.hh HI); rintro e w1 ⟨rfl, ⟨nq_, rfl⟩⟩; rw [← HV.out]; refine ⟨_, rfl, ?_⟩) | ((with_reducible refine gk_ 53 ?_); (try (refine gate_guard (by rfl) ?_; dsimp only)); refine gq_ 19 Tryz.func53 #[.string ⟨#[60, 61, 62]⟩, .string v] ?_; (with_reducible refine (strings_Index.calls (⟨#[60, 61, 62]⟩ : ByteArray) v kn _ HIX.out ?sl).mono ?_); (case sl => exact (IP.of_heap HI.out ⟨rfl, rfl, rfl, rfl⟩ : IP w0 _ g ws (m + 1) j1 o1 f1).1.2.2.below (below_step HI.out.1.2.1 ⟨rfl, rfl, rfl, Nat.le_refl _, fun _ _ => rfl⟩)); rintro e w1 ⟨rfl, ⟨nq_, rfl⟩⟩; refine ⟨_, rfl, ?_⟩) | ((with_reducible refine gk_ 51 ?_); (try (refine gate_guard (by rfl) ?_; dsimp only)); refine gq_ 21 Tryz.func51 #[.pointer (some ⟨g, 0, none⟩)] ?_; (with_reducible refine (iNext w0 _ g ws (m + 1) j1 o1 f1 ?sd).mono ?_); (case sd => exact IP.hh HI); rintro e w1 ⟨rfl, ⟨nq_, rfl⟩⟩; rw [← HV.out]; refine ⟨_, rfl, ?_⟩) | ((with_reducible refine gk_ 51 ?_); (try (refine gate_guard (by rfl) ?_; dsimp only)); refine gq_ 29 Tryz.func51 #[.pointer (some ⟨g, 0, none⟩)] ?_; (with_reducible refine (iNext w0 _ g ws (m + 1) j1 o1 f1 ?sd).mono ?_); (case sd => exact IP.hh HI); rintro e w1 ⟨rfl, ⟨nq_, rfl⟩⟩; rw [← HV.out]; refine ⟨_, rfl, ?_⟩))
   refine bodyPost_ret (results_none rfl _ _ _) rfl ?_
   exact ⟨rfl, IP.slacks (IP.fail_ HI.out ⟨rfl, rfl, rfl, rfl⟩) (by omega)⟩
  ·rw [if_neg cv] at h
   replace cv := Bool.eq_false_iff.mpr cv
   have cv2 : v.toList.isEmpty = false := by cases hl : v.toList with | nil => rw [hl] at cv; exact absurd cv (by decide) | cons a l => rfl
   by_cases ck : kn < 0
   ·rw [if_pos ck] at h
    have ck2 : decide (kn < 0) = true := decide_eq_true ck
    clear ck
    simp only [Option.some.injEq, Prod.mk.injEq] at h
    obtain ⟨rfl, rfl, rfl⟩ := h
    go_enter Tryz.func34, Tryz.ntmps34
    go_wp2_with (first | ((with_reducible refine gk_ 51 ?_); (try (refine gate_guard (by rfl) ?_; dsimp only)); refine gq_ 4 Tryz.func51 #[.pointer (some ⟨g, 0, none⟩)] ?_; (with_reducible refine (iNext w0 _ g ws m i out f ?sd).mono ?_); (case sd => exact IP.hh HI); rintro e w1 ⟨rfl, ⟨nq_, rfl⟩⟩; refine ⟨_, rfl, ?_⟩) | ((with_reducible refine gk_ 52 ?_); (try (refine gate_guard (by rfl) ?_; dsimp only)); refine gq_ 16 Tryz.func52 #[.pointer (some ⟨g, 0, none⟩)] ?_; refine (IS.out w0 _ g ws (m + 1) (i + 1) out f _ _ _ ?sd E1.out).mono ?_; (case sd => exact IP.step_ HI.out HLT.out HX.out ⟨rfl, rfl, rfl, rfl⟩); rintro e w1 ⟨rfl, hr_⟩; refine ⟨_, rfl, ?_⟩; clear hx0 hx1 hd0 hd1 hd2 hd3 hf1 hf2 hf3 HX HO; replace HI := am_ hr_; clear hr_; obtain ⟨x, Aw, cw, Ap, cp, HX, hx0, hx1, hd0, hd1, hd2, hd3, hf1, hf2, hf3, HO⟩ := HI.out.read) | ((with_reducible refine gk_ 51 ?_); (try (refine gate_guard (by rfl) ?_; dsimp only)); refine gq_ 18 Tryz.func51 #[.pointer (some ⟨g, 0, none⟩)] ?_; (with_reducible refine (iNext w0 _ g ws (m + 1) j1 o1 f1 ?sd).mono ?_); (case sd => exact IP.hh HI); rintro e w1 ⟨rfl, ⟨nq_, rfl⟩⟩; rw [← HV.out]; refine ⟨_, rfl, ?_⟩) | ((with_reducible refine gk_ 53 ?_); (try (refine gate_guard (by rfl) ?_; dsimp only)); refine gq_ 19 Tryz.func53 #[.string ⟨#[60, 61, 62]⟩, .string v] ?_; (with_reducible refine (strings_Index.calls (⟨#[60, 61, 62]⟩ : ByteArray) v kn _ HIX.out ?sl).mono ?_); (case sl => exact (IP.of_heap HI.out ⟨rfl, rfl, rfl, rfl⟩ : IP w0 _ g ws (m + 1) j1 o1 f1).1.2.2.below (below_step HI.out.1.2.1 ⟨rfl, rfl, rfl, Nat.le_refl _, fun _ _ => rfl⟩)); rintro e w1 ⟨rfl, ⟨nq_, rfl⟩⟩; refine ⟨_, rfl, ?_⟩) | ((with_reducible refine gk_ 51 ?_); (try (refine gate_guard (by rfl) ?_; dsimp only)); refine gq_ 21 Tryz.func51 #[.pointer (some ⟨g, 0, none⟩)] ?_; (with_reducible refine (iNext w0 _ g ws (m + 1) j1 o1 f1 ?sd).mono ?_); (case sd => exact IP.hh HI); rintro e w1 ⟨rfl, ⟨nq_, rfl⟩⟩; rw [← HV.out]; refine ⟨_, rfl, ?_⟩) | ((with_reducible refine gk_ 51 ?_); (try (refine gate_guard (by rfl) ?_; dsimp only)); refine gq_ 29 Tryz.func51 #[.pointer (some ⟨g, 0, none⟩)] ?_; (with_reducible refine (iNext w0 _ g ws (m + 1) j1 o1 f1 ?sd).mono ?_); (case sd => exact IP.hh HI); rintro e w1 ⟨rfl, ⟨nq_, rfl⟩⟩; rw [← HV.out]; refine ⟨_, rfl, ?_⟩))
    refine bodyPost_ret (results_none rfl _ _ _) rfl ?_
    exact ⟨rfl, IP.slacks (IP.fail_ HI.out ⟨rfl, rfl, rfl, rfl⟩) (by omega)⟩
   ·rw [if_neg ck] at h
    have ck2 : decide (kn < 0) = false := decide_eq_false ck
    have hk1 : 0 ≤ kn := by omega
    clear ck
    by_cases cs : v.size = 1
    ·rw [if_pos cs] at h
     have cs2 : ((v.size : Int) != 1) = false := by rw [cs]; rfl
     have cs3 : (v.size != 1) = false := by rw [cs]; rfl
     have CS := am_ cs
     clear cs
     have HLT2 := am_ (nxt_lt (ws := ws) (i := j1) (f := f1) (l := v.toList) (by rw [← HV.out]; simp) (by intro h0; rw [h0] at cv; exact absurd cv (by decide))).2
     obtain ⟨⟨j2, o2, f2⟩, e2, h⟩ := Option.bind_eq_some_iff.mp h
     have E2 := am_ e2
     clear e2
     dsimp only at h
     by_cases c3 : ((nxt ws j2 f2).toList == [116, 104, 101, 110]) = true
     ·obtain ⟨rfl, _⟩ := nxt_lt c3 (by simp)
      simp only [iTk, if_pos c3] at h
      rw [if_neg (by simp)] at h
      have C3 := am_ c3
      clear c3
      obtain ⟨⟨j3, o3, f3⟩, e3, h⟩ := Option.bind_eq_some_iff.mp h
      have E3 := am_ e3
      clear e3
      dsimp only at h
      by_cases c4 : ((nxt ws j3 f3).toList == [101, 108, 115, 101]) = true
      ·obtain ⟨rfl, _⟩ := nxt_lt c4 (by simp)
       simp only [if_pos c4] at h
       rw [if_neg (by simp)] at h
       have C4 := am_ c4
       clear c4
       obtain ⟨⟨j4, o4, f4⟩, e4, h⟩ := Option.bind_eq_some_iff.mp h
       have E4 := am_ e4
       clear e4
       dsimp only at h
       simp only [Option.some.injEq, Prod.mk.injEq] at h
       obtain ⟨rfl, rfl, rfl⟩ := h
       go_enter Tryz.func34, Tryz.ntmps34
       go_wp2_with (first | ((with_reducible refine gk_ 51 ?_); (try (refine gate_guard (by rfl) ?_; dsimp only)); refine gq_ 4 Tryz.func51 #[.pointer (some ⟨g, 0, none⟩)] ?_; (with_reducible refine (iNext w0 _ g ws m i out f ?sd).mono ?_); (case sd => exact IP.hh HI); rintro e w1 ⟨rfl, ⟨nq_, rfl⟩⟩; refine ⟨_, rfl, ?_⟩) | ((with_reducible refine gk_ 52 ?_); (try (refine gate_guard (by rfl) ?_; dsimp only)); refine gq_ 16 Tryz.func52 #[.pointer (some ⟨g, 0, none⟩)] ?_; refine (IS.out w0 _ g ws (m + 1) (i + 1) out f _ _ _ ?sd E1.out).mono ?_; (case sd => exact IP.step_ HI.out HLT.out HX.out ⟨rfl, rfl, rfl, rfl⟩); rintro e w1 ⟨rfl, hr_⟩; refine ⟨_, rfl, ?_⟩; clear hx0 hx1 hd0 hd1 hd2 hd3 hf1 hf2 hf3 HX HO; replace HI := am_ hr_; clear hr_; obtain ⟨x, Aw, cw, Ap, cp, HX, hx0, hx1, hd0, hd1, hd2, hd3, hf1, hf2, hf3, HO⟩ := HI.out.read) | ((with_reducible refine gk_ 51 ?_); (try (refine gate_guard (by rfl) ?_; dsimp only)); refine gq_ 18 Tryz.func51 #[.pointer (some ⟨g, 0, none⟩)] ?_; (with_reducible refine (iNext w0 _ g ws (m + 1) j1 o1 f1 ?sd).mono ?_); (case sd => exact IP.hh HI); rintro e w1 ⟨rfl, ⟨nq_, rfl⟩⟩; rw [← HV.out]; refine ⟨_, rfl, ?_⟩) | ((with_reducible refine gk_ 53 ?_); (try (refine gate_guard (by rfl) ?_; dsimp only)); refine gq_ 19 Tryz.func53 #[.string ⟨#[60, 61, 62]⟩, .string v] ?_; (with_reducible refine (strings_Index.calls (⟨#[60, 61, 62]⟩ : ByteArray) v kn _ HIX.out ?sl).mono ?_); (case sl => exact (IP.of_heap HI.out ⟨rfl, rfl, rfl, rfl⟩ : IP w0 _ g ws (m + 1) j1 o1 f1).1.2.2.below (below_step HI.out.1.2.1 ⟨rfl, rfl, rfl, Nat.le_refl _, fun _ _ => rfl⟩)); rintro e w1 ⟨rfl, ⟨nq_, rfl⟩⟩; refine ⟨_, rfl, ?_⟩) | ((with_reducible refine gk_ 51 ?_); (try (refine gate_guard (by rfl) ?_; dsimp only)); refine gq_ 21 Tryz.func51 #[.pointer (some ⟨g, 0, none⟩)] ?_; (with_reducible refine (iNext w0 _ g ws (m + 1) j1 o1 f1 ?sd).mono ?_); (case sd => exact IP.hh HI); rintro e w1 ⟨rfl, ⟨nq_, rfl⟩⟩; rw [← HV.out]; refine ⟨_, rfl, ?_⟩) | ((with_reducible refine gk_ 51 ?_); (try (refine gate_guard (by rfl) ?_; dsimp only)); refine gq_ 29 Tryz.func51 #[.pointer (some ⟨g, 0, none⟩)] ?_; (with_reducible refine (iNext w0 _ g ws (m + 1) j1 o1 f1 ?sd).mono ?_); (case sd => exact IP.hh HI); rintro e w1 ⟨rfl, ⟨nq_, rfl⟩⟩; rw [← HV.out]; refine ⟨_, rfl, ?_⟩) | ((with_reducible refine gk_ 52 ?_); (try (refine gate_guard (by rfl) ?_; dsimp only)); refine gq_ 44 Tryz.func52 #[.pointer (some ⟨g, 0, none⟩)] ?_; refine (IS.out w0 _ g ws (m + 2) (j1 + 1) o1 f1 _ _ _ ?sd E2.out).mono ?_; (case sd => exact IP.step_ HI.out HLT2.out HX.out ⟨rfl, rfl, rfl, rfl⟩); rintro e w1 ⟨rfl, hr_⟩; refine ⟨_, rfl, ?_⟩; clear hx0 hx1 hd0 hd1 hd2 hd3 hf1 hf2 hf3 HX HO; replace HI := am_ hr_; clear hr_; obtain ⟨x, Aw, cw, Ap, cp, HX, hx0, hx1, hd0, hd1, hd2, hd3, hf1, hf2, hf3, HO⟩ := HI.out.read) | ((with_reducible refine gk_ 54 ?_); (try (refine gate_guard (by rfl) ?_; dsimp only)); refine gq_ 46 Tryz.func54 #[.pointer (some ⟨g, 0, none⟩), .string ⟨#[116, 104, 101, 110]⟩] ?_; (with_reducible refine (iTakeT w0 _ g ws (m + 2) j2 o2 false (⟨#[116, 104, 101, 110]⟩ : ByteArray) ?sd ?se ?sn).mono ?_); (case sd => exact IP.hh HI); (case se => rw [lit_toList [116, 104, 101, 110]]; exact C3.out); (case sn => rw [lit_toList [116, 104, 101, 110]]; simp); rintro e w1 ⟨rfl, hr_⟩; refine ⟨_, rfl, ?_⟩; clear hx0 hx1 hd0 hd1 hd2 hd3 hf1 hf2 hf3 HX HO; replace HI := am_ hr_; clear hr_; obtain ⟨x, Aw, cw, Ap, cp, HX, hx0, hx1, hd0, hd1, hd2, hd3, hf1, hf2, hf3, HO⟩ := HI.out.read) | ((with_reducible refine gk_ 34 ?_); (try (refine gate_guard (by rfl) ?_; dsimp only)); refine gq_ 52 Tryz.func34 #[.pointer (some ⟨g, 0, none⟩)] ?_; refine (IR.out w0 _ g ws (m + 3) (j2 + 1) o2 false _ _ _ ?sd E3.out).mono ?_; (case sd => exact IP.hh HI); rintro e w1 ⟨rfl, hr_⟩; refine ⟨_, rfl, ?_⟩; clear hx0 hx1 hd0 hd1 hd2 hd3 hf1 hf2 hf3 HX HO; replace HI := am_ hr_; clear hr_; obtain ⟨x, Aw, cw, Ap, cp, HX, hx0, hx1, hd0, hd1, hd2, hd3, hf1, hf2, hf3, HO⟩ := HI.out.read) | ((with_reducible refine gk_ 54 ?_); (try (refine gate_guard (by rfl) ?_; dsimp only)); refine gq_ 54 Tryz.func54 #[.pointer (some ⟨g, 0, none⟩), .string ⟨#[101, 108, 115, 101]⟩] ?_; (with_reducible refine (iTakeT w0 _ g ws (m + 3) j3 o3 false (⟨#[101, 108, 115, 101]⟩ : ByteArray) ?sd ?se ?sn).mono ?_); (case sd => exact IP.hh HI); (case se => rw [lit_toList [101, 108, 115, 101]]; exact C4.out); (case sn => rw [lit_toList [101, 108, 115, 101]]; simp); rintro e w1 ⟨rfl, hr_⟩; refine ⟨_, rfl, ?_⟩; clear hx0 hx1 hd0 hd1 hd2 hd3 hf1 hf2 hf3 HX HO; replace HI := am_ hr_; clear hr_; obtain ⟨x, Aw, cw, Ap, cp, HX, hx0, hx1, hd0, hd1, hd2, hd3, hf1, hf2, hf3, HO⟩ := HI.out.read) | ((with_reducible refine gk_ 34 ?_); (try (refine gate_guard (by rfl) ?_; dsimp only)); refine gq_ 60 Tryz.func34 #[.pointer (some ⟨g, 0, none⟩)] ?_; refine (IR.out w0 _ g ws (m + 4) (j3 + 1) o3 false _ _ _ ?sd E4.out).mono ?_; (case sd => exact IP.hh HI); rintro e w1 ⟨rfl, hr_⟩; refine ⟨_, rfl, ?_⟩; clear hx0 hx1 hd0 hd1 hd2 hd3 hf1 hf2 hf3 HX HO; replace HI := am_ hr_; clear hr_; obtain ⟨x, Aw, cw, Ap, cp, HX, hx0, hx1, hd0, hd1, hd2, hd3, hf1, hf2, hf3, HO⟩ := HI.out.read) | ((with_reducible refine gate_builtin (b := .append) (xs := #[.tmp 65, .tmp 69]) rfl ?_); at_builtin; refine Kd.R_append k73 (w0 := w0) w0.heap.size rfl (.tmp 65) (.tmp 69) 23 73 (.agg #[(.int .i64 0), (.int .i64 0)]) 16 rfl Tryz.underlying23 ruInfoI rfl (by decide) (by omega) (.slice Ap o4.length cp) o4 (⟨6 + kn, 0⟩ : S73) [.int .i64 (6 + kn), .int .i64 (0)] (fun _ => True) (fun _ => False) rfl (by first | (go_simp; done) | (go_simp; rfl)) ?aP (fun _ hk => hk.elim) ?aF ?aO ?aB ?aS ?aL ?_; (case aP => exact k73_mkM _ _ _ (⟨6 + kn, 0⟩ : S73)); (case aF => exact (fun _ _ => trivial)); (case aO => exact Kd.R_below HO.out ⟨rfl, rfl, rfl, Nat.le_refl _, fun _ _ => rfl⟩); (case aB => exact below_step HI.out.1.2.1 ⟨rfl, rfl, rfl, Nat.le_refl _, fun _ _ => rfl⟩); (case aS => exact Nat.le_trans HI.out.1.2.1.size (Nat.le_refl _)); (case aL => have := HI.out.2.1; have := HI.out.2.2.1; have := HI.out.2.2.2.1; omega); intro v1 w1 ho hb hg hat; obtain ⟨Ao, co, eo⟩ := Kd.R_slice ho; rw [List.length_append, List.length_singleton] at eo; subst eo; obtain ⟨hr_, he1, he2⟩ := IP.appended HI.out hd2 hg ⟨rfl, rfl, rfl, rfl⟩ ho hb; replace HI := am_ hr_; clear hr_ ho hb hg hat))
       go_end0
       exact ⟨rfl, IP.slacks (IP.of_heap HI.out ⟨rfl, rfl, rfl, rfl⟩) (by omega)⟩
      ·simp only [if_neg c4] at h
       first | rw [if_pos rfl] at h | rw [if_pos trivial] at h
       have C4 := am_ (Bool.eq_false_iff.mpr c4)
       clear c4
       simp only [Option.some.injEq, Prod.mk.injEq] at h
       obtain ⟨rfl, rfl, rfl⟩ := h
       go_enter Tryz.func34, Tryz.ntmps34
       go_wp2_with (first | ((with_reducible refine gk_ 51 ?_); (try (refine gate_guard (by rfl) ?_; dsimp only)); refine gq_ 4 Tryz.func51 #[.pointer (some ⟨g, 0, none⟩)] ?_; (with_reducible refine (iNext w0 _ g ws m i out f ?sd).mono ?_); (case sd => exact IP.hh HI); rintro e w1 ⟨rfl, ⟨nq_, rfl⟩⟩; refine ⟨_, rfl, ?_⟩) | ((with_reducible refine gk_ 52 ?_); (try (refine gate_guard (by rfl) ?_; dsimp only)); refine gq_ 16 Tryz.func52 #[.pointer (some ⟨g, 0, none⟩)] ?_; refine (IS.out w0 _ g ws (m + 1) (i + 1) out f _ _ _ ?sd E1.out).mono ?_; (case sd => exact IP.step_ HI.out HLT.out HX.out ⟨rfl, rfl, rfl, rfl⟩); rintro e w1 ⟨rfl, hr_⟩; refine ⟨_, rfl, ?_⟩; clear hx0 hx1 hd0 hd1 hd2 hd3 hf1 hf2 hf3 HX HO; replace HI := am_ hr_; clear hr_; obtain ⟨x, Aw, cw, Ap, cp, HX, hx0, hx1, hd0, hd1, hd2, hd3, hf1, hf2, hf3, HO⟩ := HI.out.read) | ((with_reducible refine gk_ 51 ?_); (try (refine gate_guard (by rfl) ?_; dsimp only)); refine gq_ 18 Tryz.func51 #[.pointer (some ⟨g, 0, none⟩)] ?_; (with_reducible refine (iNext w0 _ g ws (m + 1) j1 o1 f1 ?sd).mono ?_); (case sd => exact IP.hh HI); rintro e w1 ⟨rfl, ⟨nq_, rfl⟩⟩; rw [← HV.out]; refine ⟨_, rfl, ?_⟩) | ((with_reducible refine gk_ 53 ?_); (try (refine gate_guard (by rfl) ?_; dsimp only)); refine gq_ 19 Tryz.func53 #[.string ⟨#[60, 61, 62]⟩, .string v] ?_; (with_reducible refine (strings_Index.calls (⟨#[60, 61, 62]⟩ : ByteArray) v kn _ HIX.out ?sl).mono ?_); (case sl => exact (IP.of_heap HI.out ⟨rfl, rfl, rfl, rfl⟩ : IP w0 _ g ws (m + 1) j1 o1 f1).1.2.2.below (below_step HI.out.1.2.1 ⟨rfl, rfl, rfl, Nat.le_refl _, fun _ _ => rfl⟩)); rintro e w1 ⟨rfl, ⟨nq_, rfl⟩⟩; refine ⟨_, rfl, ?_⟩) | ((with_reducible refine gk_ 51 ?_); (try (refine gate_guard (by rfl) ?_; dsimp only)); refine gq_ 21 Tryz.func51 #[.pointer (some ⟨g, 0, none⟩)] ?_; (with_reducible refine (iNext w0 _ g ws (m + 1) j1 o1 f1 ?sd).mono ?_); (case sd => exact IP.hh HI); rintro e w1 ⟨rfl, ⟨nq_, rfl⟩⟩; rw [← HV.out]; refine ⟨_, rfl, ?_⟩) | ((with_reducible refine gk_ 51 ?_); (try (refine gate_guard (by rfl) ?_; dsimp only)); refine gq_ 29 Tryz.func51 #[.pointer (some ⟨g, 0, none⟩)] ?_; (with_reducible refine (iNext w0 _ g ws (m + 1) j1 o1 f1 ?sd).mono ?_); (case sd => exact IP.hh HI); rintro e w1 ⟨rfl, ⟨nq_, rfl⟩⟩; rw [← HV.out]; refine ⟨_, rfl, ?_⟩) | ((with_reducible refine gk_ 52 ?_); (try (refine gate_guard (by rfl) ?_; dsimp only)); refine gq_ 44 Tryz.func52 #[.pointer (some ⟨g, 0, none⟩)] ?_; refine (IS.out w0 _ g ws (m + 2) (j1 + 1) o1 f1 _ _ _ ?sd E2.out).mono ?_; (case sd => exact IP.step_ HI.out HLT2.out HX.out ⟨rfl, rfl, rfl, rfl⟩); rintro e w1 ⟨rfl, hr_⟩; refine ⟨_, rfl, ?_⟩; clear hx0 hx1 hd0 hd1 hd2 hd3 hf1 hf2 hf3 HX HO; replace HI := am_ hr_; clear hr_; obtain ⟨x, Aw, cw, Ap, cp, HX, hx0, hx1, hd0, hd1, hd2, hd3, hf1, hf2, hf3, HO⟩ := HI.out.read) | ((with_reducible refine gk_ 54 ?_); (try (refine gate_guard (by rfl) ?_; dsimp only)); refine gq_ 46 Tryz.func54 #[.pointer (some ⟨g, 0, none⟩), .string ⟨#[116, 104, 101, 110]⟩] ?_; (with_reducible refine (iTakeT w0 _ g ws (m + 2) j2 o2 false (⟨#[116, 104, 101, 110]⟩ : ByteArray) ?sd ?se ?sn).mono ?_); (case sd => exact IP.hh HI); (case se => rw [lit_toList [116, 104, 101, 110]]; exact C3.out); (case sn => rw [lit_toList [116, 104, 101, 110]]; simp); rintro e w1 ⟨rfl, hr_⟩; refine ⟨_, rfl, ?_⟩; clear hx0 hx1 hd0 hd1 hd2 hd3 hf1 hf2 hf3 HX HO; replace HI := am_ hr_; clear hr_; obtain ⟨x, Aw, cw, Ap, cp, HX, hx0, hx1, hd0, hd1, hd2, hd3, hf1, hf2, hf3, HO⟩ := HI.out.read) | ((with_reducible refine gk_ 34 ?_); (try (refine gate_guard (by rfl) ?_; dsimp only)); refine gq_ 52 Tryz.func34 #[.pointer (some ⟨g, 0, none⟩)] ?_; refine (IR.out w0 _ g ws (m + 3) (j2 + 1) o2 false _ _ _ ?sd E3.out).mono ?_; (case sd => exact IP.hh HI); rintro e w1 ⟨rfl, hr_⟩; refine ⟨_, rfl, ?_⟩; clear hx0 hx1 hd0 hd1 hd2 hd3 hf1 hf2 hf3 HX HO; replace HI := am_ hr_; clear hr_; obtain ⟨x, Aw, cw, Ap, cp, HX, hx0, hx1, hd0, hd1, hd2, hd3, hf1, hf2, hf3, HO⟩ := HI.out.read) | ((with_reducible refine gk_ 54 ?_); (try (refine gate_guard (by rfl) ?_; dsimp only)); refine gq_ 54 Tryz.func54 #[.pointer (some ⟨g, 0, none⟩), .string ⟨#[101, 108, 115, 101]⟩] ?_; (with_reducible refine (iTakeF w0 _ g ws (m + 3) j3 o3 f3 (⟨#[101, 108, 115, 101]⟩ : ByteArray) ?sd ?se).mono ?_); (case sd => exact IP.hh HI); (case se => rw [lit_toList [101, 108, 115, 101]]; exact C4.out); rintro e w1 ⟨rfl, hr_⟩; refine ⟨_, rfl, ?_⟩; clear hx0 hx1 hd0 hd1 hd2 hd3 hf1 hf2 hf3 HX HO; replace HI := am_ hr_; clear hr_; obtain ⟨x, Aw, cw, Ap, cp, HX, hx0, hx1, hd0, hd1, hd2, hd3, hf1, hf2, hf3, HO⟩ := HI.out.read))
       refine bodyPost_ret (results_none rfl _ _ _) rfl ?_
       exact ⟨rfl, IP.slacks (IP.of_heap HI.out ⟨rfl, rfl, rfl, rfl⟩) (by omega)⟩
     ·simp only [iTk, if_neg c3] at h
      first | rw [if_pos rfl] at h | rw [if_pos trivial] at h
      have C3 := am_ (Bool.eq_false_iff.mpr c3)
      clear c3
      simp only [Option.some.injEq, Prod.mk.injEq] at h
      obtain ⟨rfl, rfl, rfl⟩ := h
      go_enter Tryz.func34, Tryz.ntmps34
      go_wp2_with (first | ((with_reducible refine gk_ 51 ?_); (try (refine gate_guard (by rfl) ?_; dsimp only)); refine gq_ 4 Tryz.func51 #[.pointer (some ⟨g, 0, none⟩)] ?_; (with_reducible refine (iNext w0 _ g ws m i out f ?sd).mono ?_); (case sd => exact IP.hh HI); rintro e w1 ⟨rfl, ⟨nq_, rfl⟩⟩; refine ⟨_, rfl, ?_⟩) | ((with_reducible refine gk_ 52 ?_); (try (refine gate_guard (by rfl) ?_; dsimp only)); refine gq_ 16 Tryz.func52 #[.pointer (some ⟨g, 0, none⟩)] ?_; refine (IS.out w0 _ g ws (m + 1) (i + 1) out f _ _ _ ?sd E1.out).mono ?_; (case sd => exact IP.step_ HI.out HLT.out HX.out ⟨rfl, rfl, rfl, rfl⟩); rintro e w1 ⟨rfl, hr_⟩; refine ⟨_, rfl, ?_⟩; clear hx0 hx1 hd0 hd1 hd2 hd3 hf1 hf2 hf3 HX HO; replace HI := am_ hr_; clear hr_; obtain ⟨x, Aw, cw, Ap, cp, HX, hx0, hx1, hd0, hd1, hd2, hd3, hf1, hf2, hf3, HO⟩ := HI.out.read) | ((with_reducible refine gk_ 51 ?_); (try (refine gate_guard (by rfl) ?_; dsimp only)); refine gq_ 18 Tryz.func51 #[.pointer (some ⟨g, 0, none⟩)] ?_; (with_reducible refine (iNext w0 _ g ws (m + 1) j1 o1 f1 ?sd).mono ?_); (case sd => exact IP.hh HI); rintro e w1 ⟨rfl, ⟨nq_, rfl⟩⟩; rw [← HV.out]; refine ⟨_, rfl, ?_⟩) | ((with_reducible refine gk_ 53 ?_); (try (refine gate_guard (by rfl) ?_; dsimp only)); refine gq_ 19 Tryz.func53 #[.string ⟨#[60, 61, 62]⟩, .string v] ?_; (with_reducible refine (strings_Index.calls (⟨#[60, 61, 62]⟩ : ByteArray) v kn _ HIX.out ?sl).mono ?_); (case sl => exact (IP.of_heap HI.out ⟨rfl, rfl, rfl, rfl⟩ : IP w0 _ g ws (m + 1) j1 o1 f1).1.2.2.below (below_step HI.out.1.2.1 ⟨rfl, rfl, rfl, Nat.le_refl _, fun _ _ => rfl⟩)); rintro e w1 ⟨rfl, ⟨nq_, rfl⟩⟩; refine ⟨_, rfl, ?_⟩) | ((with_reducible refine gk_ 51 ?_); (try (refine gate_guard (by rfl) ?_; dsimp only)); refine gq_ 21 Tryz.func51 #[.pointer (some ⟨g, 0, none⟩)] ?_; (with_reducible refine (iNext w0 _ g ws (m + 1) j1 o1 f1 ?sd).mono ?_); (case sd => exact IP.hh HI); rintro e w1 ⟨rfl, ⟨nq_, rfl⟩⟩; rw [← HV.out]; refine ⟨_, rfl, ?_⟩) | ((with_reducible refine gk_ 51 ?_); (try (refine gate_guard (by rfl) ?_; dsimp only)); refine gq_ 29 Tryz.func51 #[.pointer (some ⟨g, 0, none⟩)] ?_; (with_reducible refine (iNext w0 _ g ws (m + 1) j1 o1 f1 ?sd).mono ?_); (case sd => exact IP.hh HI); rintro e w1 ⟨rfl, ⟨nq_, rfl⟩⟩; rw [← HV.out]; refine ⟨_, rfl, ?_⟩) | ((with_reducible refine gk_ 52 ?_); (try (refine gate_guard (by rfl) ?_; dsimp only)); refine gq_ 44 Tryz.func52 #[.pointer (some ⟨g, 0, none⟩)] ?_; refine (IS.out w0 _ g ws (m + 2) (j1 + 1) o1 f1 _ _ _ ?sd E2.out).mono ?_; (case sd => exact IP.step_ HI.out HLT2.out HX.out ⟨rfl, rfl, rfl, rfl⟩); rintro e w1 ⟨rfl, hr_⟩; refine ⟨_, rfl, ?_⟩; clear hx0 hx1 hd0 hd1 hd2 hd3 hf1 hf2 hf3 HX HO; replace HI := am_ hr_; clear hr_; obtain ⟨x, Aw, cw, Ap, cp, HX, hx0, hx1, hd0, hd1, hd2, hd3, hf1, hf2, hf3, HO⟩ := HI.out.read) | ((with_reducible refine gk_ 54 ?_); (try (refine gate_guard (by rfl) ?_; dsimp only)); refine gq_ 46 Tryz.func54 #[.pointer (some ⟨g, 0, none⟩), .string ⟨#[116, 104, 101, 110]⟩] ?_; (with_reducible refine (iTakeF w0 _ g ws (m + 2) j2 o2 f2 (⟨#[116, 104, 101, 110]⟩ : ByteArray) ?sd ?se).mono ?_); (case sd => exact IP.hh HI); (case se => rw [lit_toList [116, 104, 101, 110]]; exact C3.out); rintro e w1 ⟨rfl, hr_⟩; refine ⟨_, rfl, ?_⟩; clear hx0 hx1 hd0 hd1 hd2 hd3 hf1 hf2 hf3 HX HO; replace HI := am_ hr_; clear hr_; obtain ⟨x, Aw, cw, Ap, cp, HX, hx0, hx1, hd0, hd1, hd2, hd3, hf1, hf2, hf3, HO⟩ := HI.out.read))
      refine bodyPost_ret (results_none rfl _ _ _) rfl ?_
      exact ⟨rfl, IP.slacks (IP.of_heap HI.out ⟨rfl, rfl, rfl, rfl⟩) (by omega)⟩
    ·rw [if_neg cs] at h
     have cs2 : ((v.size : Int) != 1) = true := by simp; omega
     have cs3 : (v.size != 1) = true := by simpa using cs
     clear cs
     simp only [Option.some.injEq, Prod.mk.injEq] at h
     obtain ⟨rfl, rfl, rfl⟩ := h
     go_enter Tryz.func34, Tryz.ntmps34
     go_wp2_with (first | ((with_reducible refine gk_ 51 ?_); (try (refine gate_guard (by rfl) ?_; dsimp only)); refine gq_ 4 Tryz.func51 #[.pointer (some ⟨g, 0, none⟩)] ?_; (with_reducible refine (iNext w0 _ g ws m i out f ?sd).mono ?_); (case sd => exact IP.hh HI); rintro e w1 ⟨rfl, ⟨nq_, rfl⟩⟩; refine ⟨_, rfl, ?_⟩) | ((with_reducible refine gk_ 52 ?_); (try (refine gate_guard (by rfl) ?_; dsimp only)); refine gq_ 16 Tryz.func52 #[.pointer (some ⟨g, 0, none⟩)] ?_; refine (IS.out w0 _ g ws (m + 1) (i + 1) out f _ _ _ ?sd E1.out).mono ?_; (case sd => exact IP.step_ HI.out HLT.out HX.out ⟨rfl, rfl, rfl, rfl⟩); rintro e w1 ⟨rfl, hr_⟩; refine ⟨_, rfl, ?_⟩; clear hx0 hx1 hd0 hd1 hd2 hd3 hf1 hf2 hf3 HX HO; replace HI := am_ hr_; clear hr_; obtain ⟨x, Aw, cw, Ap, cp, HX, hx0, hx1, hd0, hd1, hd2, hd3, hf1, hf2, hf3, HO⟩ := HI.out.read) | ((with_reducible refine gk_ 51 ?_); (try (refine gate_guard (by rfl) ?_; dsimp only)); refine gq_ 18 Tryz.func51 #[.pointer (some ⟨g, 0, none⟩)] ?_; (with_reducible refine (iNext w0 _ g ws (m + 1) j1 o1 f1 ?sd).mono ?_); (case sd => exact IP.hh HI); rintro e w1 ⟨rfl, ⟨nq_, rfl⟩⟩; rw [← HV.out]; refine ⟨_, rfl, ?_⟩) | ((with_reducible refine gk_ 53 ?_); (try (refine gate_guard (by rfl) ?_; dsimp only)); refine gq_ 19 Tryz.func53 #[.string ⟨#[60, 61, 62]⟩, .string v] ?_; (with_reducible refine (strings_Index.calls (⟨#[60, 61, 62]⟩ : ByteArray) v kn _ HIX.out ?sl).mono ?_); (case sl => exact (IP.of_heap HI.out ⟨rfl, rfl, rfl, rfl⟩ : IP w0 _ g ws (m + 1) j1 o1 f1).1.2.2.below (below_step HI.out.1.2.1 ⟨rfl, rfl, rfl, Nat.le_refl _, fun _ _ => rfl⟩)); rintro e w1 ⟨rfl, ⟨nq_, rfl⟩⟩; refine ⟨_, rfl, ?_⟩) | ((with_reducible refine gk_ 51 ?_); (try (refine gate_guard (by rfl) ?_; dsimp only)); refine gq_ 21 Tryz.func51 #[.pointer (some ⟨g, 0, none⟩)] ?_; (with_reducible refine (iNext w0 _ g ws (m + 1) j1 o1 f1 ?sd).mono ?_); (case sd => exact IP.hh HI); rintro e w1 ⟨rfl, ⟨nq_, rfl⟩⟩; rw [← HV.out]; refine ⟨_, rfl, ?_⟩) | ((with_reducible refine gk_ 51 ?_); (try (refine gate_guard (by rfl) ?_; dsimp only)); refine gq_ 29 Tryz.func51 #[.pointer (some ⟨g, 0, none⟩)] ?_; (with_reducible refine (iNext w0 _ g ws (m + 1) j1 o1 f1 ?sd).mono ?_); (case sd => exact IP.hh HI); rintro e w1 ⟨rfl, ⟨nq_, rfl⟩⟩; rw [← HV.out]; refine ⟨_, rfl, ?_⟩))
     refine bodyPost_ret (results_none rfl _ _ _) rfl ?_
     exact ⟨rfl, IP.slacks (IP.fail_ HI.out ⟨rfl, rfl, rfl, rfl⟩) (by omega)⟩
 ·rw [if_neg c1] at h
  replace c1 := Bool.eq_false_iff.mpr c1
  have c1' : ((nxt ws i f).toList != [105, 102]) = true := by simpa using c1
  have E1 := am_ h
  clear h IR
  go_enter Tryz.func34, Tryz.ntmps34
  go_wp2_with (first | ((with_reducible refine gk_ 51 ?_); (try (refine gate_guard (by rfl) ?_; dsimp only)); refine gq_ 4 Tryz.func51 #[.pointer (some ⟨g, 0, none⟩)] ?_; (with_reducible refine (iNext w0 _ g ws m i out f ?sd).mono ?_); (case sd => exact IP.hh HI); rintro e w1 ⟨rfl, ⟨nq_, rfl⟩⟩; refine ⟨_, rfl, ?_⟩) | ((with_reducible refine gk_ 52 ?_); (try (refine gate_guard (by rfl) ?_; dsimp only)); refine gq_ 7 Tryz.func52 #[.pointer (some ⟨g, 0, none⟩)] ?_; refine (IS.out w0 _ g ws m i out f _ _ _ ?sd E1.out).mono ?_; (case sd => exact IP.hh HI); rintro e w1 ⟨rfl, hr_⟩; refine ⟨_, rfl, ?_⟩; clear hx0 hx1 hd0 hd1 hd2 hd3 hf1 hf2 hf3 HX HO; replace HI := am_ hr_; clear hr_; obtain ⟨x, Aw, cw, Ap, cp, HX, hx0, hx1, hd0, hd1, hd2, hd3, hf1, hf2, hf3, HO⟩ := HI.out.read))
  refine bodyPost_ret (results_none rfl _ _ _) rfl ?_
  exact ⟨rfl, IP.of_heap HI.out ⟨rfl, rfl, rfl, rfl⟩⟩
theorem RuI_zero (f : Nat) {F : List ByteArray → Nat → List S73 → Bool → Option (Nat × List S73 × Bool)} (h : ∀ ws i out b, F ws i out b = none) : RuI f F := by
 intro w0 w g ws m i out b j o b' _ e
 rw [h] at e
 cases e
theorem iAll (k : Nat) : ∀ q, q ≤ k → RuI 79 (iAtom q) ∧ RuI 70 (iProd q) ∧ RuI 52 (iSum q) ∧ RuI 34 (iRule q) := by
 induction k with
 | zero =>
  intro q hq
  obtain rfl : q = 0 := by omega
  exact ⟨RuI_zero _ (fun _ _ _ _ => by simp [iAtom]), RuI_zero _ (fun _ _ _ _ => by simp [iProd]), RuI_zero _ (fun _ _ _ _ => by simp [iSum]), RuI_zero _ (fun _ _ _ _ => by simp [iRule])⟩
 | succ k ih =>
  intro q hq
  rcases Nat.lt_or_ge q (k + 1) with h | h
  ·exact ih q (by omega)
  ·obtain rfl : q = k + 1 := by omega
   exact ⟨iAtom_calls k (ih k (Nat.le_refl k)).2.2.2, iProd_calls k (fun q hq => (ih q hq).1), iSum_calls k (fun q hq => (ih q hq).2.1), iRule_calls k (ih k (Nat.le_refl k)).2.2.1 (ih k (Nat.le_refl k)).2.2.2⟩
/-- The words of a text, and what the reader comes to. -/
def iRun (k : Nat) (s : ByteArray) : Option (List ByteArray × Nat × List S73 × Bool) :=
 (strings_Split.f s ⟨#[32]⟩).bind fun ws => if ws.length ≤ 1000 then (iRule k ws 0 [] false).bind fun r => some (ws, r) else none
theorem IP.start {w w1 : World} {ws : List ByteArray} {A : Option Addr} {c : Nat} (ho : Kd.R Kd.string 9 w1 w.heap.size (fun _ => True) (.slice A ws.length c) ws) (hb : Below w.heap.size w w1) (hw : ws.length ≤ 1000) (hL : LaidW w) :
  IP w (w1.alloc (.cells #[.slice A ws.length c, .int .i64 0, .slice none 0 0, .bool false] 57 (0, 0))) w1.heap.size ws 0 0 [] false :=
 ⟨⟨hb.size, below_alloc hb _, hL⟩, hw, Nat.zero_le _, Nat.zero_le _, _, _, Array.getElem?_push_size, Kd.R_alloc ho _, Kd.R_nil _ _ _ _ _⟩

/-! ### impl_ParseRule: function 8 -/
def impl_ParseRule.f (k : Nat) (a0 : ByteArray) : Option (List S73 × Bool) :=
 if 600 < a0.size then some ([], false) else (iRun k a0).bind fun r => if r.2.2.2 = true then some ([], false) else if r.2.1 = r.1.length then (impl_isRule.f k r.2.2.1).bind fun b => if b = true then some (r.2.2.1, true) else some ([], false) else some ([], false)
theorem impl_ParseRule.calls (k : Nat) (a0 : ByteArray) (r1 : List S73) (r2 : Bool) (w : World) (h : impl_ParseRule.f k a0 = some (r1, r2)) (hL : LaidW w) :
  Calls Tryz.prog 8 #[.string a0] w fun e w' => ∃ v0_ : Value, e = .returned (.tuple #[v0_, .bool r2]) ∧ Kd.R k73 73 w' w.heap.size (fun _ => True) v0_ r1 ∧ Below w.heap.size w w' := by
 unfold impl_ParseRule.f at h
 by_cases hl : 600 < a0.size
 ·rw [if_pos hl] at h
  simp only [Option.some.injEq, Prod.mk.injEq] at h
  obtain ⟨rfl, rfl⟩ := h
  have d1 : decide ((600 : Int) < (a0.size : Int)) = true := decide_eq_true (by omega)
  have d2 : decide (600 < a0.size) = true := decide_eq_true hl
  clear hl
  go_enter Tryz.func8, Tryz.ntmps8
  go_wp2
  go_ret2
  exact ⟨_, rfl, Kd.R_nil _ _ _ _ _, Below.refl _ _⟩
 rw [if_neg hl] at h
 have d1 : decide ((600 : Int) < (a0.size : Int)) = false := decide_eq_false (by omega)
 have d2 : decide (600 < a0.size) = false := decide_eq_false hl
 clear hl
 obtain ⟨⟨ws, j, o, f⟩, e1, h⟩ := Option.bind_eq_some_iff.mp h
 unfold iRun at e1
 obtain ⟨ws', es, e1⟩ := Option.bind_eq_some_iff.mp e1
 by_cases hw : ws'.length ≤ 1000
 case neg => rw [if_neg hw] at e1; cases e1
 rw [if_pos hw] at e1
 obtain ⟨⟨j', o', f'⟩, er, e1⟩ := Option.bind_eq_some_iff.mp e1
 simp only [Option.some.injEq, Prod.mk.injEq] at e1
 obtain ⟨rfl, rfl, rfl, rfl⟩ := e1
 have ES := am_ es
 have ER := am_ er
 have HW := am_ hw
 have HL := am_ hL
 have HR := am_ (iAll k k (Nat.le_refl k)).2.2.2
 clear es er hw hL
 dsimp only at h
 by_cases hf : f' = true
 ·subst hf
  rw [if_pos rfl] at h
  simp only [Option.some.injEq, Prod.mk.injEq] at h
  obtain ⟨rfl, rfl⟩ := h
  go_enter Tryz.func8, Tryz.ntmps8
  go_wp2_with (first | ((with_reducible refine gk_ 33 ?_); refine gq_ 9 Tryz.func33 #[.string a0, .string ⟨#[32]⟩] ?_; (with_reducible refine (strings_Split.calls a0 (⟨#[32]⟩ : ByteArray) ws' _ ES.out HL.out).mono ?_); rintro e w1 ⟨v1, rfl, ho_, hbq_⟩; refine ⟨_, rfl, ?_⟩; obtain ⟨Af, cf, ef⟩ := Kd.R_slice ho_; subst ef; have HI := am_ (IP.start ho_ hbq_ HW.out HL.out); clear ho_ hbq_) | ((with_reducible refine gk_ 34 ?_); refine gq_ 11 Tryz.func34 #[.pointer (some ⟨w1.heap.size, 0, none⟩)] ?_; refine (HR.out w _ w1.heap.size ws' 0 0 [] false j' o' true ?sd ER.out).mono ?_; (case sd => exact HI.out); rintro e w2 ⟨rfl, hr_⟩; refine ⟨_, rfl, ?_⟩; replace HI := am_ hr_; clear hr_; obtain ⟨x, Aw, cw, Ap, cp, HX, hx0, hx1, hd0, hd1, hd2, hd3, hf1, hf2, hf3, HO⟩ := HI.out.read))
  go_ret2
  exact ⟨_, rfl, Kd.R_nil _ _ _ _ _, HI.out.1.2.1⟩
 replace hf := Bool.eq_false_iff.mpr hf
 subst hf
 rw [if_neg (by simp)] at h
 by_cases hj : j' = ws'.length
 ·rw [if_pos hj] at h
  obtain ⟨b, eb, h⟩ := Option.bind_eq_some_iff.mp h
  have EB := am_ eb
  have HJ := am_ hj
  clear eb hj
  by_cases hb : b = true
  ·subst hb
   rw [if_pos rfl] at h
   simp only [Option.some.injEq, Prod.mk.injEq] at h
   obtain ⟨rfl, rfl⟩ := h
   go_enter Tryz.func8, Tryz.ntmps8
   go_wp2_with (first | ((with_reducible refine gk_ 33 ?_); refine gq_ 9 Tryz.func33 #[.string a0, .string ⟨#[32]⟩] ?_; (with_reducible refine (strings_Split.calls a0 (⟨#[32]⟩ : ByteArray) ws' _ ES.out HL.out).mono ?_); rintro e w1 ⟨v1, rfl, ho_, hbq_⟩; refine ⟨_, rfl, ?_⟩; obtain ⟨Af, cf, ef⟩ := Kd.R_slice ho_; subst ef; have HI := am_ (IP.start ho_ hbq_ HW.out HL.out); clear ho_ hbq_) | ((with_reducible refine gk_ 34 ?_); refine gq_ 11 Tryz.func34 #[.pointer (some ⟨w1.heap.size, 0, none⟩)] ?_; refine (HR.out w _ w1.heap.size ws' 0 0 [] false j' o' false ?sd ER.out).mono ?_; (case sd => exact HI.out); rintro e w2 ⟨rfl, hr_⟩; refine ⟨_, rfl, ?_⟩; replace HI := am_ hr_; clear hr_; obtain ⟨x, Aw, cw, Ap, cp, HX, hx0, hx1, hd0, hd1, hd2, hd3, hf1, hf2, hf3, HO⟩ := HI.out.read; have dj : (x != (ws'.length : Int)) = false := by have h1_ := HX.out; have h2_ := HJ.out; simp; omega) | ((with_reducible refine gk_ 24 ?_); (try (refine gate_guard (by rfl) ?_; dsimp only)); refine gq_ 25 Tryz.func24 #[.slice Ap o'.length cp] ?_; (with_reducible refine (impl_isRule.calls k Ap cp o' true _ ?sa ?sb EB.out).mono ?_); (case sa => exact (Kd.R_reads' HO.out).2.2); (case sb => exact (Kd.R_reads' HO.out).2.1); rintro e w3 ⟨rfl, hbq_⟩; refine ⟨_, rfl, ?_⟩; have HB := am_ hbq_; have hd2' := HB.out.cell (p := ⟨w1.heap.size, 2, none⟩) (World.block_lt_of_cell? _ _ hd2); rw [hd2] at hd2'; clear hbq_))
   go_ret2
   exact ⟨_, rfl, Kd.R_below HO.out HB.out, below_step HI.out.1.2.1 HB.out⟩
  replace hb := Bool.eq_false_iff.mpr hb
  subst hb
  rw [if_neg (by simp)] at h
  simp only [Option.some.injEq, Prod.mk.injEq] at h
  obtain ⟨rfl, rfl⟩ := h
  go_enter Tryz.func8, Tryz.ntmps8
  go_wp2_with (first | ((with_reducible refine gk_ 33 ?_); refine gq_ 9 Tryz.func33 #[.string a0, .string ⟨#[32]⟩] ?_; (with_reducible refine (strings_Split.calls a0 (⟨#[32]⟩ : ByteArray) ws' _ ES.out HL.out).mono ?_); rintro e w1 ⟨v1, rfl, ho_, hbq_⟩; refine ⟨_, rfl, ?_⟩; obtain ⟨Af, cf, ef⟩ := Kd.R_slice ho_; subst ef; have HI := am_ (IP.start ho_ hbq_ HW.out HL.out); clear ho_ hbq_) | ((with_reducible refine gk_ 34 ?_); refine gq_ 11 Tryz.func34 #[.pointer (some ⟨w1.heap.size, 0, none⟩)] ?_; refine (HR.out w _ w1.heap.size ws' 0 0 [] false j' o' false ?sd ER.out).mono ?_; (case sd => exact HI.out); rintro e w2 ⟨rfl, hr_⟩; refine ⟨_, rfl, ?_⟩; replace HI := am_ hr_; clear hr_; obtain ⟨x, Aw, cw, Ap, cp, HX, hx0, hx1, hd0, hd1, hd2, hd3, hf1, hf2, hf3, HO⟩ := HI.out.read; have dj : (x != (ws'.length : Int)) = false := by have h1_ := HX.out; have h2_ := HJ.out; simp; omega) | ((with_reducible refine gk_ 24 ?_); (try (refine gate_guard (by rfl) ?_; dsimp only)); refine gq_ 25 Tryz.func24 #[.slice Ap o'.length cp] ?_; (with_reducible refine (impl_isRule.calls k Ap cp o' false _ ?sa ?sb EB.out).mono ?_); (case sa => exact (Kd.R_reads' HO.out).2.2); (case sb => exact (Kd.R_reads' HO.out).2.1); rintro e w3 ⟨rfl, hbq_⟩; refine ⟨_, rfl, ?_⟩; have HB := am_ hbq_; have hd2' := HB.out.cell (p := ⟨w1.heap.size, 2, none⟩) (World.block_lt_of_cell? _ _ hd2); rw [hd2] at hd2'; clear hbq_))
  go_ret2
  exact ⟨_, rfl, Kd.R_nil _ _ _ _ _, below_step HI.out.1.2.1 HB.out⟩
 rw [if_neg hj] at h
 have HJ := am_ hj
 clear hj
 simp only [Option.some.injEq, Prod.mk.injEq] at h
 obtain ⟨rfl, rfl⟩ := h
 go_enter Tryz.func8, Tryz.ntmps8
 go_wp2_with (first | ((with_reducible refine gk_ 33 ?_); refine gq_ 9 Tryz.func33 #[.string a0, .string ⟨#[32]⟩] ?_; (with_reducible refine (strings_Split.calls a0 (⟨#[32]⟩ : ByteArray) ws' _ ES.out HL.out).mono ?_); rintro e w1 ⟨v1, rfl, ho_, hbq_⟩; refine ⟨_, rfl, ?_⟩; obtain ⟨Af, cf, ef⟩ := Kd.R_slice ho_; subst ef; have HI := am_ (IP.start ho_ hbq_ HW.out HL.out); clear ho_ hbq_) | ((with_reducible refine gk_ 34 ?_); refine gq_ 11 Tryz.func34 #[.pointer (some ⟨w1.heap.size, 0, none⟩)] ?_; refine (HR.out w _ w1.heap.size ws' 0 0 [] false j' o' false ?sd ER.out).mono ?_; (case sd => exact HI.out); rintro e w2 ⟨rfl, hr_⟩; refine ⟨_, rfl, ?_⟩; replace HI := am_ hr_; clear hr_; obtain ⟨x, Aw, cw, Ap, cp, HX, hx0, hx1, hd0, hd1, hd2, hd3, hf1, hf2, hf3, HO⟩ := HI.out.read; have dj : (x != (ws'.length : Int)) = true := by have h1_ := HX.out; have h2_ := HJ.out; simp; omega))
 go_ret2
 exact ⟨_, rfl, Kd.R_nil _ _ _ _ _, HI.out.1.2.1⟩


end Go.Proofs.YtihjlepgmppedaaGreatDoor.PFnRules
