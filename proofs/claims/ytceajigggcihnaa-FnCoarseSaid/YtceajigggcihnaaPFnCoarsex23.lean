-- Laid for this claim by wip/tools/print2.sh, a changed copy of the kit's print (wip/tools/patch_print.py): not by print.sh. Parted by wip/fix/split.py and part.py.
import Derived.Test.YtceajigggcihnaaPFnCoarsex22
namespace Go.Proofs.Ytceajigggcihnaa.PFnCoarse
open Go.RowKit Go.Proofs.YtceajigggcihnaaW.PrintWords Go.Proofs.YtceajigggcihnaaW.PrintLast Go.Proofs.YtceajigggcihnaaW.PrintMore
attribute [local go_sem] max2_int min2_int max_two min_two max_three min_three max_four min_four
set_option linter.unusedVariables false
set_option linter.unusedSimpArgs false

attribute [local go_sem high] eqA29
set_option maxHeartbeats 60000000 in
set_option maxRecDepth 100000 in
def laws_FnCoarse.top3 : {R : Prop // Nonempty R → (laws_FnCoarse.top2.1)} := ⟨_, fun hR_ => by
 intro dm_; unhygienic intros; have hu34 := Try.underlying34; have hu32 := Try.underlying32; have hu29 := Try.underlying29
 clear HC214
 obtain ⟨kq, HA, HJ213, HO_12, HO_16, HO_745003, HO_745004, HO_745005, HO_760003, HO_760004, HO_760005, HO_775003, HO_775004, HO_775005, BK744, BK759, BK774, HB⟩ := hcut
 cases kq with
 | zero => exact absurd HA.out (by simp [laws_FnCoarse.j2])
 | succ kj213 => ?_
 have H := HA.out
 clear HA
 simp only [laws_FnCoarse.j2] at H
 have HC308 := Aside0.mk H
 clear H
 go_upto_if 239 with (fail)
 go_cut [] (fun wc => ∃ (kq : Nat), Aside0 (laws_FnCoarse.j4 kq t758 t772 t732 t733 t734 t735 t738 t741 t745 t746 t747 t748 t751 t754 t760 t761 t762 t763 t766 t769 = some r) ∧ Aside0 (kq ≤ kj213) ∧ Aside0 (Kd.R (Kd.int .i64) 3 wc w.heap.size (fun _ => True) (.slice Ao22 t735.length co22) t735) ∧ Aside0 (Kd.R (Kd.int .i64) 3 wc w.heap.size (fun _ => True) (.slice Ao23 t738.length co23) t738) ∧ Aside0 (Kd.R (Kd.int .i64) 3 wc w.heap.size (fun _ => True) (.slice Ao24 t741.length co24) t741) ∧ Aside0 (Kd.R (Kd.int .i64) 3 wc w.heap.size (fun _ => True) (.slice Ao29 t748.length co29) t748) ∧ Aside0 (Kd.R (Kd.int .i64) 3 wc w.heap.size (fun _ => True) (.slice Ao30 t751.length co30) t751) ∧ Aside0 (Kd.R (Kd.int .i64) 3 wc w.heap.size (fun _ => True) (.slice Ao31 t754.length co31) t754) ∧ Aside0 (Kd.R (Kd.int .i64) 3 wc w.heap.size (fun _ => True) (.slice Ao38 t763.length co38) t763) ∧ Aside0 (Kd.R (Kd.int .i64) 3 wc w.heap.size (fun _ => True) (.slice Ao39 t766.length co39) t766) ∧ Aside0 (Kd.R (Kd.int .i64) 3 wc w.heap.size (fun _ => True) (.slice Ao40 t769.length co40) t769) ∧ Aside0 (wc.heap[gb744]? = some (.cells #[.int .i64 t732, .int .i64 t733, .int .i64 t734, (.slice Ao22 t735.length co22), (.slice Ao23 t738.length co23), (.slice Ao24 t741.length co24)] 34 (0, 0))) ∧ Aside0 (wc.heap[gb759]? = some (.cells #[.int .i64 t745, .int .i64 t746, .int .i64 t747, (.slice Ao29 t748.length co29), (.slice Ao30 t751.length co30), (.slice Ao31 t754.length co31)] 34 (0, 0))) ∧ Aside0 (wc.heap[gb774]? = some (.cells #[.int .i64 t760, .int .i64 t761, .int .i64 t762, (.slice Ao38 t763.length co38), (.slice Ao39 t766.length co39), (.slice Ao40 t769.length co40)] 34 (0, 0))) ∧ Aside0 (Below w.heap.size w wc))
 case first =>
  have H := HC308.out
  clear HC308
  by_cases c309 : t780 = true
  ·refine ?z12_
   let rec p12_ : type_of% ?z12_ := by(
   subst c309
   rw [if_pos rfl] at H
   have H' := Aside0.mk H
   clear H
   obtain ⟨Ao310, co310, eo310⟩ := Kd.R_slice HO_16.out
   subst eo310
   go_wp2
   go_loopg [37, 242] kj213 (fun kq v37 v242 w' => ∃ (x37_3 : Int) (x242_3 : Int), v37 = .int .i64 x37_3 ∧ v242 = .int .i64 x242_3 ∧ Aside0 (laws_FnCoarse.l1 kq t758 t772 t775 t776 t788 x37_3 t783 (t783.length : Int) x242_3 t732 t733 t734 t735 t738 t741 t745 t746 t747 t748 t751 t754 t760 t761 t762 t763 t766 t769 = some r) ∧ Aside0 (kq ≤ kj213) ∧ Aside0 (Kd.R k29 29 w' w.heap.size (fun _ => True) (.slice Ao42 t775.length co42) t775) ∧ Aside0 (Kd.R (Kd.int .i64) 3 w' w.heap.size (fun _ => True) (.slice Ao310 t783.length co310) t783) ∧ Aside0 (Kd.R (Kd.int .i64) 3 w' w.heap.size (fun _ => True) (.slice Ao22 t735.length co22) t735) ∧ Aside0 (Kd.R (Kd.int .i64) 3 w' w.heap.size (fun _ => True) (.slice Ao23 t738.length co23) t738) ∧ Aside0 (Kd.R (Kd.int .i64) 3 w' w.heap.size (fun _ => True) (.slice Ao24 t741.length co24) t741) ∧ Aside0 (Kd.R (Kd.int .i64) 3 w' w.heap.size (fun _ => True) (.slice Ao29 t748.length co29) t748) ∧ Aside0 (Kd.R (Kd.int .i64) 3 w' w.heap.size (fun _ => True) (.slice Ao30 t751.length co30) t751) ∧ Aside0 (Kd.R (Kd.int .i64) 3 w' w.heap.size (fun _ => True) (.slice Ao31 t754.length co31) t754) ∧ Aside0 (Kd.R (Kd.int .i64) 3 w' w.heap.size (fun _ => True) (.slice Ao38 t763.length co38) t763) ∧ Aside0 (Kd.R (Kd.int .i64) 3 w' w.heap.size (fun _ => True) (.slice Ao39 t766.length co39) t766) ∧ Aside0 (Kd.R (Kd.int .i64) 3 w' w.heap.size (fun _ => True) (.slice Ao40 t769.length co40) t769) ∧ Aside0 (w'.heap[gb744]? = some (.cells #[.int .i64 t732, .int .i64 t733, .int .i64 t734, (.slice Ao22 t735.length co22), (.slice Ao23 t738.length co23), (.slice Ao24 t741.length co24)] 34 (0, 0))) ∧ Aside0 (w'.heap[gb759]? = some (.cells #[.int .i64 t745, .int .i64 t746, .int .i64 t747, (.slice Ao29 t748.length co29), (.slice Ao30 t751.length co30), (.slice Ao31 t754.length co31)] 34 (0, 0))) ∧ Aside0 (w'.heap[gb774]? = some (.cells #[.int .i64 t760, .int .i64 t761, .int .i64 t762, (.slice Ao38 t763.length co38), (.slice Ao39 t766.length co39), (.slice Ao40 t769.length co40)] 34 (0, 0))) ∧ Aside0 (Below w.heap.size w w'))
   case atStart => exact ⟨(0), (0), (by first | rfl | (simp; done) | (simp [*]; done)), (by first | rfl | (simp; done) | (simp [*]; done)), H', ⟨Nat.le_refl _⟩, ⟨Kd.R_p HO_12⟩, ⟨Kd.R_p HO_16⟩, ⟨Kd.R_p HO_745003⟩, ⟨Kd.R_p HO_745004⟩, ⟨Kd.R_p HO_745005⟩, ⟨Kd.R_p HO_760003⟩, ⟨Kd.R_p HO_760004⟩, ⟨Kd.R_p HO_760005⟩, ⟨Kd.R_p HO_775003⟩, ⟨Kd.R_p HO_775004⟩, ⟨Kd.R_p HO_775005⟩, ⟨kp_ BK744⟩, ⟨kp_ BK759⟩, ⟨kp_ BK774⟩, ⟨hb_ HB⟩⟩
   case round =>
    clear H'
    obtain ⟨x37_3, x242_3, rfl, rfl, HA, HK3, HO_12, HO_240, HO_745003, HO_745004, HO_745005, HO_760003, HO_760004, HO_760005, HO_775003, HO_775004, HO_775005, BK744, BK759, BK774, HB⟩ := hrel
    cases gk with
    | zero => exact absurd HA.out (by simp [laws_FnCoarse.l1])
    | succ k3 => ?_
    have H := HA.out
    clear HA
    simp only [laws_FnCoarse.l1] at H
    by_cases c311 : x242_3 < (t783.length : Int)
    ·rw [if_pos c311] at H
     have c311b0 := decide_eq_true c311
     clear c311
     (first | rw [c311b0] | (simp only [i64_w, i32_w]; rw [c311b0]) | skip)
     by_cases c312 : 0 ≤ x242_3
     case neg => rw [if_neg c312] at H; exact absurd H (by simp)
     rw [if_pos c312] at H
     have c312b0 := decide_eq_true c312
     clear c312
     by_cases c313 : x242_3 < (t783.length : Int)
     case neg => rw [if_neg c313] at H; exact absurd H (by simp)
     rw [if_pos c313] at H
     have c313b0 := decide_eq_true c313
     clear c313
     by_cases c314 : 0 ≤ (rd t783 x242_3)
     case neg => rw [if_neg c314] at H; exact absurd H (by simp)
     rw [if_pos c314] at H
     have c314b0 := decide_eq_true c314
     clear c314
     by_cases c315 : (rd t783 x242_3) < (t775.length : Int)
     case neg => rw [if_neg c315] at H; exact absurd H (by simp)
     rw [if_pos c315] at H
     have c315b0 := decide_eq_true c315
     clear c315
     have H' := Aside0.mk H
     clear H
     obtain ⟨ad824, e824, hx824_0, p824, q824⟩ := ai_ (Kd.R_reads' HO_240.out).2.2 x242_3
     cases e824
     have p825 : 0 ≤ ((rd t783 x242_3) : Int) := of_decide_eq_true (by first | (with_reducible assumption) | assumption)
     have q825 : (rd t783 x242_3) < (t775.length : Int) := of_decide_eq_true (by first | (with_reducible assumption) | assumption)
     obtain ⟨ad825, e825, hx825_0, hx825_1, hx825_2⟩ := at_T29 (Kd.R_reads' HO_12.out).2.2 (rd t783 x242_3) p825 q825
     cases e825
     replace p825 := eq_true p825
     replace q825 := eq_true q825
     go_wp2
     go_roundg k3
     case measure => have := HJ17.out; have := HJ213.out; have := HK3.out; omega
     case rel => exact ⟨(wrap64 (x37_3 + ((rd_T29 t775 (rd t783 x242_3)).f0))), (wrap64 (x242_3 + 1)), (by first | rfl | (simp; done) | (simp [*]; done)), (by first | rfl | (simp; done) | (simp [*]; done)), H', ⟨by have := HJ17.out; have := HJ213.out; have := HK3.out; omega⟩, ⟨Kd.R_p HO_12⟩, ⟨Kd.R_p HO_240⟩, ⟨Kd.R_p HO_745003⟩, ⟨Kd.R_p HO_745004⟩, ⟨Kd.R_p HO_745005⟩, ⟨Kd.R_p HO_760003⟩, ⟨Kd.R_p HO_760004⟩, ⟨Kd.R_p HO_760005⟩, ⟨Kd.R_p HO_775003⟩, ⟨Kd.R_p HO_775004⟩, ⟨Kd.R_p HO_775005⟩, ⟨kp_ BK744⟩, ⟨kp_ BK759⟩, ⟨kp_ BK774⟩, ⟨hb_ HB⟩⟩
    rw [if_neg c311] at H
    have c311b0 := decide_eq_false c311
    clear c311
    (first | rw [c311b0] | (simp only [i64_w, i32_w]; rw [c311b0]) | skip)
    by_cases c316 : x37_3 < t776
    ·rw [if_pos c316] at H
     have c316b0 := decide_eq_true c316
     clear c316
     obtain rfl := Option.some.inj H
     go_wp2
     go_ret
     exact ad_ (hb_ HB)
    rw [if_neg c316] at H
    have c316b0 := decide_eq_false c316
    clear c316
    by_cases c317 : t788 = true
    case neg => replace c317 := Bool.eq_false_iff.mpr c317; subst c317; rw [if_neg (show ¬ (false = true) by decide)] at H; obtain rfl := Option.some.inj H; go_wp2; go_ret; exact ad_ (hb_ HB)
    subst c317
    rw [if_pos rfl] at H
    have H' := Aside0.mk H
    clear H
    go_wp2
    go_meet
    case rel => exact ⟨_, H', ⟨by have := HJ17.out; have := HJ213.out; have := HK3.out; first | omega | exact Nat.le_refl _⟩, ⟨rm_ (h := HO_745003.out)⟩, ⟨rm_ (h := HO_745004.out)⟩, ⟨rm_ (h := HO_745005.out)⟩, ⟨rm_ (h := HO_760003.out)⟩, ⟨rm_ (h := HO_760004.out)⟩, ⟨rm_ (h := HO_760005.out)⟩, ⟨rm_ (h := HO_775003.out)⟩, ⟨rm_ (h := HO_775004.out)⟩, ⟨rm_ (h := HO_775005.out)⟩, ⟨kp_ BK744⟩, ⟨kp_ BK759⟩, ⟨kp_ BK774⟩, ⟨hb_ HB⟩⟩
   )
   exact p12_
  replace c309 := Bool.eq_false_iff.mpr c309
  subst c309
  rw [if_neg (show ¬ (false = true) by decide)] at H
  have H' := Aside0.mk H
  clear H
  go_wp2
  go_meet
  case rel => exact ⟨_, H', ⟨by have := HJ17.out; have := HJ213.out; first | omega | exact Nat.le_refl _⟩, ⟨rm_ (h := HO_745003.out)⟩, ⟨rm_ (h := HO_745004.out)⟩, ⟨rm_ (h := HO_745005.out)⟩, ⟨rm_ (h := HO_760003.out)⟩, ⟨rm_ (h := HO_760004.out)⟩, ⟨rm_ (h := HO_760005.out)⟩, ⟨rm_ (h := HO_775003.out)⟩, ⟨rm_ (h := HO_775004.out)⟩, ⟨rm_ (h := HO_775005.out)⟩, ⟨kp_ BK744⟩, ⟨kp_ BK759⟩, ⟨kp_ BK774⟩, ⟨hb_ HB⟩⟩
 revert kj213 kj17 wc w65 gb816 w64 w59 gb811 w58 co57 Ao57 w56 w55 w53 w48 gb799 w47 v793 w46 v789 w45 v785 w44 v781 w43 co42 Ao42 w41 co40 Ao40 co39 Ao39 co38 Ao38 w34 gb774 w33 co31 Ao31 co30 Ao30 co29 Ao29 w26 gb759 w25 co24 Ao24 co23 Ao23 co22 Ao22 w20 gb744 w19 t815 t814 t813 t812 t810 t809 t808 t807 t804 t803 t802 t801 t800 t798 t797 t796 t795 t792 t791 t788 t787 t784 t783 t780 t779 t776 t775 t773 t772 t769 t766 t763 t762 t761 t760 t758 t757 t754 t751 t748 t747 t746 t745 t741 t738 t735 t734 t733 t732 w r l1 c1 A1 l0 c0 A0 k u4 u33 u34 u35 u36 u37 u39 u48 u49 u50 u51 u52 u53 u54 u55 u56 u57 u58 u59 u60 u61 u62 u63 u64 u65 u66 u67 u68 u69 u70 u71 u72 u73 u74 u75 u76 u77 u78 u79 u80 u81 u82 u83 u84 u85 u86 u87 u88 u89 u90 u91 u92 u93 u94 u95 u96 u97 u98 u99 u100 u101 u102 u103 u104 u105 u106 u107 u108 u109 u110 u111 u112 u113 u114 u115 u116 u117 u118 u119 u120 u121 u122 u123 u124 u125 u126 u127 u128 u129 u130 u131 u132 u133 u134 u135 u136 u137 u138 u139 u140 u141 u142 u143 u144 u145 u146 u147 u148 u149 u150 u151 u152 u153 u154 u155 u156 u157 u158 u159 u160 u161 u162 u163 u164 u165 u166 u167 u168 u169 u170 u171 u172 u173 u174 u175 u176 u177 u178 u179 u180 u181 u182 u183 u184 u185 u186 u187 u188 u189 u190 u191 u192 u193 u194 u195 u196 u197 u198 u199 u200 u201 u202 u203 u204 u205 u206 u207 u208 u209 u210 u211 u212 u213 u214 u215 u216 u217 u218 u219 u220 u221 u222 u223 u224 u225 u226 u227 u228 u229 u230 u231 u232 u233 u234 u235 u236 u237 u238 u239 u240 u241 u242 u243 u244 u245 u246 u247 u248 u249 u250 u251 u252 u253 u254 u255 u256 u257 u258 u259 u260 u261 u262 u263 u264 u267 u268 u269 u270 u271 u272 u273 u274 u275 u276 u277 u278 u279 u280 u281 u282 u283 u284 u285 u286 u287 u288 u289 u290 u291 u292 u293 u294 u295 u296 u297 u298 u299 u300
 repeat (rename Value => z_; revert z_)
 repeat (rename World => z_; revert z_)
 repeat (rename Nat => z_; revert z_)
 repeat (rename Int => z_; revert z_)
 repeat (rename Bool => z_; revert z_)
 repeat (rename (Option Addr) => z_; revert z_)
 repeat (rename (Exit → Act → World → Prop) => z_; revert z_)
 repeat (rename (Act → World → Prop) => z_; revert z_)
 have dm_ := trivial; revert dm_
 exact hR_.elim id
  ⟩
end Go.Proofs.Ytceajigggcihnaa.PFnCoarse
