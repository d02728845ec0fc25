/- The law FnSixteenAround, walked: the sum of all counts. No condition beyond those typed. -/
import Derived.Test.YtogafcjfaicpgaaMCx0
import Derived.Test.YtogafcjfaicpgaaMCx6
import Derived.Test.YtogafcjfaicpgaaMCx14
import Derived.Test.YtogafcjfaicpgaaMCx15
import Derived.Test.YtogafcjfaicpgaaMCx16
import Derived.Test.YtogafcjfaicpgaaMCx17
import Derived.Test.YtogafcjfaicpgaaMCx19
import Derived.Test.YtogafcjfaicpgaaMCx20
import Derived.Test.YtogafcjfaicpgaaHCd
namespace Go.Proofs.Ytogafcjfaicpgaa.MC
open Go.RowKit Go.Proofs.YtogafcjfaicpgaaW.PrintWords Go.Proofs.YtogafcjfaicpgaaW.PrintLast Go.Proofs.YtogafcjfaicpgaaW.PrintMore Go.Proofs.YtogafcjfaicpgaaV
attribute [local go_sem] max2_int min2_int max_two min_two max_three min_three max_four min_four   -- for this text's walks alone
set_option linter.unusedVariables false
set_option linter.unusedSimpArgs false

set_option maxHeartbeats 32000000 in
set_option maxRecDepth 100000 in
theorem sixteen_l1 {k : Nat} {l1 : List Int} {A1 : Option Addr} {c1 : Nat} {t327 t336 : Int} {r : Bool} (HA : laws_FnSixteenAround.l1 k l1 t327 t336 0 3 = some r) {w wc : World} (hr_ : r = true) (HR1 : Aside0 (Kd.C (Kd.int .u8) w A1 l1.length l1)) (HC1 : Aside0 (l1.length ≤ c1)) (HB : Aside0 (Below w.heap.size w wc)) {u0 u2 u3 u4 u6 u7 u8 u9 u11 u12 u13 u14 u15 u16 u17 u18 u19 u20 u21 u22 u23 u24 u25 u26 u27 u28 u29 u30 u31 u32 u33 u34 u35 u36 u37 u38 u39 u40 u41 u42 u43 u44 u45 u46 u47 u48 u49 u50 u51 u52 u53 u54 u55 u56 u57 u58 u59 u60 u61 u62 u63 u64 u65 u66 u67 u68 u69 u70 u71 u72 u73 u74 u75 u76 u77 u78 u79 u80 u81 u82 u83 u84 u85 u86 u87 u88 u89 u90 u91 u92 u93 u94 u95 u96 u97 u98 u99 u100 u101 u102 u103 u104 u105 u106 u107 u108 u109 u110 u111 u112 u113 u114 u115 u116 u117 u118 u119 u120 u121 u122 u123 u124 u125 u126 u127 u128 u129 u130 u131 u132 u133 u134 u135 u136 u137 u138 u139 u140 u141 u142 u143 u144 u145 u146 u147 u148 u149 u150 u151 u152 u153 u154 u155 u156 u157 u158 u159 u160 u161 u162 u163 u164 u165 u166 u167 u168 u169 u170 u171 u172 u173 u174 u175 u176 u177 u178 u179 u180 u181 u182 u183 u184 u185 u186 u187 u188 u189 u190 u191 u192 u193 u194 u195 u196 u197 u198 u199 u200 u201 u202 u203 u204 u205 u206 u207 u208 u209 u210 u211 u212 u213 u214 u215 u216 u217 u218 u219 u220 u221 u222 u223 u224 u225 u226 u227 u228 u229 u230 u231 u232 u233 u234 u235 u236 u237 u238 u239 u240 u241 u242 u243 u244 u245 u246 u247 u248 u249 u250 u251 u252 u253 u254 u255 u256 u257 u258 u259 u260 u261 u262 u263 u264 u265 u266 u267 u268 u269 u270 u271 u272 u273 u274 u275 u276 u277 u278 u279 u280 u281 u282 u283 u284 u285 u286 u287 u288 u289 u290 u291 u292 u293 u294 u295 u296 u297 u298 u299 u300 u301 u302 u303 u304 u305 u306 u307 u308 u309 u310 u311 u312 u313 u314 u315 u316 u317 u318 u319 u320 u321 : Value} {K K1 : Act → World → Prop} {cF cB cR : Code} (hF : fstC (sndC (sndC (thenC (sndC (fstC (sndC (sndC (sndC (sndC (sndC (sndC (sndC (sndC (bodyC Try.f5)))))))))))))) = cF) (hC : sndC (sndC (sndC (thenC (sndC (fstC (sndC (sndC (sndC (sndC (sndC (sndC (sndC (sndC (bodyC Try.f5)))))))))))))) = cB) (hR : sndC (sndC (sndC (sndC (sndC (sndC (sndC (sndC (sndC (bodyC Try.f5))))))))) = cR)
  (hK1 : ∀ (a' : Act) (w' : World), Code.wp Try.prog cB (Exit.then K (bodyPost Try.prog Try.f5 fun e w' => e = .returned (.bool r) ∧ Below w.heap.size w w')) a' w' → K1 a' w')
  (hK : ∀ (a' : Act) (w' : World), Code.wp Try.prog cR (bodyPost Try.prog Try.f5 fun e w' => e = .returned (.bool r) ∧ Below w.heap.size w w') a' w' → K a' w') :
  Code.wp Try.prog cF (Exit.then K1 (Exit.then K (bodyPost Try.prog Try.f5 fun e w' => e = .returned (.bool r) ∧ Below w.heap.size w w'))) { tmps := #[u0, .slice A1 l1.length c1, u2, u3, u4, .int .i64 t327, u6, u7, u8, u9, .int .i64 t336, u11, u12, u13, u14, u15, u16, u17, u18, u19, u20, u21, u22, u23, u24, u25, u26, u27, u28, u29, u30, u31, u32, u33, u34, u35, u36, u37, u38, u39, u40, u41, u42, u43, u44, u45, u46, u47, u48, u49, u50, u51, u52, u53, u54, u55, u56, u57, u58, u59, u60, u61, u62, u63, u64, u65, u66, u67, u68, u69, u70, u71, u72, u73, u74, u75, u76, u77, u78, u79, u80, u81, u82, u83, u84, u85, u86, u87, u88, u89, u90, u91, u92, u93, u94, u95, u96, u97, u98, u99, u100, u101, u102, u103, u104, u105, u106, u107, u108, u109, u110, u111, u112, u113, u114, u115, u116, u117, u118, u119, u120, u121, u122, u123, u124, u125, u126, u127, u128, u129, u130, u131, u132, u133, u134, u135, u136, u137, u138, u139, u140, u141, u142, u143, u144, u145, u146, u147, u148, u149, u150, u151, u152, u153, u154, u155, u156, u157, u158, u159, u160, u161, u162, u163, u164, u165, u166, u167, u168, u169, u170, u171, u172, u173, u174, u175, u176, u177, u178, u179, u180, u181, u182, u183, u184, u185, u186, u187, u188, u189, u190, u191, u192, u193, u194, u195, u196, u197, u198, u199, u200, u201, u202, u203, u204, u205, u206, u207, u208, u209, u210, u211, u212, u213, u214, u215, u216, u217, u218, u219, u220, u221, u222, u223, u224, u225, u226, u227, u228, u229, u230, u231, u232, u233, u234, u235, u236, u237, u238, u239, u240, u241, u242, u243, u244, u245, u246, u247, u248, u249, u250, u251, u252, u253, u254, u255, u256, u257, u258, u259, u260, u261, u262, u263, u264, u265, u266, u267, u268, u269, u270, u271, u272, u273, u274, u275, u276, u277, u278, u279, u280, u281, u282, u283, u284, u285, u286, u287, u288, u289, u290, u291, u292, u293, u294, u295, u296, u297, u298, u299, u300, u301, u302, u303, u304, u305, u306, u307, u308, u309, u310, u311, u312, u313, u314, u315, u316, u317, u318, u319, u320, u321], defers := [] } wc := by
 dsimp only [bodyC, thenC, sndC, fstC, Try.f5, Option.getD] at hF hC hR
 subst hF
 subst hC
 subst hR
 have H' := Aside0.mk HA
 go_wp2
 go_loopg [20, 21] k (fun kq v20 v21 w' => ∃ (x20_3 : Int) (x21_3 : Int), v20 = .int .i64 x20_3 ∧ v21 = .int .i64 x21_3 ∧ Aside0 (laws_FnSixteenAround.l1 kq l1 t327 t336 x20_3 x21_3 = some r) ∧ Aside0 (kq ≤ k) ∧ Aside0 (Below w.heap.size w w'))
 case atStart => exact ⟨(0), (3), (by first | rfl | (simp; done) | (simp [*]; done)), (by first | rfl | (simp; done) | (simp [*]; done)), H', ⟨Nat.le_refl _⟩, ⟨hb_⟩⟩
 case round =>
   clear H'
   obtain ⟨x20_3, x21_3, rfl, rfl, HA, HK3, HB⟩ := hrel
   cases gk with
   | zero => exact absurd HA.out (by simp [laws_FnSixteenAround.l1])
   | succ k3 =>
     have H := HA.out
     clear HA
     simp only [laws_FnSixteenAround.l1] at H
     by_cases c59 : x21_3 ≤ 9
     · rw [if_pos c59] at H
       have c59b0 : decide (x21_3 ≤ 9) = true := decide_eq_true c59
       clear c59
       replace H := Option.bind_eq_some_iff.mp H
       obtain ⟨⟨t352, t353⟩, A600, H⟩ := H
       replace H : (if t353 = true then (if x21_3 = t327 then (if t352 = t336 then (if x21_3 = (wrap64 (12 - t327)) then (laws_FnSixteenAround.l1 k3 l1 t327 t336 (wrap64 (x20_3 + t352)) (wrap64 (x21_3 + 1))) else (laws_FnSixteenAround.l1 k3 l1 t327 t336 (wrap64 (x20_3 + t352)) (wrap64 (x21_3 + 1)))) else (some false)) else (if x21_3 = (wrap64 (12 - t327)) then (if t352 = t336 then (laws_FnSixteenAround.l1 k3 l1 t327 t336 (wrap64 (x20_3 + t352)) (wrap64 (x21_3 + 1))) else (some false)) else (laws_FnSixteenAround.l1 k3 l1 t327 t336 (wrap64 (x20_3 + t352)) (wrap64 (x21_3 + 1))))) else (some false)) = some r := H
       have A60 := Aside0.mk A600
       clear A600
       by_cases c61 : t353 = true
       · subst c61
         have H1 : (if x21_3 = t327 then (if t352 = t336 then (if x21_3 = (wrap64 (12 - t327)) then (laws_FnSixteenAround.l1 k3 l1 t327 t336 (wrap64 (x20_3 + t352)) (wrap64 (x21_3 + 1))) else (laws_FnSixteenAround.l1 k3 l1 t327 t336 (wrap64 (x20_3 + t352)) (wrap64 (x21_3 + 1)))) else (some false)) else (if x21_3 = (wrap64 (12 - t327)) then (if t352 = t336 then (laws_FnSixteenAround.l1 k3 l1 t327 t336 (wrap64 (x20_3 + t352)) (wrap64 (x21_3 + 1))) else (some false)) else (laws_FnSixteenAround.l1 k3 l1 t327 t336 (wrap64 (x20_3 + t352)) (wrap64 (x21_3 + 1))))) = some r := by rw [if_pos rfl] at H; exact H
         clear H
         have H := H1
         clear H1
         by_cases c62 : x21_3 = t327
         · rw [if_pos c62] at H
           have c62b0 : (x21_3 == t327) = true := beq_iff_eq.mpr c62
           have c62b1 : (x21_3 != t327) = false := bne_eq_false_iff_eq.mpr c62
           clear c62
           by_cases c63 : t352 = t336
           · rw [if_pos c63] at H
             have c63b0 : (t352 == t336) = true := beq_iff_eq.mpr c63
             have c63b1 : (t352 != t336) = false := bne_eq_false_iff_eq.mpr c63
             clear c63
             by_cases c64 : x21_3 = (wrap64 (12 - t327))
             · rw [if_pos c64] at H
               have c64b0 : (x21_3 == (wrap64 (12 - t327))) = true := beq_iff_eq.mpr c64
               have c64b1 : (x21_3 != (wrap64 (12 - t327))) = false := bne_eq_false_iff_eq.mpr c64
               clear c64
               have H' := Aside0.mk H
               clear H
               go_wp2_with (first | ((with_reducible refine gate_callee (f := 12) rfl ?_); refine goesL_ (some 167) rfl rfl Try.func12 (by kernel_rfl) rfl #[.int .i64 x21_3] rfl ga_ ?_; (with_reducible refine (impl_CountAround.calls k3 x21_3 t352 true _ A60.out).mono ?_); rintro e w65 ⟨rfl, hb⟩; refine ⟨_, rfl, ?_⟩; have n0_ := Aside0.mk (below_step (hb_) hb); clear HB; have HB := n0_; clear n0_; (try clear hb); (try clear hb2); (try clear hk); (try clear hi)))
               go_roundg k3
               case measure => have := HK3.out; omega
               case rel => exact ⟨(wrap64 (x20_3 + t352)), (wrap64 (x21_3 + 1)), (by first | rfl | (simp; done) | (simp [*]; done)), (by first | rfl | (simp; done) | (simp [*]; done)), H', ⟨by have := HK3.out; omega⟩, ⟨hb_⟩⟩
             · rw [if_neg c64] at H
               have c64b0 : (x21_3 == (wrap64 (12 - t327))) = false := beq_eq_false_iff_ne.mpr c64
               have c64b1 : (x21_3 != (wrap64 (12 - t327))) = true := bne_iff_ne.mpr c64
               have H' := Aside0.mk H
               clear H
               go_wp2_with (first | ((with_reducible refine gate_callee (f := 12) rfl ?_); refine goesL_ (some 167) rfl rfl Try.func12 (by kernel_rfl) rfl #[.int .i64 x21_3] rfl ga_ ?_; (with_reducible refine (impl_CountAround.calls k3 x21_3 t352 true _ A60.out).mono ?_); rintro e w66 ⟨rfl, hb⟩; refine ⟨_, rfl, ?_⟩; have n0_ := Aside0.mk (below_step (hb_) hb); clear HB; have HB := n0_; clear n0_; (try clear hb); (try clear hb2); (try clear hk); (try clear hi)))
               go_roundg k3
               case measure => have := HK3.out; omega
               case rel => exact ⟨(wrap64 (x20_3 + t352)), (wrap64 (x21_3 + 1)), (by first | rfl | (simp; done) | (simp [*]; done)), (by first | rfl | (simp; done) | (simp [*]; done)), H', ⟨by have := HK3.out; omega⟩, ⟨hb_⟩⟩
           · rw [if_neg c63] at H
             have c63b0 : (t352 == t336) = false := beq_eq_false_iff_ne.mpr c63
             have c63b1 : (t352 != t336) = true := bne_iff_ne.mpr c63
             exact absurd (Option.some.inj H) (by rw [hr_]; decide)
         · rw [if_neg c62] at H
           have c62b0 : (x21_3 == t327) = false := beq_eq_false_iff_ne.mpr c62
           have c62b1 : (x21_3 != t327) = true := bne_iff_ne.mpr c62
           by_cases c67 : x21_3 = (wrap64 (12 - t327))
           · rw [if_pos c67] at H
             have c67b0 : (x21_3 == (wrap64 (12 - t327))) = true := beq_iff_eq.mpr c67
             have c67b1 : (x21_3 != (wrap64 (12 - t327))) = false := bne_eq_false_iff_eq.mpr c67
             clear c67
             by_cases c68 : t352 = t336
             · rw [if_pos c68] at H
               have c68b0 : (t352 == t336) = true := beq_iff_eq.mpr c68
               have c68b1 : (t352 != t336) = false := bne_eq_false_iff_eq.mpr c68
               clear c68
               have H' := Aside0.mk H
               clear H
               go_wp2_with (first | ((with_reducible refine gate_callee (f := 12) rfl ?_); refine goesL_ (some 167) rfl rfl Try.func12 (by kernel_rfl) rfl #[.int .i64 x21_3] rfl ga_ ?_; (with_reducible refine (impl_CountAround.calls k3 x21_3 t352 true _ A60.out).mono ?_); rintro e w69 ⟨rfl, hb⟩; refine ⟨_, rfl, ?_⟩; have n0_ := Aside0.mk (below_step (hb_) hb); clear HB; have HB := n0_; clear n0_; (try clear hb); (try clear hb2); (try clear hk); (try clear hi)))
               go_roundg k3
               case measure => have := HK3.out; omega
               case rel => exact ⟨(wrap64 (x20_3 + t352)), (wrap64 (x21_3 + 1)), (by first | rfl | (simp; done) | (simp [*]; done)), (by first | rfl | (simp; done) | (simp [*]; done)), H', ⟨by have := HK3.out; omega⟩, ⟨hb_⟩⟩
             · rw [if_neg c68] at H
               have c68b0 : (t352 == t336) = false := beq_eq_false_iff_ne.mpr c68
               have c68b1 : (t352 != t336) = true := bne_iff_ne.mpr c68
               exact absurd (Option.some.inj H) (by rw [hr_]; decide)
           · rw [if_neg c67] at H
             have c67b0 : (x21_3 == (wrap64 (12 - t327))) = false := beq_eq_false_iff_ne.mpr c67
             have c67b1 : (x21_3 != (wrap64 (12 - t327))) = true := bne_iff_ne.mpr c67
             have H' := Aside0.mk H
             clear H
             go_wp2_with (first | ((with_reducible refine gate_callee (f := 12) rfl ?_); refine goesL_ (some 167) rfl rfl Try.func12 (by kernel_rfl) rfl #[.int .i64 x21_3] rfl ga_ ?_; (with_reducible refine (impl_CountAround.calls k3 x21_3 t352 true _ A60.out).mono ?_); rintro e w70 ⟨rfl, hb⟩; refine ⟨_, rfl, ?_⟩; have n0_ := Aside0.mk (below_step (hb_) hb); clear HB; have HB := n0_; clear n0_; (try clear hb); (try clear hb2); (try clear hk); (try clear hi)))
             go_roundg k3
             case measure => have := HK3.out; omega
             case rel => exact ⟨(wrap64 (x20_3 + t352)), (wrap64 (x21_3 + 1)), (by first | rfl | (simp; done) | (simp [*]; done)), (by first | rfl | (simp; done) | (simp [*]; done)), H', ⟨by have := HK3.out; omega⟩, ⟨hb_⟩⟩
       · replace c61 := Bool.eq_false_iff.mpr c61
         subst c61
         have H1 : (some false) = some r := by rw [if_neg (show ¬ (false = true) by decide)] at H; exact H
         clear H
         have H := H1
         clear H1
         exact absurd (Option.some.inj H) (by rw [hr_]; decide)
     · rw [if_neg c59] at H
       have c59b0 : decide (x21_3 ≤ 9) = false := decide_eq_false c59
       clear c59
       by_cases c71 : x20_3 = 16
       · rw [if_pos c71] at H
         have c71b0 : (x20_3 == 16) = true := beq_iff_eq.mpr c71
         have c71b1 : (x20_3 != 16) = false := bne_eq_false_iff_eq.mpr c71
         clear c71
         have H' := Aside0.mk H
         clear H
         go_upto_region 31 with (fail)
         exact sixteen_j3 H'.out hr_ HR1 HC1 ⟨hb_⟩ rfl rfl (by assumption)
       · rw [if_neg c71] at H
         have c71b0 : (x20_3 == 16) = false := beq_eq_false_iff_ne.mpr c71
         have c71b1 : (x20_3 != 16) = true := bne_iff_ne.mpr c71
         exact absurd (Option.some.inj H) (by rw [hr_]; decide)
end Go.Proofs.Ytogafcjfaicpgaa.MC
