/- The law FnSixteenAround, walked: the lists that are around. No condition beyond those typed. -/
import Derived.Test.YtogafcjfaicpgaaMCx0
import Derived.Test.YtogafcjfaicpgaaMCx6
import Derived.Test.YtogafcjfaicpgaaMCx14
import Derived.Test.YtogafcjfaicpgaaMCx15
import Derived.Test.YtogafcjfaicpgaaMCx16
import Derived.Test.YtogafcjfaicpgaaMCx17
import Derived.Test.YtogafcjfaicpgaaMCx19
import Derived.Test.YtogafcjfaicpgaaMCx20
import Derived.Test.YtogafcjfaicpgaaHCe
namespace Go.Proofs.Ytogafcjfaicpgaa.MC
open Go.RowKit Go.Proofs.YtogafcjfaicpgaaW.PrintWords Go.Proofs.YtogafcjfaicpgaaW.PrintLast Go.Proofs.YtogafcjfaicpgaaW.PrintMore Go.Proofs.YtogafcjfaicpgaaV
attribute [local go_sem] max2_int min2_int max_two min_two max_three min_three max_four min_four   -- for this text's walks alone
set_option linter.unusedVariables false
set_option linter.unusedSimpArgs false

set_option maxHeartbeats 32000000 in
set_option maxRecDepth 100000 in
theorem sixteen_j0 {kq : Nat} {l1 : List Int} {A1 : Option Addr} {c1 : Nat} {t327 t336 : Int} {t328 : List (List Int)} {t329 x93_9 r : Bool} (HA : laws_FnSixteenAround.j0 kq l1 t327 t328 t329 t336 x93_9 = some r) {w wc : World} (hr_ : r = true) (HR1 : Aside0 (Kd.C (Kd.int .u8) w A1 l1.length l1)) (HC1 : Aside0 (l1.length ≤ c1)) {v330 : Value} (HO_6 : Aside0 (Kd.S (Kd.slice 3 (Kd.int .i64)) 33 wc w.heap.size (fun _ => True) v330 t328)) (HB : Aside0 (Below w.heap.size w wc)) {u0 u2 u3 u4 u8 u9 u11 u12 u13 u14 u15 u16 u17 u18 u19 u20 u21 u22 u23 u24 u25 u26 u27 u28 u29 u30 u31 u32 u33 u34 u35 u36 u37 u38 u39 u40 u41 u42 u43 u44 u45 u46 u47 u48 u49 u50 u51 u52 u53 u54 u55 u56 u57 u58 u59 u60 u61 u62 u63 u64 u65 u66 u67 u68 u69 u70 u71 u72 u73 u74 u75 u76 u77 u78 u79 u80 u81 u82 u83 u84 u85 u86 u87 u88 u89 u90 u91 u92 u94 u95 u96 u97 u98 u99 u100 u101 u102 u103 u104 u105 u106 u107 u108 u109 u110 u111 u112 u113 u114 u115 u116 u117 u118 u119 u120 u121 u122 u123 u124 u125 u126 u127 u128 u129 u130 u131 u132 u133 u134 u135 u136 u137 u138 u139 u140 u141 u142 u143 u144 u145 u146 u147 u148 u149 u150 u151 u152 u153 u154 u155 u156 u157 u158 u159 u160 u161 u162 u163 u164 u165 u166 u167 u168 u169 u170 u171 u172 u173 u174 u175 u176 u177 u178 u179 u180 u181 u182 u183 u184 u185 u186 u187 u188 u189 u190 u191 u192 u193 u194 u195 u196 u197 u198 u199 u200 u201 u202 u203 u204 u205 u206 u207 u208 u209 u210 u211 u212 u213 u214 u215 u216 u217 u218 u219 u220 u221 u222 u223 u224 u225 u226 u227 u228 u229 u230 u231 u232 u233 u234 u235 u236 u237 u238 u239 u240 u241 u242 u243 u244 u245 u246 u247 u248 u249 u250 u251 u252 u253 u254 u255 u256 u257 u258 u259 u260 u261 u262 u263 u264 u265 u266 u267 u268 u269 u270 u271 u272 u273 u274 u275 u276 u277 u278 u279 u280 u281 u282 u283 u284 u285 u286 u287 u288 u289 u290 u291 u292 u293 u294 u295 u296 u297 u298 u299 u300 u301 u302 u303 u304 u305 u306 u307 u308 u309 u310 u311 u312 u313 u314 u315 u316 u317 u318 u319 u320 u321 : Value} {K : Act → World → Prop} {cF cR : Code} (hF : sndC (fstC (sndC (sndC (sndC (sndC (sndC (sndC (sndC (bodyC Try.f5))))))))) = cF) (hR : sndC (sndC (sndC (sndC (sndC (sndC (sndC (sndC (bodyC Try.f5)))))))) = cR)
  (hK : ∀ (a' : Act) (w' : World), Code.wp Try.prog cR (bodyPost Try.prog Try.f5 fun e w' => e = .returned (.bool r) ∧ Below w.heap.size w w') a' w' → K a' w') :
  Code.wp Try.prog cF (Exit.then K (bodyPost Try.prog Try.f5 fun e w' => e = .returned (.bool r) ∧ Below w.heap.size w w')) { tmps := #[u0, .slice A1 l1.length c1, u2, u3, u4, .int .i64 t327, v330, .bool t329, u8, u9, .int .i64 t336, u11, u12, u13, u14, u15, u16, u17, u18, u19, u20, u21, u22, u23, u24, u25, u26, u27, u28, u29, u30, u31, u32, u33, u34, u35, u36, u37, u38, u39, u40, u41, u42, u43, u44, u45, u46, u47, u48, u49, u50, u51, u52, u53, u54, u55, u56, u57, u58, u59, u60, u61, u62, u63, u64, u65, u66, u67, u68, u69, u70, u71, u72, u73, u74, u75, u76, u77, u78, u79, u80, u81, u82, u83, u84, u85, u86, u87, u88, u89, u90, u91, u92, .bool x93_9, u94, u95, u96, u97, u98, u99, u100, u101, u102, u103, u104, u105, u106, u107, u108, u109, u110, u111, u112, u113, u114, u115, u116, u117, u118, u119, u120, u121, u122, u123, u124, u125, u126, u127, u128, u129, u130, u131, u132, u133, u134, u135, u136, u137, u138, u139, u140, u141, u142, u143, u144, u145, u146, u147, u148, u149, u150, u151, u152, u153, u154, u155, u156, u157, u158, u159, u160, u161, u162, u163, u164, u165, u166, u167, u168, u169, u170, u171, u172, u173, u174, u175, u176, u177, u178, u179, u180, u181, u182, u183, u184, u185, u186, u187, u188, u189, u190, u191, u192, u193, u194, u195, u196, u197, u198, u199, u200, u201, u202, u203, u204, u205, u206, u207, u208, u209, u210, u211, u212, u213, u214, u215, u216, u217, u218, u219, u220, u221, u222, u223, u224, u225, u226, u227, u228, u229, u230, u231, u232, u233, u234, u235, u236, u237, u238, u239, u240, u241, u242, u243, u244, u245, u246, u247, u248, u249, u250, u251, u252, u253, u254, u255, u256, u257, u258, u259, u260, u261, u262, u263, u264, u265, u266, u267, u268, u269, u270, u271, u272, u273, u274, u275, u276, u277, u278, u279, u280, u281, u282, u283, u284, u285, u286, u287, u288, u289, u290, u291, u292, u293, u294, u295, u296, u297, u298, u299, u300, u301, u302, u303, u304, u305, u306, u307, u308, u309, u310, u311, u312, u313, u314, u315, u316, u317, u318, u319, u320, u321], defers := [] } wc := by
 dsimp only [bodyC, thenC, sndC, fstC, Try.f5, Option.getD] at hF hR
 subst hF
 subst hR
 have HA := Aside0.mk HA
 cases kq with
 | zero => exact absurd HA.out (by simp [laws_FnSixteenAround.j0])
 | succ kj9 =>
   have H := HA.out
   clear HA
   simp only [laws_FnSixteenAround.j0] at H
   by_cases c29 : x93_9 = true
   · subst c29
     have H1 : (some false) = some r := by rw [if_pos rfl] at H; exact H
     clear H
     have H := H1
     clear H1
     exact absurd (Option.some.inj H) (by rw [hr_]; decide)
   · replace c29 := Bool.eq_false_iff.mpr c29
     subst c29
     have H1 : (if t329 = true then (if (t328.length : Int) = t336 then (laws_FnSixteenAround.l0 kj9 l1 t327 t328 t336 t328 (t328.length : Int) 0) else (some false)) else (laws_FnSixteenAround.j3 kj9 l1)) = some r := by rw [if_neg (show ¬ (false = true) by decide)] at H; exact H
     clear H
     have H := H1
     clear H1
     have HC30 := Aside0.mk H
     clear H
     go_upto_if 94 with (fail)
     have H := HC30.out
     clear HC30
     by_cases c31 : t329 = true
     · subst c31
       have H1 : (if (t328.length : Int) = t336 then (laws_FnSixteenAround.l0 kj9 l1 t327 t328 t336 t328 (t328.length : Int) 0) else (some false)) = some r := by rw [if_pos rfl] at H; exact H
       clear H
       have H := H1
       clear H1
       by_cases c32 : (t328.length : Int) = t336
       · rw [if_pos c32] at H
         have c32b0 : ((t328.length : Int) == t336) = true := beq_iff_eq.mpr c32
         have c32b1 : ((t328.length : Int) != t336) = false := bne_eq_false_iff_eq.mpr c32
         clear c32
         (first | rw [c32b0] | (simp only [i64_w, i32_w]; rw [c32b0]) | skip)
         have H' := Aside0.mk H
         clear H
         obtain ⟨Ao33, co33, eo33⟩ := Kd.S_slice HO_6.out
         subst eo33
         go_wp2
         go_loopg [101] kj9 (fun kq v101 w' => ∃ (x101_2 : Int), v101 = .int .i64 x101_2 ∧ Aside0 (laws_FnSixteenAround.l0 kq l1 t327 t328 t336 t328 (t328.length : Int) x101_2 = some r) ∧ Aside0 (kq ≤ kj9) ∧ Aside0 (Kd.S (Kd.slice 3 (Kd.int .i64)) 33 w' w.heap.size (fun _ => True) (.slice Ao33 t328.length co33) t328) ∧ Aside0 (Kd.S (Kd.slice 3 (Kd.int .i64)) 33 w' w.heap.size (fun _ => True) (.slice Ao33 t328.length co33) t328) ∧ Aside0 (Below w.heap.size w w'))
         case atStart => exact ⟨(0), (by first | rfl | (simp; done) | (simp [*]; done)), H', ⟨Nat.le_refl _⟩, ⟨by (with_reducible repeat (first | apply Kd.S_alloc | apply Kd.S_drewN | apply Kd.S_drew)); exact HO_6.out⟩, ⟨by (with_reducible repeat (first | apply Kd.S_alloc | apply Kd.S_drewN | apply Kd.S_drew)); exact HO_6.out⟩, ⟨hb_⟩⟩
         case round =>
           clear H'
           obtain ⟨x101_2, rfl, HA, HK2, HO_6, HO_99, HB⟩ := hrel
           cases gk with
           | zero => exact absurd HA.out (by simp [laws_FnSixteenAround.l0])
           | succ k2 =>
             have H := HA.out
             clear HA
             simp only [laws_FnSixteenAround.l0] at H
             by_cases c34 : x101_2 < (t328.length : Int)
             · rw [if_pos c34] at H
               have c34b0 : decide (x101_2 < (t328.length : Int)) = true := decide_eq_true c34
               clear c34
               by_cases c35 : 0 ≤ x101_2
               · rw [if_pos c35] at H
                 have c35b0 : decide (0 ≤ x101_2) = true := decide_eq_true c35
                 clear c35
                 by_cases c36 : x101_2 < (t328.length : Int)
                 · rw [if_pos c36] at H
                   have c36b0 : decide (x101_2 < (t328.length : Int)) = true := decide_eq_true c36
                   clear c36
                   replace H := Option.bind_eq_some_iff.mp H
                   obtain ⟨⟨t342, t343⟩, A370, H⟩ := H
                   replace H : ((impl_LeastNumbers.f k2 (rd_L2 t328 x101_2)).bind fun bt344 => (if ((rd_L2 t328 x101_2).length : Int) = t327 then (if t343 = true then (if t342 = true then (if bt344.2 = true then ((laws_eSame.f k2 bt344.1 (rd_L2 t328 x101_2)).bind fun t348 => (if t348 = true then ((laws_eSum.f k2 (rd_L2 t328 x101_2)).bind fun t349 => (if t349 = (wrap64 ((wrap64 (3 * t327)) - 12)) then (if x101_2 > 0 then (if 0 ≤ (wrap64 (x101_2 - 1)) then (if (wrap64 (x101_2 - 1)) < (t328.length : Int) then ((laws_eBefore.f k2 (rd_L2 t328 (wrap64 (x101_2 - 1))) (rd_L2 t328 x101_2)).bind fun t351 => (if t351 = true then (laws_FnSixteenAround.l0 k2 l1 t327 t328 t336 t328 (t328.length : Int) (wrap64 (x101_2 + 1))) else (some false))) else (none)) else (none)) else (laws_FnSixteenAround.l0 k2 l1 t327 t328 t336 t328 (t328.length : Int) (wrap64 (x101_2 + 1)))) else (some false))) else (some false))) else (some false)) else (some false)) else (some false)) else (some false))) = some r := H
                   have A37 := Aside0.mk A370
                   clear A370
                   replace H := Option.bind_eq_some_iff.mp H
                   obtain ⟨⟨t344, t345⟩, A380, H⟩ := H
                   replace H : (if ((rd_L2 t328 x101_2).length : Int) = t327 then (if t343 = true then (if t342 = true then (if t345 = true then ((laws_eSame.f k2 t344 (rd_L2 t328 x101_2)).bind fun t348 => (if t348 = true then ((laws_eSum.f k2 (rd_L2 t328 x101_2)).bind fun t349 => (if t349 = (wrap64 ((wrap64 (3 * t327)) - 12)) then (if x101_2 > 0 then (if 0 ≤ (wrap64 (x101_2 - 1)) then (if (wrap64 (x101_2 - 1)) < (t328.length : Int) then ((laws_eBefore.f k2 (rd_L2 t328 (wrap64 (x101_2 - 1))) (rd_L2 t328 x101_2)).bind fun t351 => (if t351 = true then (laws_FnSixteenAround.l0 k2 l1 t327 t328 t336 t328 (t328.length : Int) (wrap64 (x101_2 + 1))) else (some false))) else (none)) else (none)) else (laws_FnSixteenAround.l0 k2 l1 t327 t328 t336 t328 (t328.length : Int) (wrap64 (x101_2 + 1)))) else (some false))) else (some false))) else (some false)) else (some false)) else (some false)) else (some false)) = some r := H
                   have A38 := Aside0.mk A380
                   clear A380
                   by_cases c39 : ((rd_L2 t328 x101_2).length : Int) = t327
                   · rw [if_pos c39] at H
                     have c39b0 : (((rd_L2 t328 x101_2).length : Int) == t327) = true := beq_iff_eq.mpr c39
                     have c39b1 : (((rd_L2 t328 x101_2).length : Int) != t327) = false := bne_eq_false_iff_eq.mpr c39
                     clear c39
                     by_cases c40 : t343 = true
                     · subst c40
                       have H1 : (if t342 = true then (if t345 = true then ((laws_eSame.f k2 t344 (rd_L2 t328 x101_2)).bind fun t348 => (if t348 = true then ((laws_eSum.f k2 (rd_L2 t328 x101_2)).bind fun t349 => (if t349 = (wrap64 ((wrap64 (3 * t327)) - 12)) then (if x101_2 > 0 then (if 0 ≤ (wrap64 (x101_2 - 1)) then (if (wrap64 (x101_2 - 1)) < (t328.length : Int) then ((laws_eBefore.f k2 (rd_L2 t328 (wrap64 (x101_2 - 1))) (rd_L2 t328 x101_2)).bind fun t351 => (if t351 = true then (laws_FnSixteenAround.l0 k2 l1 t327 t328 t336 t328 (t328.length : Int) (wrap64 (x101_2 + 1))) else (some false))) else (none)) else (none)) else (laws_FnSixteenAround.l0 k2 l1 t327 t328 t336 t328 (t328.length : Int) (wrap64 (x101_2 + 1)))) else (some false))) else (some false))) else (some false)) else (some false)) = some r := by rw [if_pos rfl] at H; exact H
                       clear H
                       have H := H1
                       clear H1
                       by_cases c41 : t342 = true
                       · subst c41
                         have H1 : (if t345 = true then ((laws_eSame.f k2 t344 (rd_L2 t328 x101_2)).bind fun t348 => (if t348 = true then ((laws_eSum.f k2 (rd_L2 t328 x101_2)).bind fun t349 => (if t349 = (wrap64 ((wrap64 (3 * t327)) - 12)) then (if x101_2 > 0 then (if 0 ≤ (wrap64 (x101_2 - 1)) then (if (wrap64 (x101_2 - 1)) < (t328.length : Int) then ((laws_eBefore.f k2 (rd_L2 t328 (wrap64 (x101_2 - 1))) (rd_L2 t328 x101_2)).bind fun t351 => (if t351 = true then (laws_FnSixteenAround.l0 k2 l1 t327 t328 t336 t328 (t328.length : Int) (wrap64 (x101_2 + 1))) else (some false))) else (none)) else (none)) else (laws_FnSixteenAround.l0 k2 l1 t327 t328 t336 t328 (t328.length : Int) (wrap64 (x101_2 + 1)))) else (some false))) else (some false))) else (some false)) = some r := by rw [if_pos rfl] at H; exact H
                         clear H
                         have H := H1
                         clear H1
                         by_cases c42 : t345 = true
                         · subst c42
                           have H1 : ((laws_eSame.f k2 t344 (rd_L2 t328 x101_2)).bind fun t348 => (if t348 = true then ((laws_eSum.f k2 (rd_L2 t328 x101_2)).bind fun t349 => (if t349 = (wrap64 ((wrap64 (3 * t327)) - 12)) then (if x101_2 > 0 then (if 0 ≤ (wrap64 (x101_2 - 1)) then (if (wrap64 (x101_2 - 1)) < (t328.length : Int) then ((laws_eBefore.f k2 (rd_L2 t328 (wrap64 (x101_2 - 1))) (rd_L2 t328 x101_2)).bind fun t351 => (if t351 = true then (laws_FnSixteenAround.l0 k2 l1 t327 t328 t336 t328 (t328.length : Int) (wrap64 (x101_2 + 1))) else (some false))) else (none)) else (none)) else (laws_FnSixteenAround.l0 k2 l1 t327 t328 t336 t328 (t328.length : Int) (wrap64 (x101_2 + 1)))) else (some false))) else (some false))) = some r := by rw [if_pos rfl] at H; exact H
                           clear H
                           have H := H1
                           clear H1
                           replace H := Option.bind_eq_some_iff.mp H
                           obtain ⟨t348, A430, H⟩ := H
                           replace H : (if t348 = true then ((laws_eSum.f k2 (rd_L2 t328 x101_2)).bind fun t349 => (if t349 = (wrap64 ((wrap64 (3 * t327)) - 12)) then (if x101_2 > 0 then (if 0 ≤ (wrap64 (x101_2 - 1)) then (if (wrap64 (x101_2 - 1)) < (t328.length : Int) then ((laws_eBefore.f k2 (rd_L2 t328 (wrap64 (x101_2 - 1))) (rd_L2 t328 x101_2)).bind fun t351 => (if t351 = true then (laws_FnSixteenAround.l0 k2 l1 t327 t328 t336 t328 (t328.length : Int) (wrap64 (x101_2 + 1))) else (some false))) else (none)) else (none)) else (laws_FnSixteenAround.l0 k2 l1 t327 t328 t336 t328 (t328.length : Int) (wrap64 (x101_2 + 1)))) else (some false))) else (some false)) = some r := H
                           have A43 := Aside0.mk A430
                           clear A430
                           by_cases c44 : t348 = true
                           · subst c44
                             have H1 : ((laws_eSum.f k2 (rd_L2 t328 x101_2)).bind fun t349 => (if t349 = (wrap64 ((wrap64 (3 * t327)) - 12)) then (if x101_2 > 0 then (if 0 ≤ (wrap64 (x101_2 - 1)) then (if (wrap64 (x101_2 - 1)) < (t328.length : Int) then ((laws_eBefore.f k2 (rd_L2 t328 (wrap64 (x101_2 - 1))) (rd_L2 t328 x101_2)).bind fun t351 => (if t351 = true then (laws_FnSixteenAround.l0 k2 l1 t327 t328 t336 t328 (t328.length : Int) (wrap64 (x101_2 + 1))) else (some false))) else (none)) else (none)) else (laws_FnSixteenAround.l0 k2 l1 t327 t328 t336 t328 (t328.length : Int) (wrap64 (x101_2 + 1)))) else (some false))) = some r := by rw [if_pos rfl] at H; exact H
                             clear H
                             have H := H1
                             clear H1
                             replace H := Option.bind_eq_some_iff.mp H
                             obtain ⟨t349, A450, H⟩ := H
                             replace H : (if t349 = (wrap64 ((wrap64 (3 * t327)) - 12)) then (if x101_2 > 0 then (if 0 ≤ (wrap64 (x101_2 - 1)) then (if (wrap64 (x101_2 - 1)) < (t328.length : Int) then ((laws_eBefore.f k2 (rd_L2 t328 (wrap64 (x101_2 - 1))) (rd_L2 t328 x101_2)).bind fun t351 => (if t351 = true then (laws_FnSixteenAround.l0 k2 l1 t327 t328 t336 t328 (t328.length : Int) (wrap64 (x101_2 + 1))) else (some false))) else (none)) else (none)) else (laws_FnSixteenAround.l0 k2 l1 t327 t328 t336 t328 (t328.length : Int) (wrap64 (x101_2 + 1)))) else (some false)) = some r := H
                             have A45 := Aside0.mk A450
                             clear A450
                             by_cases c46 : t349 = (wrap64 ((wrap64 (3 * t327)) - 12))
                             · rw [if_pos c46] at H
                               have c46b0 : (t349 == (wrap64 ((wrap64 (3 * t327)) - 12))) = true := beq_iff_eq.mpr c46
                               have c46b1 : (t349 != (wrap64 ((wrap64 (3 * t327)) - 12))) = false := bne_eq_false_iff_eq.mpr c46
                               clear c46
                               by_cases c47 : x101_2 > 0
                               · rw [if_pos c47] at H
                                 have c47b0 : decide (0 < x101_2) = true := decide_eq_true c47
                                 clear c47
                                 obtain ⟨ji48, hji48⟩ : ∃ j_ : Int, (wrap64 (x101_2 - 1)) = j_ := ⟨_, rfl⟩
                                 replace H : (if 0 ≤ (ji48) then (if (ji48) < (t328.length : Int) then ((laws_eBefore.f k2 (rd_L2 t328 (ji48)) (rd_L2 t328 x101_2)).bind fun t351 => (if t351 = true then (laws_FnSixteenAround.l0 k2 l1 t327 t328 t336 t328 (t328.length : Int) (wrap64 (x101_2 + 1))) else (some false))) else (none)) else (none)) = some r := by first | (rw [hji48] at H; exact H) | (simp only [hji48] at H ⊢; exact H)
                                 (try rw [hji48] at A37)
                                 (try rw [hji48] at A38)
                                 (try rw [hji48] at A43)
                                 (try rw [hji48] at A45)
                                 have hji48w : (IntKind.i64.wrap (x101_2 - 1)) = ji48 := (i64_w _).trans hji48
                                 by_cases c49 : 0 ≤ (ji48)
                                 · rw [if_pos c49] at H
                                   have c49b0 : decide (0 ≤ (ji48)) = true := decide_eq_true c49
                                   clear c49
                                   by_cases c50 : (ji48) < (t328.length : Int)
                                   · rw [if_pos c50] at H
                                     have c50b0 : decide ((ji48) < (t328.length : Int)) = true := decide_eq_true c50
                                     clear c50
                                     replace H := Option.bind_eq_some_iff.mp H
                                     obtain ⟨t351, A510, H⟩ := H
                                     replace H : (if t351 = true then (laws_FnSixteenAround.l0 k2 l1 t327 t328 t336 t328 (t328.length : Int) (wrap64 (x101_2 + 1))) else (some false)) = some r := H
                                     have A51 := Aside0.mk A510
                                     clear A510
                                     by_cases c52 : t351 = true
                                     · subst c52
                                       have H1 : (laws_FnSixteenAround.l0 k2 l1 t327 t328 t336 t328 (t328.length : Int) (wrap64 (x101_2 + 1))) = some r := by rw [if_pos rfl] at H; exact H
                                       clear H
                                       have H := H1
                                       clear H1
                                       have H' := Aside0.mk H
                                       clear H
                                       have p341 : 0 ≤ (x101_2 : Int) := odt_
                                       have q341 : x101_2 < (t328.length : Int) := odt_
                                       obtain ⟨ad341, A341_0, c341_0, e341, hx341_0, hl341_0, hi341_0⟩ := at_L2 (Kd.S_reads' HO_99.out).2.2 x101_2 p341 q341
                                       cases e341
                                       obtain ⟨ce341, hce341, hMe341, hcc341⟩ := Kd.S_get HO_99.out [] x101_2 p341 (by first | exact q341 | exact odt_ | (have e_ := (Kd.S_reads' HO_99.out).1; omega))
                                       obtain ⟨ve341_0, rfl, ge341_0⟩ := hMe341
                                       have hv341_0 := hcc341 0 _ rfl
                                       rw [Nat.add_zero, show ((Kd.slice 3 (Kd.int .i64))).sz = 1 from rfl, Nat.mul_one] at hv341_0
                                       replace hv341_0 := Option.some.inj (hv341_0.symm.trans hx341_0)
                                       rw [hv341_0] at ge341_0
                                       have HL341_0 := Aside0.mk (show Kd.R (Kd.int .i64) 3 _ _ _ _ (rd_L2 t328 x101_2) from ge341_0)
                                       clear hv341_0 ge341_0
                                       clear hcc341 hce341
                                       have HR341_0 := Aside0.mk hi341_0
                                       have HC341_0 := Aside0.mk hl341_0
                                       clear hi341_0 hl341_0
                                       replace p341 := eq_true p341
                                       replace q341 := eq_true q341
                                       go_wp2_with (first | ((with_reducible refine gate_callee (f := 16) rfl ?_); refine goesL_ (some 108) rfl rfl Try.func16 (by kernel_rfl) rfl #[.slice A341_0 (rd_L2 t328 x101_2).length c341_0] rfl ga_ ?_; (with_reducible refine (impl_AreAround.calls k2 _ _ (rd_L2 t328 x101_2) true true _ ?side1 ?side2 A37.out).mono ?_); (case side1 => repeat (first | exact (by repeat (first | (with_reducible exact HR341_0.out) | (with_reducible refine Kd.C_alloc ?_ _) | (with_reducible refine Kd.C_drewN ?_ _) | (with_reducible refine Kd.C_drew ?_) | exact HR341_0.out)) | (with_reducible refine Kd.C_alloc ?_ _) | (with_reducible refine Kd.C_drewN ?_ _) | (with_reducible refine Kd.C_drew ?_))); (case side2 => exact HC341_0.out); rintro e w53 ⟨rfl, hb⟩; refine ⟨_, rfl, ?_⟩; have n0_ := Aside0.mk (Kd.S_below (by (with_reducible repeat (first | apply Kd.S_alloc | apply Kd.S_drewN | apply Kd.S_drew)); exact HO_6.out) hb); have n1_ := Aside0.mk (Kd.S_below (by (with_reducible repeat (first | apply Kd.S_alloc | apply Kd.S_drewN | apply Kd.S_drew)); exact HO_99.out) hb); have n2_ := Aside0.mk (Kd.R_below (by (with_reducible repeat (first | apply Kd.R_alloc | apply Kd.R_drewN | apply Kd.R_drew)); exact HL341_0.out) hb); have n3_ := Aside0.mk (Kd.C_below (by repeat (first | (with_reducible exact HR341_0.out) | (with_reducible refine Kd.C_alloc ?_ _) | (with_reducible refine Kd.C_drewN ?_ _) | (with_reducible refine Kd.C_drew ?_) | exact HR341_0.out)) hb); have n4_ := Aside0.mk (below_step (hb_) hb); clear HO_6; clear HO_99; clear HL341_0; clear HR341_0; clear HB; have HO_6 := n0_; have HO_99 := n1_; have HL341_0 := n2_; have HR341_0 := n3_; have HB := n4_; clear n0_ n1_ n2_ n3_ n4_; (try clear hb); (try clear hb2); (try clear hk); (try clear hi)) | ((with_reducible refine gate_callee (f := 17) rfl ?_); refine goesL_ (some 113) rfl rfl Try.func17 (by kernel_rfl) rfl #[.slice A341_0 (rd_L2 t328 x101_2).length c341_0] rfl ga_ ?_; (with_reducible refine (impl_LeastNumbers.calls k2 _ _ (rd_L2 t328 x101_2) t344 true _ ?side1 ?side2 A38.out).mono ?_); (case side1 => repeat (first | exact (by repeat (first | (with_reducible exact HR341_0.out) | (with_reducible refine Kd.C_alloc ?_ _) | (with_reducible refine Kd.C_drewN ?_ _) | (with_reducible refine Kd.C_drew ?_) | exact HR341_0.out)) | (with_reducible refine Kd.C_alloc ?_ _) | (with_reducible refine Kd.C_drewN ?_ _) | (with_reducible refine Kd.C_drew ?_))); (case side2 => exact HC341_0.out); rintro e w54 ⟨v346, rfl, ho0, hb⟩; refine ⟨_, rfl, ?_⟩; have n0_ := Aside0.mk (Kd.S_elder' (by (with_reducible repeat (first | apply Kd.S_alloc | apply Kd.S_drewN | apply Kd.S_drew)); exact HO_6.out) (Kd.R_base ho0) hb); have n1_ := Aside0.mk (Kd.S_elder' (by (with_reducible repeat (first | apply Kd.S_alloc | apply Kd.S_drewN | apply Kd.S_drew)); exact HO_99.out) (Kd.R_base ho0) hb); have n2_ := Aside0.mk (Kd.R_elder' (by (with_reducible repeat (first | apply Kd.R_alloc | apply Kd.R_drewN | apply Kd.R_drew)); exact HL341_0.out) (Kd.R_base ho0) hb); have n3_ := Aside0.mk (Kd.R_lower (Kd.R_new' ho0 (Kd.R_lt (by (with_reducible repeat (first | apply Kd.R_alloc | apply Kd.R_drewN | apply Kd.R_drew)); exact HL341_0.out))) (below_size (hb_))); have n4_ := Aside0.mk (Kd.C_below (by repeat (first | (with_reducible exact HR341_0.out) | (with_reducible refine Kd.C_alloc ?_ _) | (with_reducible refine Kd.C_drewN ?_ _) | (with_reducible refine Kd.C_drew ?_) | exact HR341_0.out)) hb); have n5_ := Aside0.mk (below_step (hb_) hb); clear HO_6; clear HO_99; clear HL341_0; clear HR341_0; clear HB; have HO_6 := n0_; have HO_99 := n1_; have HL341_0 := n2_; have HO347 := n3_; have HR341_0 := n4_; have HB := n5_; clear n0_ n1_ n2_ n3_ n4_ n5_; (try clear hb); (try clear hb2); (try clear hk); (try clear hi); (try clear ho0); obtain ⟨Ao55, co55, eo55⟩ := Kd.R_slice HO347.out; subst eo55) | (go_at_call 18; (with_reducible refine (laws_eSame.calls k2 _ _ t344 _ _ (rd_L2 t328 x101_2) true _ ?side1 ?side2 ?side3 ?side4 A43.out).mono ?_); (case side1 => repeat (first | exact (Kd.R_reads' HO347.out).2.2 | (with_reducible refine Kd.C_alloc ?_ _) | (with_reducible refine Kd.C_drewN ?_ _) | (with_reducible refine Kd.C_drew ?_))); (case side2 => exact (Kd.R_reads' HO347.out).2.1); (case side3 => repeat (first | exact (by repeat (first | (with_reducible exact HR341_0.out) | (with_reducible refine Kd.C_alloc ?_ _) | (with_reducible refine Kd.C_drewN ?_ _) | (with_reducible refine Kd.C_drew ?_) | exact HR341_0.out)) | (with_reducible refine Kd.C_alloc ?_ _) | (with_reducible refine Kd.C_drewN ?_ _) | (with_reducible refine Kd.C_drew ?_))); (case side4 => exact HC341_0.out); rintro e w' ⟨rfl, ⟨nd, rfl⟩⟩) | (go_at_call 19; (with_reducible refine (laws_eSum.calls k2 _ _ (rd_L2 t328 x101_2) t349 _ ?side1 ?side2 A45.out).mono ?_); (case side1 => repeat (first | exact (by repeat (first | (with_reducible exact HR341_0.out) | (with_reducible refine Kd.C_alloc ?_ _) | (with_reducible refine Kd.C_drewN ?_ _) | (with_reducible refine Kd.C_drew ?_) | exact HR341_0.out)) | (with_reducible refine Kd.C_alloc ?_ _) | (with_reducible refine Kd.C_drewN ?_ _) | (with_reducible refine Kd.C_drew ?_))); (case side2 => exact HC341_0.out); rintro e w' ⟨rfl, ⟨nd, rfl⟩⟩; have p350 : 0 ≤ ((ji48) : Int) := odt_; have q350 : (ji48) < (t328.length : Int) := odt_; obtain ⟨ad350, A350_0, c350_0, e350, hx350_0, hl350_0, hi350_0⟩ := at_L2 (Kd.S_reads' HO_6.out).2.2 (ji48) p350 q350; obtain rfl : ad341 = ad350 := (by injection e350); obtain ⟨ce350, hce350, hMe350, hcc350⟩ := Kd.S_get HO_6.out [] (ji48) p350 (by first | exact q350 | exact odt_ | (have e_ := (Kd.S_reads' HO_6.out).1; omega)); obtain ⟨ve350_0, rfl, ge350_0⟩ := hMe350; have hv350_0 := hcc350 0 _ rfl; rw [Nat.add_zero, show ((Kd.slice 3 (Kd.int .i64))).sz = 1 from rfl, Nat.mul_one] at hv350_0; replace hv350_0 := Option.some.inj (hv350_0.symm.trans hx350_0); rw [hv350_0] at ge350_0; have HL350_0 := Aside0.mk (show Kd.R (Kd.int .i64) 3 _ _ _ _ (rd_L2 t328 (ji48)) from ge350_0); clear hv350_0 ge350_0; clear hcc350 hce350; have HR350_0 := Aside0.mk hi350_0; have HC350_0 := Aside0.mk hl350_0; clear hi350_0 hl350_0; replace p350 := eq_true p350; replace q350 := eq_true q350) | (go_at_call 20; (with_reducible refine (laws_eBefore.calls k2 _ _ (rd_L2 t328 (ji48)) _ _ (rd_L2 t328 x101_2) true _ ?side1 ?side2 ?side3 ?side4 A51.out).mono ?_); (case side1 => repeat (first | exact (by repeat (first | (with_reducible exact HR350_0.out) | (with_reducible refine Kd.C_alloc ?_ _) | (with_reducible refine Kd.C_drewN ?_ _) | (with_reducible refine Kd.C_drew ?_) | exact HR350_0.out)) | (with_reducible refine Kd.C_alloc ?_ _) | (with_reducible refine Kd.C_drewN ?_ _) | (with_reducible refine Kd.C_drew ?_))); (case side2 => exact HC350_0.out); (case side3 => repeat (first | exact (by repeat (first | (with_reducible exact HR341_0.out) | (with_reducible refine Kd.C_alloc ?_ _) | (with_reducible refine Kd.C_drewN ?_ _) | (with_reducible refine Kd.C_drew ?_) | exact HR341_0.out)) | (with_reducible refine Kd.C_alloc ?_ _) | (with_reducible refine Kd.C_drewN ?_ _) | (with_reducible refine Kd.C_drew ?_))); (case side4 => exact HC341_0.out); rintro e w' ⟨rfl, ⟨nd, rfl⟩⟩))
                                       go_roundg k2
                                       case measure => have := HK2.out; omega
                                       case rel => exact ⟨(wrap64 (x101_2 + 1)), (by first | rfl | (simp; done) | (simp [*]; done)), H', ⟨by have := HK2.out; omega⟩, ⟨by (with_reducible repeat (first | apply Kd.S_alloc | apply Kd.S_drewN | apply Kd.S_drew)); exact Kd.S_mono HO_6.out (fun _ hk => trivial)⟩, ⟨by (with_reducible repeat (first | apply Kd.S_alloc | apply Kd.S_drewN | apply Kd.S_drew)); exact Kd.S_mono HO_99.out (fun _ hk => trivial)⟩, ⟨hb_⟩⟩
                                     · replace c52 := Bool.eq_false_iff.mpr c52
                                       subst c52
                                       have H1 : (some false) = some r := by rw [if_neg (show ¬ (false = true) by decide)] at H; exact H
                                       clear H
                                       have H := H1
                                       clear H1
                                       exact absurd (Option.some.inj H) (by rw [hr_]; decide)
                                   · rw [if_neg c50] at H
                                     exact absurd H (by simp)
                                 · rw [if_neg c49] at H
                                   exact absurd H (by simp)
                               · rw [if_neg c47] at H
                                 have c47b0 : decide (0 < x101_2) = false := decide_eq_false c47
                                 clear c47
                                 have H' := Aside0.mk H
                                 clear H
                                 have p341 : 0 ≤ (x101_2 : Int) := odt_
                                 have q341 : x101_2 < (t328.length : Int) := odt_
                                 obtain ⟨ad341, A341_0, c341_0, e341, hx341_0, hl341_0, hi341_0⟩ := at_L2 (Kd.S_reads' HO_99.out).2.2 x101_2 p341 q341
                                 cases e341
                                 obtain ⟨ce341, hce341, hMe341, hcc341⟩ := Kd.S_get HO_99.out [] x101_2 p341 (by first | exact q341 | exact odt_ | (have e_ := (Kd.S_reads' HO_99.out).1; omega))
                                 obtain ⟨ve341_0, rfl, ge341_0⟩ := hMe341
                                 have hv341_0 := hcc341 0 _ rfl
                                 rw [Nat.add_zero, show ((Kd.slice 3 (Kd.int .i64))).sz = 1 from rfl, Nat.mul_one] at hv341_0
                                 replace hv341_0 := Option.some.inj (hv341_0.symm.trans hx341_0)
                                 rw [hv341_0] at ge341_0
                                 have HL341_0 := Aside0.mk (show Kd.R (Kd.int .i64) 3 _ _ _ _ (rd_L2 t328 x101_2) from ge341_0)
                                 clear hv341_0 ge341_0
                                 clear hcc341 hce341
                                 have HR341_0 := Aside0.mk hi341_0
                                 have HC341_0 := Aside0.mk hl341_0
                                 clear hi341_0 hl341_0
                                 replace p341 := eq_true p341
                                 replace q341 := eq_true q341
                                 go_wp2_with (first | ((with_reducible refine gate_callee (f := 16) rfl ?_); refine goesL_ (some 108) rfl rfl Try.func16 (by kernel_rfl) rfl #[.slice A341_0 (rd_L2 t328 x101_2).length c341_0] rfl ga_ ?_; (with_reducible refine (impl_AreAround.calls k2 _ _ (rd_L2 t328 x101_2) true true _ ?side1 ?side2 A37.out).mono ?_); (case side1 => repeat (first | exact (by repeat (first | (with_reducible exact HR341_0.out) | (with_reducible refine Kd.C_alloc ?_ _) | (with_reducible refine Kd.C_drewN ?_ _) | (with_reducible refine Kd.C_drew ?_) | exact HR341_0.out)) | (with_reducible refine Kd.C_alloc ?_ _) | (with_reducible refine Kd.C_drewN ?_ _) | (with_reducible refine Kd.C_drew ?_))); (case side2 => exact HC341_0.out); rintro e w56 ⟨rfl, hb⟩; refine ⟨_, rfl, ?_⟩; have n0_ := Aside0.mk (Kd.S_below (by (with_reducible repeat (first | apply Kd.S_alloc | apply Kd.S_drewN | apply Kd.S_drew)); exact HO_6.out) hb); have n1_ := Aside0.mk (Kd.S_below (by (with_reducible repeat (first | apply Kd.S_alloc | apply Kd.S_drewN | apply Kd.S_drew)); exact HO_99.out) hb); have n2_ := Aside0.mk (Kd.R_below (by (with_reducible repeat (first | apply Kd.R_alloc | apply Kd.R_drewN | apply Kd.R_drew)); exact HL341_0.out) hb); have n3_ := Aside0.mk (Kd.C_below (by repeat (first | (with_reducible exact HR341_0.out) | (with_reducible refine Kd.C_alloc ?_ _) | (with_reducible refine Kd.C_drewN ?_ _) | (with_reducible refine Kd.C_drew ?_) | exact HR341_0.out)) hb); have n4_ := Aside0.mk (below_step (hb_) hb); clear HO_6; clear HO_99; clear HL341_0; clear HR341_0; clear HB; have HO_6 := n0_; have HO_99 := n1_; have HL341_0 := n2_; have HR341_0 := n3_; have HB := n4_; clear n0_ n1_ n2_ n3_ n4_; (try clear hb); (try clear hb2); (try clear hk); (try clear hi)) | ((with_reducible refine gate_callee (f := 17) rfl ?_); refine goesL_ (some 113) rfl rfl Try.func17 (by kernel_rfl) rfl #[.slice A341_0 (rd_L2 t328 x101_2).length c341_0] rfl ga_ ?_; (with_reducible refine (impl_LeastNumbers.calls k2 _ _ (rd_L2 t328 x101_2) t344 true _ ?side1 ?side2 A38.out).mono ?_); (case side1 => repeat (first | exact (by repeat (first | (with_reducible exact HR341_0.out) | (with_reducible refine Kd.C_alloc ?_ _) | (with_reducible refine Kd.C_drewN ?_ _) | (with_reducible refine Kd.C_drew ?_) | exact HR341_0.out)) | (with_reducible refine Kd.C_alloc ?_ _) | (with_reducible refine Kd.C_drewN ?_ _) | (with_reducible refine Kd.C_drew ?_))); (case side2 => exact HC341_0.out); rintro e w57 ⟨v346, rfl, ho0, hb⟩; refine ⟨_, rfl, ?_⟩; have n0_ := Aside0.mk (Kd.S_elder' (by (with_reducible repeat (first | apply Kd.S_alloc | apply Kd.S_drewN | apply Kd.S_drew)); exact HO_6.out) (Kd.R_base ho0) hb); have n1_ := Aside0.mk (Kd.S_elder' (by (with_reducible repeat (first | apply Kd.S_alloc | apply Kd.S_drewN | apply Kd.S_drew)); exact HO_99.out) (Kd.R_base ho0) hb); have n2_ := Aside0.mk (Kd.R_elder' (by (with_reducible repeat (first | apply Kd.R_alloc | apply Kd.R_drewN | apply Kd.R_drew)); exact HL341_0.out) (Kd.R_base ho0) hb); have n3_ := Aside0.mk (Kd.R_lower (Kd.R_new' ho0 (Kd.R_lt (by (with_reducible repeat (first | apply Kd.R_alloc | apply Kd.R_drewN | apply Kd.R_drew)); exact HL341_0.out))) (below_size (hb_))); have n4_ := Aside0.mk (Kd.C_below (by repeat (first | (with_reducible exact HR341_0.out) | (with_reducible refine Kd.C_alloc ?_ _) | (with_reducible refine Kd.C_drewN ?_ _) | (with_reducible refine Kd.C_drew ?_) | exact HR341_0.out)) hb); have n5_ := Aside0.mk (below_step (hb_) hb); clear HO_6; clear HO_99; clear HL341_0; clear HR341_0; clear HB; have HO_6 := n0_; have HO_99 := n1_; have HL341_0 := n2_; have HO347 := n3_; have HR341_0 := n4_; have HB := n5_; clear n0_ n1_ n2_ n3_ n4_ n5_; (try clear hb); (try clear hb2); (try clear hk); (try clear hi); (try clear ho0); obtain ⟨Ao58, co58, eo58⟩ := Kd.R_slice HO347.out; subst eo58) | (go_at_call 18; (with_reducible refine (laws_eSame.calls k2 _ _ t344 _ _ (rd_L2 t328 x101_2) true _ ?side1 ?side2 ?side3 ?side4 A43.out).mono ?_); (case side1 => repeat (first | exact (Kd.R_reads' HO347.out).2.2 | (with_reducible refine Kd.C_alloc ?_ _) | (with_reducible refine Kd.C_drewN ?_ _) | (with_reducible refine Kd.C_drew ?_))); (case side2 => exact (Kd.R_reads' HO347.out).2.1); (case side3 => repeat (first | exact (by repeat (first | (with_reducible exact HR341_0.out) | (with_reducible refine Kd.C_alloc ?_ _) | (with_reducible refine Kd.C_drewN ?_ _) | (with_reducible refine Kd.C_drew ?_) | exact HR341_0.out)) | (with_reducible refine Kd.C_alloc ?_ _) | (with_reducible refine Kd.C_drewN ?_ _) | (with_reducible refine Kd.C_drew ?_))); (case side4 => exact HC341_0.out); rintro e w' ⟨rfl, ⟨nd, rfl⟩⟩) | (go_at_call 19; (with_reducible refine (laws_eSum.calls k2 _ _ (rd_L2 t328 x101_2) t349 _ ?side1 ?side2 A45.out).mono ?_); (case side1 => repeat (first | exact (by repeat (first | (with_reducible exact HR341_0.out) | (with_reducible refine Kd.C_alloc ?_ _) | (with_reducible refine Kd.C_drewN ?_ _) | (with_reducible refine Kd.C_drew ?_) | exact HR341_0.out)) | (with_reducible refine Kd.C_alloc ?_ _) | (with_reducible refine Kd.C_drewN ?_ _) | (with_reducible refine Kd.C_drew ?_))); (case side2 => exact HC341_0.out); rintro e w' ⟨rfl, ⟨nd, rfl⟩⟩))
                                 go_roundg k2
                                 case measure => have := HK2.out; omega
                                 case rel => exact ⟨(wrap64 (x101_2 + 1)), (by first | rfl | (simp; done) | (simp [*]; done)), H', ⟨by have := HK2.out; omega⟩, ⟨by (with_reducible repeat (first | apply Kd.S_alloc | apply Kd.S_drewN | apply Kd.S_drew)); exact Kd.S_mono HO_6.out (fun _ hk => trivial)⟩, ⟨by (with_reducible repeat (first | apply Kd.S_alloc | apply Kd.S_drewN | apply Kd.S_drew)); exact Kd.S_mono HO_99.out (fun _ hk => trivial)⟩, ⟨hb_⟩⟩
                             · rw [if_neg c46] at H
                               have c46b0 : (t349 == (wrap64 ((wrap64 (3 * t327)) - 12))) = false := beq_eq_false_iff_ne.mpr c46
                               have c46b1 : (t349 != (wrap64 ((wrap64 (3 * t327)) - 12))) = true := bne_iff_ne.mpr c46
                               exact absurd (Option.some.inj H) (by rw [hr_]; decide)
                           · replace c44 := Bool.eq_false_iff.mpr c44
                             subst c44
                             have H1 : (some false) = some r := by rw [if_neg (show ¬ (false = true) by decide)] at H; exact H
                             clear H
                             have H := H1
                             clear H1
                             exact absurd (Option.some.inj H) (by rw [hr_]; decide)
                         · replace c42 := Bool.eq_false_iff.mpr c42
                           subst c42
                           have H1 : (some false) = some r := by rw [if_neg (show ¬ (false = true) by decide)] at H; exact H
                           clear H
                           have H := H1
                           clear H1
                           exact absurd (Option.some.inj H) (by rw [hr_]; decide)
                       · replace c41 := Bool.eq_false_iff.mpr c41
                         subst c41
                         have H1 : (some false) = some r := by rw [if_neg (show ¬ (false = true) by decide)] at H; exact H
                         clear H
                         have H := H1
                         clear H1
                         exact absurd (Option.some.inj H) (by rw [hr_]; decide)
                     · replace c40 := Bool.eq_false_iff.mpr c40
                       subst c40
                       have H1 : (some false) = some r := by rw [if_neg (show ¬ (false = true) by decide)] at H; exact H
                       clear H
                       have H := H1
                       clear H1
                       exact absurd (Option.some.inj H) (by rw [hr_]; decide)
                   · rw [if_neg c39] at H
                     have c39b0 : (((rd_L2 t328 x101_2).length : Int) == t327) = false := beq_eq_false_iff_ne.mpr c39
                     have c39b1 : (((rd_L2 t328 x101_2).length : Int) != t327) = true := bne_iff_ne.mpr c39
                     exact absurd (Option.some.inj H) (by rw [hr_]; decide)
                 · rw [if_neg c36] at H
                   exact absurd H (by simp)
               · rw [if_neg c35] at H
                 exact absurd H (by simp)
             · rw [if_neg c34] at H
               have c34b0 : decide (x101_2 < (t328.length : Int)) = false := decide_eq_false c34
               clear c34
               have H' := Aside0.mk H
               clear H
               go_upto_region 21 with (fail)
               exact sixteen_l1 H'.out hr_ HR1 HC1 ⟨hb_⟩ rfl rfl rfl (by assumption) (by assumption)
       · rw [if_neg c32] at H
         have c32b0 : ((t328.length : Int) == t336) = false := beq_eq_false_iff_ne.mpr c32
         have c32b1 : ((t328.length : Int) != t336) = true := bne_iff_ne.mpr c32
         (first | rw [c32b0] | (simp only [i64_w, i32_w]; rw [c32b0]) | skip)
         exact absurd (Option.some.inj H) (by rw [hr_]; decide)
     · replace c31 := Bool.eq_false_iff.mpr c31
       subst c31
       have H1 : (laws_FnSixteenAround.j3 kj9 l1) = some r := by rw [if_neg (show ¬ (false = true) by decide)] at H; exact H
       clear H
       have H := H1
       clear H1
       have H' := Aside0.mk H
       clear H
       go_upto_region 31 with (fail)
       exact sixteen_j3 H'.out hr_ HR1 HC1 ⟨hb_⟩ rfl rfl (by assumption)
end Go.Proofs.Ytogafcjfaicpgaa.MC
