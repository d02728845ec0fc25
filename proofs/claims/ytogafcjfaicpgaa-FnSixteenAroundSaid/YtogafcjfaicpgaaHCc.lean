/- The law FnSixteenAround, walked: the least list and its like. No condition beyond those typed. -/
import Derived.Test.YtogafcjfaicpgaaMCx0
import Derived.Test.YtogafcjfaicpgaaMCx6
import Derived.Test.YtogafcjfaicpgaaMCx14
import Derived.Test.YtogafcjfaicpgaaMCx15
import Derived.Test.YtogafcjfaicpgaaMCx16
import Derived.Test.YtogafcjfaicpgaaMCx17
import Derived.Test.YtogafcjfaicpgaaMCx19
import Derived.Test.YtogafcjfaicpgaaMCx20
import Derived.Test.YtogafcjfaicpgaaHCb
namespace Go.Proofs.Ytogafcjfaicpgaa.MC
open Go.RowKit Go.Proofs.YtogafcjfaicpgaaW.PrintWords Go.Proofs.YtogafcjfaicpgaaW.PrintLast Go.Proofs.YtogafcjfaicpgaaW.PrintMore Go.Proofs.YtogafcjfaicpgaaV
attribute [local go_sem] max2_int min2_int max_two min_two max_three min_three max_four min_four   -- for this text's walks alone
set_option linter.unusedVariables false
set_option linter.unusedSimpArgs false

set_option maxHeartbeats 32000000 in
set_option maxRecDepth 100000 in
theorem sixteen_j4 {kq : Nat} {t354 t357 : List Int} {t358 x218_74 r : Bool} (HA : laws_FnSixteenAround.j4 kq t354 t357 t358 x218_74 = some r) {w wc : World} (hr_ : r = true) {Ao77 : Option Addr} {co77 : Nat} {v359 : Value} (HO_24 : Aside0 (Kd.R (Kd.int .i64) 3 wc w.heap.size (fun k_ => some k_ ≠ (v359 : Value).ownBlock) (.slice Ao77 t354.length co77) t354)) (HO_25 : Aside0 (Kd.R (Kd.int .i64) 3 wc w.heap.size (fun k_ => some k_ ≠ ((.slice Ao77 t354.length co77) : Value).ownBlock) v359 t357)) (HB : Aside0 (Below w.heap.size w wc)) {u0 u1 u2 u3 u4 u5 u6 u7 u8 u9 u10 u11 u12 u13 u14 u15 u16 u17 u18 u19 u20 u21 u22 u23 u27 u28 u29 u30 u31 u32 u33 u34 u35 u36 u37 u38 u39 u40 u41 u42 u43 u44 u45 u46 u47 u48 u49 u50 u51 u52 u53 u54 u55 u56 u57 u58 u59 u60 u61 u62 u63 u64 u65 u66 u67 u68 u69 u70 u71 u72 u73 u74 u75 u76 u77 u78 u79 u80 u81 u82 u83 u84 u85 u86 u87 u88 u89 u90 u91 u92 u93 u94 u95 u96 u97 u98 u99 u100 u101 u102 u103 u104 u105 u106 u107 u108 u109 u110 u111 u112 u113 u114 u115 u116 u117 u118 u119 u120 u121 u122 u123 u124 u125 u126 u127 u128 u129 u130 u131 u132 u133 u134 u135 u136 u137 u138 u139 u140 u141 u142 u143 u144 u145 u146 u147 u148 u149 u150 u151 u152 u153 u154 u155 u156 u157 u158 u159 u160 u161 u162 u163 u164 u165 u166 u167 u168 u169 u170 u171 u172 u173 u174 u175 u176 u177 u178 u179 u180 u181 u182 u183 u184 u185 u186 u187 u188 u189 u190 u191 u192 u193 u194 u195 u196 u197 u198 u199 u200 u201 u202 u203 u204 u205 u206 u207 u208 u209 u210 u211 u212 u213 u214 u215 u216 u217 u219 u220 u221 u222 u223 u224 u225 u226 u227 u228 u229 u230 u231 u232 u233 u234 u235 u236 u237 u238 u239 u240 u241 u242 u243 u244 u245 u246 u247 u248 u249 u250 u251 u252 u253 u254 u255 u256 u257 u258 u259 u260 u261 u262 u263 u264 u265 u266 u267 u268 u269 u270 u271 u272 u273 u274 u275 u276 u277 u278 u279 u280 u281 u282 u283 u284 u285 u286 u287 u288 u289 u290 u291 u292 u293 u294 u295 u296 u297 u298 u299 u300 u301 u302 u303 u304 u305 u306 u307 u308 u309 u310 u311 u312 u313 u314 u315 u316 u317 u318 u319 u320 u321 : Value} {K : Act → World → Prop} {cF cR : Code} (hF : sndC (fstC (sndC (sndC (sndC (sndC (sndC (sndC (sndC (sndC (sndC (sndC (sndC (sndC (bodyC Try.f5)))))))))))))) = cF) (hR : sndC (sndC (sndC (sndC (sndC (sndC (sndC (sndC (sndC (sndC (sndC (sndC (sndC (bodyC Try.f5))))))))))))) = cR)
  (hK : ∀ (a' : Act) (w' : World), Code.wp Try.prog cR (bodyPost Try.prog Try.f5 fun e w' => e = .returned (.bool r) ∧ Below w.heap.size w w') a' w' → K a' w') :
  Code.wp Try.prog cF (Exit.then K (bodyPost Try.prog Try.f5 fun e w' => e = .returned (.bool r) ∧ Below w.heap.size w w')) { tmps := #[u0, u1, u2, u3, u4, u5, u6, u7, u8, u9, u10, u11, u12, u13, u14, u15, u16, u17, u18, u19, u20, u21, u22, u23, .slice Ao77 t354.length co77, v359, .bool t358, u27, u28, u29, u30, u31, u32, u33, u34, u35, u36, u37, u38, u39, u40, u41, u42, u43, u44, u45, u46, u47, u48, u49, u50, u51, u52, u53, u54, u55, u56, u57, u58, u59, u60, u61, u62, u63, u64, u65, u66, u67, u68, u69, u70, u71, u72, u73, u74, u75, u76, u77, u78, u79, u80, u81, u82, u83, u84, u85, u86, u87, u88, u89, u90, u91, u92, u93, u94, u95, u96, u97, u98, u99, u100, u101, u102, u103, u104, u105, u106, u107, u108, u109, u110, u111, u112, u113, u114, u115, u116, u117, u118, u119, u120, u121, u122, u123, u124, u125, u126, u127, u128, u129, u130, u131, u132, u133, u134, u135, u136, u137, u138, u139, u140, u141, u142, u143, u144, u145, u146, u147, u148, u149, u150, u151, u152, u153, u154, u155, u156, u157, u158, u159, u160, u161, u162, u163, u164, u165, u166, u167, u168, u169, u170, u171, u172, u173, u174, u175, u176, u177, u178, u179, u180, u181, u182, u183, u184, u185, u186, u187, u188, u189, u190, u191, u192, u193, u194, u195, u196, u197, u198, u199, u200, u201, u202, u203, u204, u205, u206, u207, u208, u209, u210, u211, u212, u213, u214, u215, u216, u217, .bool x218_74, u219, u220, u221, u222, u223, u224, u225, u226, u227, u228, u229, u230, u231, u232, u233, u234, u235, u236, u237, u238, u239, u240, u241, u242, u243, u244, u245, u246, u247, u248, u249, u250, u251, u252, u253, u254, u255, u256, u257, u258, u259, u260, u261, u262, u263, u264, u265, u266, u267, u268, u269, u270, u271, u272, u273, u274, u275, u276, u277, u278, u279, u280, u281, u282, u283, u284, u285, u286, u287, u288, u289, u290, u291, u292, u293, u294, u295, u296, u297, u298, u299, u300, u301, u302, u303, u304, u305, u306, u307, u308, u309, u310, u311, u312, u313, u314, u315, u316, u317, u318, u319, u320, u321], defers := [] } wc := by
 dsimp only [bodyC, thenC, sndC, fstC, Try.f5, Option.getD] at hF hR
 subst hF
 subst hR
 have HA := Aside0.mk HA
 cases kq with
 | zero => exact absurd HA.out (by simp [laws_FnSixteenAround.j4])
 | succ kj74 =>
   have H := HA.out
   clear HA
   simp only [laws_FnSixteenAround.j4] at H
   by_cases c84 : x218_74 = true
   · subst c84
     have H1 : (some false) = some r := by rw [if_pos rfl] at H; exact H
     clear H
     have H := H1
     clear H1
     exact absurd (Option.some.inj H) (by rw [hr_]; decide)
   · replace c84 := Bool.eq_false_iff.mpr c84
     subst c84
     have H1 : (if t358 = true then ((impl_AreAround.f kj74 t354).bind fun bt366 => ((impl_AreAround.f kj74 t357).bind fun bt368 => ((impl_LeastNumbers.f kj74 t357).bind fun bt370 => (if bt366.2 = true then (if bt368.2 = true then (if (bt366.1 != bt368.1) = true then (laws_FnSixteenAround.j5 kj74 t354 t357 (t354.length : Int) bt366.1 true) else (if bt370.2 = true then ((laws_eSame.f kj74 bt370.1 t357).bind fun t374 => (if t374 = true then ((laws_eSum.f kj74 t357).bind fun t375 => ((laws_eSum.f kj74 t354).bind fun t376 => (if t375 = t376 then ((laws_eBefore.f kj74 t354 t357).bind fun t377 => (laws_FnSixteenAround.j5 kj74 t354 t357 (t354.length : Int) bt366.1 t377)) else (laws_FnSixteenAround.j5 kj74 t354 t357 (t354.length : Int) bt366.1 true)))) else (laws_FnSixteenAround.j5 kj74 t354 t357 (t354.length : Int) bt366.1 true))) else (laws_FnSixteenAround.j5 kj74 t354 t357 (t354.length : Int) bt366.1 true))) else (laws_FnSixteenAround.j5 kj74 t354 t357 (t354.length : Int) bt366.1 true)) else (laws_FnSixteenAround.j5 kj74 t354 t357 (t354.length : Int) bt366.1 true))))) else (some true)) = some r := by rw [if_neg (show ¬ (false = true) by decide)] at H; exact H
     clear H
     have H := H1
     clear H1
     by_cases c85 : t358 = true
     · subst c85
       have H1 : ((impl_AreAround.f kj74 t354).bind fun bt366 => ((impl_AreAround.f kj74 t357).bind fun bt368 => ((impl_LeastNumbers.f kj74 t357).bind fun bt370 => (if bt366.2 = true then (if bt368.2 = true then (if (bt366.1 != bt368.1) = true then (laws_FnSixteenAround.j5 kj74 t354 t357 (t354.length : Int) bt366.1 true) else (if bt370.2 = true then ((laws_eSame.f kj74 bt370.1 t357).bind fun t374 => (if t374 = true then ((laws_eSum.f kj74 t357).bind fun t375 => ((laws_eSum.f kj74 t354).bind fun t376 => (if t375 = t376 then ((laws_eBefore.f kj74 t354 t357).bind fun t377 => (laws_FnSixteenAround.j5 kj74 t354 t357 (t354.length : Int) bt366.1 t377)) else (laws_FnSixteenAround.j5 kj74 t354 t357 (t354.length : Int) bt366.1 true)))) else (laws_FnSixteenAround.j5 kj74 t354 t357 (t354.length : Int) bt366.1 true))) else (laws_FnSixteenAround.j5 kj74 t354 t357 (t354.length : Int) bt366.1 true))) else (laws_FnSixteenAround.j5 kj74 t354 t357 (t354.length : Int) bt366.1 true)) else (laws_FnSixteenAround.j5 kj74 t354 t357 (t354.length : Int) bt366.1 true))))) = some r := by rw [if_pos rfl] at H; exact H
       clear H
       have H := H1
       clear H1
       replace H := Option.bind_eq_some_iff.mp H
       obtain ⟨⟨t366, t367⟩, A860, H⟩ := H
       replace H : ((impl_AreAround.f kj74 t357).bind fun bt368 => ((impl_LeastNumbers.f kj74 t357).bind fun bt370 => (if t367 = true then (if bt368.2 = true then (if (t366 != bt368.1) = true then (laws_FnSixteenAround.j5 kj74 t354 t357 (t354.length : Int) t366 true) else (if bt370.2 = true then ((laws_eSame.f kj74 bt370.1 t357).bind fun t374 => (if t374 = true then ((laws_eSum.f kj74 t357).bind fun t375 => ((laws_eSum.f kj74 t354).bind fun t376 => (if t375 = t376 then ((laws_eBefore.f kj74 t354 t357).bind fun t377 => (laws_FnSixteenAround.j5 kj74 t354 t357 (t354.length : Int) t366 t377)) else (laws_FnSixteenAround.j5 kj74 t354 t357 (t354.length : Int) t366 true)))) else (laws_FnSixteenAround.j5 kj74 t354 t357 (t354.length : Int) t366 true))) else (laws_FnSixteenAround.j5 kj74 t354 t357 (t354.length : Int) t366 true))) else (laws_FnSixteenAround.j5 kj74 t354 t357 (t354.length : Int) t366 true)) else (laws_FnSixteenAround.j5 kj74 t354 t357 (t354.length : Int) t366 true)))) = some r := H
       have A86 := Aside0.mk A860
       clear A860
       replace H := Option.bind_eq_some_iff.mp H
       obtain ⟨⟨t368, t369⟩, A870, H⟩ := H
       replace H : ((impl_LeastNumbers.f kj74 t357).bind fun bt370 => (if t367 = true then (if t369 = true then (if (t366 != t368) = true then (laws_FnSixteenAround.j5 kj74 t354 t357 (t354.length : Int) t366 true) else (if bt370.2 = true then ((laws_eSame.f kj74 bt370.1 t357).bind fun t374 => (if t374 = true then ((laws_eSum.f kj74 t357).bind fun t375 => ((laws_eSum.f kj74 t354).bind fun t376 => (if t375 = t376 then ((laws_eBefore.f kj74 t354 t357).bind fun t377 => (laws_FnSixteenAround.j5 kj74 t354 t357 (t354.length : Int) t366 t377)) else (laws_FnSixteenAround.j5 kj74 t354 t357 (t354.length : Int) t366 true)))) else (laws_FnSixteenAround.j5 kj74 t354 t357 (t354.length : Int) t366 true))) else (laws_FnSixteenAround.j5 kj74 t354 t357 (t354.length : Int) t366 true))) else (laws_FnSixteenAround.j5 kj74 t354 t357 (t354.length : Int) t366 true)) else (laws_FnSixteenAround.j5 kj74 t354 t357 (t354.length : Int) t366 true))) = some r := H
       have A87 := Aside0.mk A870
       clear A870
       replace H := Option.bind_eq_some_iff.mp H
       obtain ⟨⟨t370, t371⟩, A880, H⟩ := H
       replace H : (if t367 = true then (if t369 = true then (if (t366 != t368) = true then (laws_FnSixteenAround.j5 kj74 t354 t357 (t354.length : Int) t366 true) else (if t371 = true then ((laws_eSame.f kj74 t370 t357).bind fun t374 => (if t374 = true then ((laws_eSum.f kj74 t357).bind fun t375 => ((laws_eSum.f kj74 t354).bind fun t376 => (if t375 = t376 then ((laws_eBefore.f kj74 t354 t357).bind fun t377 => (laws_FnSixteenAround.j5 kj74 t354 t357 (t354.length : Int) t366 t377)) else (laws_FnSixteenAround.j5 kj74 t354 t357 (t354.length : Int) t366 true)))) else (laws_FnSixteenAround.j5 kj74 t354 t357 (t354.length : Int) t366 true))) else (laws_FnSixteenAround.j5 kj74 t354 t357 (t354.length : Int) t366 true))) else (laws_FnSixteenAround.j5 kj74 t354 t357 (t354.length : Int) t366 true)) else (laws_FnSixteenAround.j5 kj74 t354 t357 (t354.length : Int) t366 true)) = some r := H
       have A88 := Aside0.mk A880
       clear A880
       have HC89 := Aside0.mk H
       clear H
       go_upto_region 41 with (first | ((with_reducible refine gate_callee (f := 16) rfl ?_); refine goesL_ (some 224) rfl rfl Try.func16 (by kernel_rfl) rfl #[.slice Ao77 t354.length co77] rfl ga_ ?_; (with_reducible refine (impl_AreAround.calls kj74 _ _ t354 t366 t367 _ ?side1 ?side2 A86.out).mono ?_); (case side1 => repeat (first | exact (Kd.R_reads' HO_24.out).2.2 | (with_reducible refine Kd.C_alloc ?_ _) | (with_reducible refine Kd.C_drewN ?_ _) | (with_reducible refine Kd.C_drew ?_))); (case side2 => exact (Kd.R_reads' HO_24.out).2.1); rintro e w90 ⟨rfl, hb⟩; refine ⟨_, rfl, ?_⟩; have n0_ := Aside0.mk (Kd.R_below (rk_ HO_24.out) hb); have n1_ := Aside0.mk (Kd.R_below (rk_ HO_25.out) hb); have n2_ := Aside0.mk (below_step (hb_) hb); clear HO_24; clear HO_25; clear HB; have HO_24 := n0_; have HO_25 := n1_; have HB := n2_; clear n0_ n1_ n2_; (try clear hb); (try clear hb2); (try clear hk); (try clear hi); obtain ⟨Ao91, co91, eo91⟩ := Kd.R_slice HO_25.out; subst eo91) | ((with_reducible refine gate_callee (f := 16) rfl ?_); refine goesL_ (some 229) rfl rfl Try.func16 (by kernel_rfl) rfl #[.slice Ao91 t357.length co91] rfl ga_ ?_; (with_reducible refine (impl_AreAround.calls kj74 _ _ t357 t368 t369 _ ?side1 ?side2 A87.out).mono ?_); (case side1 => repeat (first | exact (Kd.R_reads' HO_25.out).2.2 | (with_reducible refine Kd.C_alloc ?_ _) | (with_reducible refine Kd.C_drewN ?_ _) | (with_reducible refine Kd.C_drew ?_))); (case side2 => exact (Kd.R_reads' HO_25.out).2.1); rintro e w92 ⟨rfl, hb⟩; refine ⟨_, rfl, ?_⟩; have n0_ := Aside0.mk (Kd.R_below (rk_ HO_24.out) hb); have n1_ := Aside0.mk (Kd.R_below (rk_ HO_25.out) hb); have n2_ := Aside0.mk (below_step (hb_) hb); clear HO_24; clear HO_25; clear HB; have HO_24 := n0_; have HO_25 := n1_; have HB := n2_; clear n0_ n1_ n2_; (try clear hb); (try clear hb2); (try clear hk); (try clear hi)) | ((with_reducible refine gate_callee (f := 17) rfl ?_); refine goesL_ (some 234) rfl rfl Try.func17 (by kernel_rfl) rfl #[.slice Ao91 t357.length co91] rfl ga_ ?_; (with_reducible refine (impl_LeastNumbers.calls kj74 _ _ t357 t370 t371 _ ?side1 ?side2 A88.out).mono ?_); (case side1 => repeat (first | exact (Kd.R_reads' HO_25.out).2.2 | (with_reducible refine Kd.C_alloc ?_ _) | (with_reducible refine Kd.C_drewN ?_ _) | (with_reducible refine Kd.C_drew ?_))); (case side2 => exact (Kd.R_reads' HO_25.out).2.1); rintro e w93 ⟨v372, rfl, ho0, hb⟩; refine ⟨_, rfl, ?_⟩; have n0_ := Aside0.mk (Kd.R_elder' (rk_ HO_24.out) (Kd.R_base ho0) hb); have n1_ := Aside0.mk (Kd.R_elder' (rk_ HO_25.out) (Kd.R_base ho0) hb); have n2_ := Aside0.mk (Kd.R_lower (Kd.R_new' (Kd.R_new' ho0 (Kd.R_lt (rk_ HO_24.out))) (Kd.R_lt (rk_ HO_25.out))) (below_size (hb_))); have n3_ := Aside0.mk (below_step (hb_) hb); clear HO_24; clear HO_25; clear HB; have HO_24 := n0_; have HO_25 := n1_; have HO373 := n2_; have HB := n3_; clear n0_ n1_ n2_ n3_; (try clear hb); (try clear hb2); (try clear hk); (try clear hi); (try clear ho0)))
       (try simp only [Act.put, List.setIfInBounds_toArray, List.set_cons_zero, List.set_cons_succ])
       have H := HC89.out
       clear HC89
       by_cases c94 : t367 = true
       · subst c94
         have H1 : (if t369 = true then (if (t366 != t368) = true then (laws_FnSixteenAround.j5 kj74 t354 t357 (t354.length : Int) t366 true) else (if t371 = true then ((laws_eSame.f kj74 t370 t357).bind fun t374 => (if t374 = true then ((laws_eSum.f kj74 t357).bind fun t375 => ((laws_eSum.f kj74 t354).bind fun t376 => (if t375 = t376 then ((laws_eBefore.f kj74 t354 t357).bind fun t377 => (laws_FnSixteenAround.j5 kj74 t354 t357 (t354.length : Int) t366 t377)) else (laws_FnSixteenAround.j5 kj74 t354 t357 (t354.length : Int) t366 true)))) else (laws_FnSixteenAround.j5 kj74 t354 t357 (t354.length : Int) t366 true))) else (laws_FnSixteenAround.j5 kj74 t354 t357 (t354.length : Int) t366 true))) else (laws_FnSixteenAround.j5 kj74 t354 t357 (t354.length : Int) t366 true)) = some r := by rw [if_pos rfl] at H; exact H
         clear H
         have H := H1
         clear H1
         by_cases c95 : t369 = true
         · subst c95
           have H1 : (if (t366 != t368) = true then (laws_FnSixteenAround.j5 kj74 t354 t357 (t354.length : Int) t366 true) else (if t371 = true then ((laws_eSame.f kj74 t370 t357).bind fun t374 => (if t374 = true then ((laws_eSum.f kj74 t357).bind fun t375 => ((laws_eSum.f kj74 t354).bind fun t376 => (if t375 = t376 then ((laws_eBefore.f kj74 t354 t357).bind fun t377 => (laws_FnSixteenAround.j5 kj74 t354 t357 (t354.length : Int) t366 t377)) else (laws_FnSixteenAround.j5 kj74 t354 t357 (t354.length : Int) t366 true)))) else (laws_FnSixteenAround.j5 kj74 t354 t357 (t354.length : Int) t366 true))) else (laws_FnSixteenAround.j5 kj74 t354 t357 (t354.length : Int) t366 true))) = some r := by rw [if_pos rfl] at H; exact H
           clear H
           have H := H1
           clear H1
           by_cases c96 : (t366 != t368) = true
           · rw [if_pos c96] at H
             first | exact (laws_FnSixteenAround.j0_no (hr_ ▸ H)).elim | exact (laws_FnSixteenAround.j4_no (hr_ ▸ H)).elim | exact (laws_FnSixteenAround.j5_no (hr_ ▸ H)).elim
           · rw [if_neg c96] at H
             have c96b0 : (t366 != t368) = false := by simpa using c96
             (try (have c96b1 : decide (t366 = t368) = true := by simpa using c96))
             (try (have c96b2 : (t366 == t368) = true := by simpa using c96))
             clear c96
             (first | rw [c96b0] | (simp only [i64_w, i32_w]; rw [c96b0]) | skip)
             by_cases c97 : t371 = true
             · subst c97
               have H1 : ((laws_eSame.f kj74 t370 t357).bind fun t374 => (if t374 = true then ((laws_eSum.f kj74 t357).bind fun t375 => ((laws_eSum.f kj74 t354).bind fun t376 => (if t375 = t376 then ((laws_eBefore.f kj74 t354 t357).bind fun t377 => (laws_FnSixteenAround.j5 kj74 t354 t357 (t354.length : Int) t366 t377)) else (laws_FnSixteenAround.j5 kj74 t354 t357 (t354.length : Int) t366 true)))) else (laws_FnSixteenAround.j5 kj74 t354 t357 (t354.length : Int) t366 true))) = some r := by rw [if_pos rfl] at H; exact H
               clear H
               have H := H1
               clear H1
               replace H := Option.bind_eq_some_iff.mp H
               obtain ⟨t374, A980, H⟩ := H
               replace H : (if t374 = true then ((laws_eSum.f kj74 t357).bind fun t375 => ((laws_eSum.f kj74 t354).bind fun t376 => (if t375 = t376 then ((laws_eBefore.f kj74 t354 t357).bind fun t377 => (laws_FnSixteenAround.j5 kj74 t354 t357 (t354.length : Int) t366 t377)) else (laws_FnSixteenAround.j5 kj74 t354 t357 (t354.length : Int) t366 true)))) else (laws_FnSixteenAround.j5 kj74 t354 t357 (t354.length : Int) t366 true)) = some r := H
               have A98 := Aside0.mk A980
               clear A980
               by_cases c99 : t374 = true
               · subst c99
                 have H1 : ((laws_eSum.f kj74 t357).bind fun t375 => ((laws_eSum.f kj74 t354).bind fun t376 => (if t375 = t376 then ((laws_eBefore.f kj74 t354 t357).bind fun t377 => (laws_FnSixteenAround.j5 kj74 t354 t357 (t354.length : Int) t366 t377)) else (laws_FnSixteenAround.j5 kj74 t354 t357 (t354.length : Int) t366 true)))) = some r := by rw [if_pos rfl] at H; exact H
                 clear H
                 have H := H1
                 clear H1
                 replace H := Option.bind_eq_some_iff.mp H
                 obtain ⟨t375, A1000, H⟩ := H
                 replace H : ((laws_eSum.f kj74 t354).bind fun t376 => (if t375 = t376 then ((laws_eBefore.f kj74 t354 t357).bind fun t377 => (laws_FnSixteenAround.j5 kj74 t354 t357 (t354.length : Int) t366 t377)) else (laws_FnSixteenAround.j5 kj74 t354 t357 (t354.length : Int) t366 true))) = some r := H
                 have A100 := Aside0.mk A1000
                 clear A1000
                 replace H := Option.bind_eq_some_iff.mp H
                 obtain ⟨t376, A1010, H⟩ := H
                 replace H : (if t375 = t376 then ((laws_eBefore.f kj74 t354 t357).bind fun t377 => (laws_FnSixteenAround.j5 kj74 t354 t357 (t354.length : Int) t366 t377)) else (laws_FnSixteenAround.j5 kj74 t354 t357 (t354.length : Int) t366 true)) = some r := H
                 have A101 := Aside0.mk A1010
                 clear A1010
                 by_cases c102 : t375 = t376
                 · rw [if_pos c102] at H
                   have c102b0 : (t375 == t376) = true := beq_iff_eq.mpr c102
                   have c102b1 : (t375 != t376) = false := bne_eq_false_iff_eq.mpr c102
                   clear c102
                   replace H := Option.bind_eq_some_iff.mp H
                   obtain ⟨t377, A1030, H⟩ := H
                   replace H : (laws_FnSixteenAround.j5 kj74 t354 t357 (t354.length : Int) t366 t377) = some r := H
                   have A103 := Aside0.mk A1030
                   clear A1030
                   have H' := Aside0.mk H
                   clear H
                   obtain ⟨Ao104, co104, eo104⟩ := Kd.R_slice HO373.out
                   subst eo104
                   go_upto_if 269 with (first | (go_at_call 18; (with_reducible refine (laws_eSame.calls kj74 _ _ t370 _ _ t357 true _ ?side1 ?side2 ?side3 ?side4 A98.out).mono ?_); (case side1 => repeat (first | exact (Kd.R_reads' HO373.out).2.2 | (with_reducible refine Kd.C_alloc ?_ _) | (with_reducible refine Kd.C_drewN ?_ _) | (with_reducible refine Kd.C_drew ?_))); (case side2 => exact (Kd.R_reads' HO373.out).2.1); (case side3 => repeat (first | exact (Kd.R_reads' HO_25.out).2.2 | (with_reducible refine Kd.C_alloc ?_ _) | (with_reducible refine Kd.C_drewN ?_ _) | (with_reducible refine Kd.C_drew ?_))); (case side4 => exact (Kd.R_reads' HO_25.out).2.1); rintro e w' ⟨rfl, ⟨nd, rfl⟩⟩) | (go_at_call 19; (with_reducible refine (laws_eSum.calls kj74 _ _ t357 t375 _ ?side1 ?side2 A100.out).mono ?_); (case side1 => repeat (first | exact (Kd.R_reads' HO_25.out).2.2 | (with_reducible refine Kd.C_alloc ?_ _) | (with_reducible refine Kd.C_drewN ?_ _) | (with_reducible refine Kd.C_drew ?_))); (case side2 => exact (Kd.R_reads' HO_25.out).2.1); rintro e w' ⟨rfl, ⟨nd, rfl⟩⟩) | (go_at_call 19; (with_reducible refine (laws_eSum.calls kj74 _ _ t354 t376 _ ?side1 ?side2 A101.out).mono ?_); (case side1 => repeat (first | exact (Kd.R_reads' HO_24.out).2.2 | (with_reducible refine Kd.C_alloc ?_ _) | (with_reducible refine Kd.C_drewN ?_ _) | (with_reducible refine Kd.C_drew ?_))); (case side2 => exact (Kd.R_reads' HO_24.out).2.1); rintro e w' ⟨rfl, ⟨nd, rfl⟩⟩) | (go_at_call 20; (with_reducible refine (laws_eBefore.calls kj74 _ _ t354 _ _ t357 t377 _ ?side1 ?side2 ?side3 ?side4 A103.out).mono ?_); (case side1 => repeat (first | exact (Kd.R_reads' HO_24.out).2.2 | (with_reducible refine Kd.C_alloc ?_ _) | (with_reducible refine Kd.C_drewN ?_ _) | (with_reducible refine Kd.C_drew ?_))); (case side2 => exact (Kd.R_reads' HO_24.out).2.1); (case side3 => repeat (first | exact (Kd.R_reads' HO_25.out).2.2 | (with_reducible refine Kd.C_alloc ?_ _) | (with_reducible refine Kd.C_drewN ?_ _) | (with_reducible refine Kd.C_drew ?_))); (case side4 => exact (Kd.R_reads' HO_25.out).2.1); rintro e w' ⟨rfl, ⟨nd, rfl⟩⟩))
                   exact sixteen_j5 H'.out hr_ ⟨by (with_reducible repeat (first | apply Kd.R_alloc | apply Kd.R_drewN | apply Kd.R_drew)); exact Kd.R_mono HO_24.out (fun _ hk => hk.1)⟩ ⟨by (with_reducible repeat (first | apply Kd.R_alloc | apply Kd.R_drewN | apply Kd.R_drew)); exact Kd.R_mono HO_25.out (fun _ hk => hk.1)⟩ ⟨hb_⟩ rfl rfl rfl (by assumption) (by assumption)
                 · rw [if_neg c102] at H
                   have c102b0 : (t375 == t376) = false := beq_eq_false_iff_ne.mpr c102
                   have c102b1 : (t375 != t376) = true := bne_iff_ne.mpr c102
                   first | exact (laws_FnSixteenAround.j0_no (hr_ ▸ H)).elim | exact (laws_FnSixteenAround.j4_no (hr_ ▸ H)).elim | exact (laws_FnSixteenAround.j5_no (hr_ ▸ H)).elim
               · replace c99 := Bool.eq_false_iff.mpr c99
                 subst c99
                 have H1 : (laws_FnSixteenAround.j5 kj74 t354 t357 (t354.length : Int) t366 true) = some r := by rw [if_neg (show ¬ (false = true) by decide)] at H; exact H
                 clear H
                 have H := H1
                 clear H1
                 first | exact (laws_FnSixteenAround.j0_no (hr_ ▸ H)).elim | exact (laws_FnSixteenAround.j4_no (hr_ ▸ H)).elim | exact (laws_FnSixteenAround.j5_no (hr_ ▸ H)).elim
             · replace c97 := Bool.eq_false_iff.mpr c97
               subst c97
               have H1 : (laws_FnSixteenAround.j5 kj74 t354 t357 (t354.length : Int) t366 true) = some r := by rw [if_neg (show ¬ (false = true) by decide)] at H; exact H
               clear H
               have H := H1
               clear H1
               first | exact (laws_FnSixteenAround.j0_no (hr_ ▸ H)).elim | exact (laws_FnSixteenAround.j4_no (hr_ ▸ H)).elim | exact (laws_FnSixteenAround.j5_no (hr_ ▸ H)).elim
         · replace c95 := Bool.eq_false_iff.mpr c95
           subst c95
           have H1 : (laws_FnSixteenAround.j5 kj74 t354 t357 (t354.length : Int) t366 true) = some r := by rw [if_neg (show ¬ (false = true) by decide)] at H; exact H
           clear H
           have H := H1
           clear H1
           first | exact (laws_FnSixteenAround.j0_no (hr_ ▸ H)).elim | exact (laws_FnSixteenAround.j4_no (hr_ ▸ H)).elim | exact (laws_FnSixteenAround.j5_no (hr_ ▸ H)).elim
       · replace c94 := Bool.eq_false_iff.mpr c94
         subst c94
         have H1 : (laws_FnSixteenAround.j5 kj74 t354 t357 (t354.length : Int) t366 true) = some r := by rw [if_neg (show ¬ (false = true) by decide)] at H; exact H
         clear H
         have H := H1
         clear H1
         first | exact (laws_FnSixteenAround.j0_no (hr_ ▸ H)).elim | exact (laws_FnSixteenAround.j4_no (hr_ ▸ H)).elim | exact (laws_FnSixteenAround.j5_no (hr_ ▸ H)).elim
     · replace c85 := Bool.eq_false_iff.mpr c85
       subst c85
       have H1 : (some true) = some r := by rw [if_neg (show ¬ (false = true) by decide)] at H; exact H
       clear H
       have H := H1
       clear H1
       obtain rfl := Option.some.inj H
       go_wp2
       go_ret
       exact ⟨by first | rfl | (simp [errW_none, errW_some] <;> rfl) | (simp [*, errW_none, errW_some] <;> rfl), hb_⟩
end Go.Proofs.Ytogafcjfaicpgaa.MC
