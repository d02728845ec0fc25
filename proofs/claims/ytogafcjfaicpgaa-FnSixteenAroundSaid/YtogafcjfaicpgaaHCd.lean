/- The law FnSixteenAround, walked: its second half. No condition beyond those typed. -/
import Derived.Test.YtogafcjfaicpgaaMCx0
import Derived.Test.YtogafcjfaicpgaaMCx6
import Derived.Test.YtogafcjfaicpgaaMCx14
import Derived.Test.YtogafcjfaicpgaaMCx15
import Derived.Test.YtogafcjfaicpgaaMCx16
import Derived.Test.YtogafcjfaicpgaaMCx17
import Derived.Test.YtogafcjfaicpgaaMCx19
import Derived.Test.YtogafcjfaicpgaaMCx20
import Derived.Test.YtogafcjfaicpgaaHCc
namespace Go.Proofs.Ytogafcjfaicpgaa.MC
open Go.RowKit Go.Proofs.YtogafcjfaicpgaaW.PrintWords Go.Proofs.YtogafcjfaicpgaaW.PrintLast Go.Proofs.YtogafcjfaicpgaaW.PrintMore Go.Proofs.YtogafcjfaicpgaaV
attribute [local go_sem] max2_int min2_int max_two min_two max_three min_three max_four min_four   -- for this text's walks alone
set_option linter.unusedVariables false
set_option linter.unusedSimpArgs false

set_option maxHeartbeats 32000000 in
set_option maxRecDepth 100000 in
theorem sixteen_j3 {kq : Nat} {l1 : List Int} {A1 : Option Addr} {c1 : Nat} {r : Bool} (HA : laws_FnSixteenAround.j3 kq l1 = some r) {w wc : World} (hr_ : r = true) (HR1 : Aside0 (Kd.C (Kd.int .u8) w A1 l1.length l1)) (HC1 : Aside0 (l1.length ≤ c1)) (HB : Aside0 (Below w.heap.size w wc)) {u0 u2 u3 u4 u5 u6 u7 u8 u9 u10 u11 u12 u13 u14 u15 u16 u17 u18 u19 u20 u21 u22 u23 u24 u25 u26 u27 u28 u29 u30 u31 u32 u33 u34 u35 u36 u37 u38 u39 u40 u41 u42 u43 u44 u45 u46 u47 u48 u49 u50 u51 u52 u53 u54 u55 u56 u57 u58 u59 u60 u61 u62 u63 u64 u65 u66 u67 u68 u69 u70 u71 u72 u73 u74 u75 u76 u77 u78 u79 u80 u81 u82 u83 u84 u85 u86 u87 u88 u89 u90 u91 u92 u93 u94 u95 u96 u97 u98 u99 u100 u101 u102 u103 u104 u105 u106 u107 u108 u109 u110 u111 u112 u113 u114 u115 u116 u117 u118 u119 u120 u121 u122 u123 u124 u125 u126 u127 u128 u129 u130 u131 u132 u133 u134 u135 u136 u137 u138 u139 u140 u141 u142 u143 u144 u145 u146 u147 u148 u149 u150 u151 u152 u153 u154 u155 u156 u157 u158 u159 u160 u161 u162 u163 u164 u165 u166 u167 u168 u169 u170 u171 u172 u173 u174 u175 u176 u177 u178 u179 u180 u181 u182 u183 u184 u185 u186 u187 u188 u189 u190 u191 u192 u193 u194 u195 u196 u197 u198 u199 u200 u201 u202 u203 u204 u205 u206 u207 u208 u209 u210 u211 u212 u213 u214 u215 u216 u217 u218 u219 u220 u221 u222 u223 u224 u225 u226 u227 u228 u229 u230 u231 u232 u233 u234 u235 u236 u237 u238 u239 u240 u241 u242 u243 u244 u245 u246 u247 u248 u249 u250 u251 u252 u253 u254 u255 u256 u257 u258 u259 u260 u261 u262 u263 u264 u265 u266 u267 u268 u269 u270 u271 u272 u273 u274 u275 u276 u277 u278 u279 u280 u281 u282 u283 u284 u285 u286 u287 u288 u289 u290 u291 u292 u293 u294 u295 u296 u297 u298 u299 u300 u301 u302 u303 u304 u305 u306 u307 u308 u309 u310 u311 u312 u313 u314 u315 u316 u317 u318 u319 u320 u321 : Value} {K : Act → World → Prop} {cF cR : Code} (hF : fstC (sndC (sndC (sndC (sndC (sndC (sndC (sndC (sndC (sndC (bodyC Try.f5)))))))))) = cF) (hR : sndC (sndC (sndC (sndC (sndC (sndC (sndC (sndC (sndC (sndC (bodyC Try.f5)))))))))) = cR)
  (hK : ∀ (a' : Act) (w' : World), Code.wp Try.prog cR (bodyPost Try.prog Try.f5 fun e w' => e = .returned (.bool r) ∧ Below w.heap.size w w') a' w' → K a' w') :
  Code.wp Try.prog cF (Exit.then K (bodyPost Try.prog Try.f5 fun e w' => e = .returned (.bool r) ∧ Below w.heap.size w w')) { tmps := #[u0, .slice A1 l1.length c1, u2, u3, u4, u5, u6, u7, u8, u9, u10, u11, u12, u13, u14, u15, u16, u17, u18, u19, u20, u21, u22, u23, u24, u25, u26, u27, u28, u29, u30, u31, u32, u33, u34, u35, u36, u37, u38, u39, u40, u41, u42, u43, u44, u45, u46, u47, u48, u49, u50, u51, u52, u53, u54, u55, u56, u57, u58, u59, u60, u61, u62, u63, u64, u65, u66, u67, u68, u69, u70, u71, u72, u73, u74, u75, u76, u77, u78, u79, u80, u81, u82, u83, u84, u85, u86, u87, u88, u89, u90, u91, u92, u93, u94, u95, u96, u97, u98, u99, u100, u101, u102, u103, u104, u105, u106, u107, u108, u109, u110, u111, u112, u113, u114, u115, u116, u117, u118, u119, u120, u121, u122, u123, u124, u125, u126, u127, u128, u129, u130, u131, u132, u133, u134, u135, u136, u137, u138, u139, u140, u141, u142, u143, u144, u145, u146, u147, u148, u149, u150, u151, u152, u153, u154, u155, u156, u157, u158, u159, u160, u161, u162, u163, u164, u165, u166, u167, u168, u169, u170, u171, u172, u173, u174, u175, u176, u177, u178, u179, u180, u181, u182, u183, u184, u185, u186, u187, u188, u189, u190, u191, u192, u193, u194, u195, u196, u197, u198, u199, u200, u201, u202, u203, u204, u205, u206, u207, u208, u209, u210, u211, u212, u213, u214, u215, u216, u217, u218, u219, u220, u221, u222, u223, u224, u225, u226, u227, u228, u229, u230, u231, u232, u233, u234, u235, u236, u237, u238, u239, u240, u241, u242, u243, u244, u245, u246, u247, u248, u249, u250, u251, u252, u253, u254, u255, u256, u257, u258, u259, u260, u261, u262, u263, u264, u265, u266, u267, u268, u269, u270, u271, u272, u273, u274, u275, u276, u277, u278, u279, u280, u281, u282, u283, u284, u285, u286, u287, u288, u289, u290, u291, u292, u293, u294, u295, u296, u297, u298, u299, u300, u301, u302, u303, u304, u305, u306, u307, u308, u309, u310, u311, u312, u313, u314, u315, u316, u317, u318, u319, u320, u321], defers := [] } wc := by
 dsimp only [bodyC, thenC, sndC, fstC, Try.f5, Option.getD] at hF hR
 subst hF
 subst hR
 have HA := Aside0.mk HA
 cases kq with
 | zero => exact absurd HA.out (by simp [laws_FnSixteenAround.j3])
 | succ kj29 =>
   have H := HA.out
   clear HA
   simp only [laws_FnSixteenAround.j3] at H
   replace H := Option.bind_eq_some_iff.mp H
   obtain ⟨t354, A720, H⟩ := H
   replace H : ((impl_LeastNumbers.f kj29 t354).bind fun bt357 => ((spec_LeastNumbers.f kj29 t354).bind fun bt361 => (if (bt357.2 != bt361.2) = true then (laws_FnSixteenAround.j4 kj29 t354 bt357.1 bt357.2 true) else ((laws_eSame.f kj29 bt357.1 bt361.1).bind fun t365 => (laws_FnSixteenAround.j4 kj29 t354 bt357.1 bt357.2 (!t365)))))) = some r := H
   have A72 := Aside0.mk A720
   clear A720
   replace H := Option.bind_eq_some_iff.mp H
   obtain ⟨⟨t357, t358⟩, A730, H⟩ := H
   replace H : ((spec_LeastNumbers.f kj29 t354).bind fun bt361 => (if (t358 != bt361.2) = true then (laws_FnSixteenAround.j4 kj29 t354 t357 t358 true) else ((laws_eSame.f kj29 t357 bt361.1).bind fun t365 => (laws_FnSixteenAround.j4 kj29 t354 t357 t358 (!t365))))) = some r := H
   have A73 := Aside0.mk A730
   clear A730
   replace H := Option.bind_eq_some_iff.mp H
   obtain ⟨⟨t361, t362⟩, A740, H⟩ := H
   replace H : (if (t358 != t362) = true then (laws_FnSixteenAround.j4 kj29 t354 t357 t358 true) else ((laws_eSame.f kj29 t357 t361).bind fun t365 => (laws_FnSixteenAround.j4 kj29 t354 t357 t358 (!t365)))) = some r := H
   have A74 := Aside0.mk A740
   clear A740
   have HC75 := Aside0.mk H
   clear H
   go_upto_region 34 with (first | ((with_reducible refine gate_callee (f := 21) rfl ?_); refine goesL_ (some 199) rfl rfl Try.func21 (by kernel_rfl) rfl #[.slice A1 l1.length c1] rfl ga_ ?_; (with_reducible refine (spec_DrawLeastNumbers.calls kj29 _ _ l1 t354 _ ?side1 ?side2 A72.out).mono ?_); (case side1 => repeat (first | exact (Kd.C_below HR1.out HB.out) | (with_reducible refine Kd.C_alloc ?_ _) | (with_reducible refine Kd.C_drewN ?_ _) | (with_reducible refine Kd.C_drew ?_))); (case side2 => exact HC1.out); rintro e w76 ⟨v355, rfl, ho0, hb⟩; refine ⟨_, rfl, ?_⟩; have n0_ := Aside0.mk (Kd.R_lower ho0 (below_size (hb_))); have n1_ := Aside0.mk (below_step (hb_) hb); clear HB; have HO356 := n0_; have HB := n1_; clear n0_ n1_; (try clear hb); (try clear hb2); (try clear hk); (try clear hi); (try clear ho0); obtain ⟨Ao77, co77, eo77⟩ := Kd.R_slice HO356.out; subst eo77) | ((with_reducible refine gate_callee (f := 17) rfl ?_); refine goesL_ (some 202) rfl rfl Try.func17 (by kernel_rfl) rfl #[.slice Ao77 t354.length co77] rfl ga_ ?_; (with_reducible refine (impl_LeastNumbers.calls kj29 _ _ t354 t357 t358 _ ?side1 ?side2 A73.out).mono ?_); (case side1 => repeat (first | exact (Kd.R_reads' HO356.out).2.2 | (with_reducible refine Kd.C_alloc ?_ _) | (with_reducible refine Kd.C_drewN ?_ _) | (with_reducible refine Kd.C_drew ?_))); (case side2 => exact (Kd.R_reads' HO356.out).2.1); rintro e w78 ⟨v359, rfl, ho0, hb⟩; refine ⟨_, rfl, ?_⟩; have n0_ := Aside0.mk (Kd.R_elder' (rk_ HO356.out) (Kd.R_base ho0) hb); have n1_ := Aside0.mk (Kd.R_lower (Kd.R_new' ho0 (Kd.R_lt (rk_ HO356.out))) (below_size (hb_))); have n2_ := Aside0.mk (below_step (hb_) hb); clear HO356; clear HB; have HO356 := n0_; have HO360 := n1_; have HB := n2_; clear n0_ n1_ n2_; (try clear hb); (try clear hb2); (try clear hk); (try clear hi); (try clear ho0)) | ((with_reducible refine gate_callee (f := 22) rfl ?_); refine goesL_ (some 207) rfl rfl Try.func22 (by kernel_rfl) rfl #[.slice Ao77 t354.length co77] rfl ga_ ?_; (with_reducible refine (spec_LeastNumbers.calls kj29 _ _ t354 t361 t362 _ ?side1 ?side2 A74.out).mono ?_); (case side1 => repeat (first | exact (Kd.R_reads' HO356.out).2.2 | (with_reducible refine Kd.C_alloc ?_ _) | (with_reducible refine Kd.C_drewN ?_ _) | (with_reducible refine Kd.C_drew ?_))); (case side2 => exact (Kd.R_reads' HO356.out).2.1); rintro e w79 ⟨v363, rfl, ho0, hb⟩; refine ⟨_, rfl, ?_⟩; have n0_ := Aside0.mk (Kd.R_elder' (rk_ HO356.out) (Kd.R_base ho0) hb); have n1_ := Aside0.mk (Kd.R_elder' (rk_ HO360.out) (Kd.R_base ho0) hb); have n2_ := Aside0.mk (Kd.R_lower (Kd.R_new' (Kd.R_new' ho0 (Kd.R_lt (rk_ HO356.out))) (Kd.R_lt (rk_ HO360.out))) (below_size (hb_))); have n3_ := Aside0.mk (below_step (hb_) hb); clear HO356; clear HO360; clear HB; have HO356 := n0_; have HO360 := n1_; have HO364 := n2_; have HB := n3_; clear n0_ n1_ n2_ n3_; (try clear hb); (try clear hb2); (try clear hk); (try clear hi); (try clear ho0)))
   (try simp only [Act.put, List.setIfInBounds_toArray, List.set_cons_zero, List.set_cons_succ])
   have H := HC75.out
   clear HC75
   by_cases c80 : (t358 != t362) = true
   · rw [if_pos c80] at H
     first | exact (laws_FnSixteenAround.j0_no (hr_ ▸ H)).elim | exact (laws_FnSixteenAround.j4_no (hr_ ▸ H)).elim | exact (laws_FnSixteenAround.j5_no (hr_ ▸ H)).elim
   · rw [if_neg c80] at H
     have c80b0 : (t358 != t362) = false := by simpa using c80
     (try (have c80b1 : decide (t358 = t362) = true := by simpa using c80))
     (try (have c80b2 : (t358 == t362) = true := by simpa using c80))
     clear c80
     (first | rw [c80b0] | (simp only [i64_w, i32_w]; rw [c80b0]) | skip)
     replace H := Option.bind_eq_some_iff.mp H
     obtain ⟨t365, A810, H⟩ := H
     replace H : (laws_FnSixteenAround.j4 kj29 t354 t357 t358 (!t365)) = some r := H
     have A81 := Aside0.mk A810
     clear A810
     have H' := Aside0.mk H
     clear H
     obtain ⟨Ao82, co82, eo82⟩ := Kd.R_slice HO360.out
     subst eo82
     obtain ⟨Ao83, co83, eo83⟩ := Kd.R_slice HO364.out
     subst eo83
     go_upto_if 218 with (first | (go_at_call 18; (with_reducible refine (laws_eSame.calls kj29 _ _ t357 _ _ t361 t365 _ ?side1 ?side2 ?side3 ?side4 A81.out).mono ?_); (case side1 => repeat (first | exact (Kd.R_reads' HO360.out).2.2 | (with_reducible refine Kd.C_alloc ?_ _) | (with_reducible refine Kd.C_drewN ?_ _) | (with_reducible refine Kd.C_drew ?_))); (case side2 => exact (Kd.R_reads' HO360.out).2.1); (case side3 => repeat (first | exact (Kd.R_reads' HO364.out).2.2 | (with_reducible refine Kd.C_alloc ?_ _) | (with_reducible refine Kd.C_drewN ?_ _) | (with_reducible refine Kd.C_drew ?_))); (case side4 => exact (Kd.R_reads' HO364.out).2.1); rintro e w' ⟨rfl, ⟨nd, rfl⟩⟩))
     exact sixteen_j4 H'.out hr_ ⟨by (with_reducible repeat (first | apply Kd.R_alloc | apply Kd.R_drewN | apply Kd.R_drew)); exact Kd.R_mono HO356.out (fun _ hk => hk.1.2)⟩ ⟨by (with_reducible repeat (first | apply Kd.R_alloc | apply Kd.R_drewN | apply Kd.R_drew)); exact Kd.R_mono HO360.out (fun _ hk => hk.1.2)⟩ ⟨hb_⟩ rfl rfl (by assumption)
end Go.Proofs.Ytogafcjfaicpgaa.MC
