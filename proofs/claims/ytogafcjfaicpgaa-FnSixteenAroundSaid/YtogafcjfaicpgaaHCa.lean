/- The end of the law FnSixteenAround, walked: the search in the list of all. No condition beyond those typed. -/
import Derived.Test.YtogafcjfaicpgaaMCx0
import Derived.Test.YtogafcjfaicpgaaMCx6
import Derived.Test.YtogafcjfaicpgaaMCx14
import Derived.Test.YtogafcjfaicpgaaMCx15
import Derived.Test.YtogafcjfaicpgaaMCx16
import Derived.Test.YtogafcjfaicpgaaMCx17
import Derived.Test.YtogafcjfaicpgaaMCx19
import Derived.Test.YtogafcjfaicpgaaMCx20
namespace Go.Proofs.Ytogafcjfaicpgaa.MC
open Go.RowKit Go.Proofs.YtogafcjfaicpgaaW.PrintWords Go.Proofs.YtogafcjfaicpgaaW.PrintLast Go.Proofs.YtogafcjfaicpgaaW.PrintMore Go.Proofs.YtogafcjfaicpgaaV
attribute [local go_sem] max2_int min2_int max_two min_two max_three min_three max_four min_four   -- for this text's walks alone
set_option linter.unusedVariables false
set_option linter.unusedSimpArgs false

set_option maxHeartbeats 32000000 in
set_option maxRecDepth 100000 in
theorem sixteen_end {k : Nat} {t354 t357 : List Int} {t366 r : Bool} (H : (if t366 = true then ((impl_AllAround.f k (t354.length : Int)).bind fun bt400 => (laws_FnSixteenAround.l3 k t357 bt400.2 false bt400.1 (bt400.1.length : Int) 0)) else (some true)) = some r) {w wc : World} (hr_ : r = true) {Ao77 Ao91 : Option Addr} {co77 co91 : Nat} (HO_24 : Aside0 (Kd.R (Kd.int .i64) 3 wc w.heap.size (fun k_ => some k_ ≠ ((.slice Ao91 t357.length co91) : Value).ownBlock) (.slice Ao77 t354.length co77) t354)) (HO_25 : Aside0 (Kd.R (Kd.int .i64) 3 wc w.heap.size (fun k_ => some k_ ≠ ((.slice Ao77 t354.length co77) : Value).ownBlock) (.slice Ao91 t357.length co91) t357)) (HB : Aside0 (Below w.heap.size w wc)) {u0 u1 u2 u3 u4 u5 u6 u7 u8 u9 u10 u11 u12 u13 u14 u15 u16 u17 u18 u19 u20 u21 u22 u23 u24 u26 u27 u28 u31 u32 u33 u34 u35 u36 u37 u38 u39 u40 u41 u42 u43 u44 u45 u46 u47 u48 u49 u50 u51 u52 u53 u54 u55 u56 u57 u58 u59 u60 u61 u62 u63 u64 u65 u66 u67 u68 u69 u70 u71 u72 u73 u74 u75 u76 u77 u78 u79 u80 u81 u82 u83 u84 u85 u86 u87 u88 u89 u90 u91 u92 u93 u94 u95 u96 u97 u98 u99 u100 u101 u102 u103 u104 u105 u106 u107 u108 u109 u110 u111 u112 u113 u114 u115 u116 u117 u118 u119 u120 u121 u122 u123 u124 u125 u126 u127 u128 u129 u130 u131 u132 u133 u134 u135 u136 u137 u138 u139 u140 u141 u142 u143 u144 u145 u146 u147 u148 u149 u150 u151 u152 u153 u154 u155 u156 u157 u158 u159 u160 u161 u162 u163 u164 u165 u166 u167 u168 u169 u170 u171 u172 u173 u174 u175 u176 u177 u178 u179 u180 u181 u182 u183 u184 u185 u186 u187 u188 u189 u190 u191 u192 u193 u194 u195 u196 u197 u198 u199 u200 u201 u202 u203 u204 u205 u206 u207 u208 u209 u210 u211 u212 u213 u214 u215 u216 u217 u218 u219 u220 u221 u222 u223 u224 u225 u226 u227 u228 u229 u230 u231 u232 u233 u234 u235 u236 u237 u238 u239 u240 u241 u242 u243 u244 u245 u246 u247 u248 u249 u250 u251 u252 u253 u254 u255 u256 u257 u258 u259 u260 u261 u262 u263 u264 u265 u266 u267 u268 u269 u270 u271 u272 u273 u274 u275 u276 u277 u278 u279 u280 u281 u282 u283 u284 u285 u286 u287 u288 u289 u290 u291 u292 u293 u294 u295 u296 u297 u298 u299 u300 u301 u302 u303 u304 u305 u306 u307 u308 u309 u310 u311 u312 u313 u314 u315 u316 u317 u318 u319 u320 u321 : Value} {K K1 : Act → World → Prop} {cF cB cR : Code} (hF : fstC (sndC (sndC (sndC (sndC (sndC (sndC (thenC (sndC (fstC (sndC (sndC (sndC (sndC (sndC (sndC (sndC (sndC (sndC (sndC (sndC (sndC (sndC (bodyC Try.f5))))))))))))))))))))))) = cF) (hC : sndC (sndC (sndC (sndC (sndC (sndC (sndC (thenC (sndC (fstC (sndC (sndC (sndC (sndC (sndC (sndC (sndC (sndC (sndC (sndC (sndC (sndC (sndC (bodyC Try.f5))))))))))))))))))))))) = cB) (hR : sndC (sndC (sndC (sndC (sndC (sndC (sndC (sndC (sndC (sndC (sndC (sndC (sndC (sndC (bodyC Try.f5)))))))))))))) = cR)
  (hK1 : ∀ (a' : Act) (w' : World), Code.wp Try.prog cB (Exit.then K (bodyPost Try.prog Try.f5 fun e w' => e = .returned (.bool r) ∧ Below w.heap.size w w')) a' w' → K1 a' w')
  (hK : ∀ (a' : Act) (w' : World), Code.wp Try.prog cR (bodyPost Try.prog Try.f5 fun e w' => e = .returned (.bool r) ∧ Below w.heap.size w w') a' w' → K a' w') :
  Code.wp Try.prog cF (Exit.then K1 (Exit.then K (bodyPost Try.prog Try.f5 fun e w' => e = .returned (.bool r) ∧ Below w.heap.size w w'))) { tmps := #[u0, u1, u2, u3, u4, u5, u6, u7, u8, u9, u10, u11, u12, u13, u14, u15, u16, u17, u18, u19, u20, u21, u22, u23, u24, .slice Ao91 t357.length co91, u26, u27, u28, .int .i64 (t354.length : Int), .bool t366, u31, u32, u33, u34, u35, u36, u37, u38, u39, u40, u41, u42, u43, u44, u45, u46, u47, u48, u49, u50, u51, u52, u53, u54, u55, u56, u57, u58, u59, u60, u61, u62, u63, u64, u65, u66, u67, u68, u69, u70, u71, u72, u73, u74, u75, u76, u77, u78, u79, u80, u81, u82, u83, u84, u85, u86, u87, u88, u89, u90, u91, u92, u93, u94, u95, u96, u97, u98, u99, u100, u101, u102, u103, u104, u105, u106, u107, u108, u109, u110, u111, u112, u113, u114, u115, u116, u117, u118, u119, u120, u121, u122, u123, u124, u125, u126, u127, u128, u129, u130, u131, u132, u133, u134, u135, u136, u137, u138, u139, u140, u141, u142, u143, u144, u145, u146, u147, u148, u149, u150, u151, u152, u153, u154, u155, u156, u157, u158, u159, u160, u161, u162, u163, u164, u165, u166, u167, u168, u169, u170, u171, u172, u173, u174, u175, u176, u177, u178, u179, u180, u181, u182, u183, u184, u185, u186, u187, u188, u189, u190, u191, u192, u193, u194, u195, u196, u197, u198, u199, u200, u201, u202, u203, u204, u205, u206, u207, u208, u209, u210, u211, u212, u213, u214, u215, u216, u217, u218, u219, u220, u221, u222, u223, u224, u225, u226, u227, u228, u229, u230, u231, u232, u233, u234, u235, u236, u237, u238, u239, u240, u241, u242, u243, u244, u245, u246, u247, u248, u249, u250, u251, u252, u253, u254, u255, u256, u257, u258, u259, u260, u261, u262, u263, u264, u265, u266, u267, u268, u269, u270, u271, u272, u273, u274, u275, u276, u277, u278, u279, u280, u281, u282, u283, u284, u285, u286, u287, u288, u289, u290, u291, u292, u293, u294, u295, u296, u297, u298, u299, u300, u301, u302, u303, u304, u305, u306, u307, u308, u309, u310, u311, u312, u313, u314, u315, u316, u317, u318, u319, u320, u321], defers := [] } wc := by
 dsimp only [bodyC, thenC, sndC, fstC, Try.f5, Option.getD] at hF hC hR
 subst hF
 subst hC
 subst hR
 by_cases c129 : t366 = true
 · subst c129
   have H1 : ((impl_AllAround.f k (t354.length : Int)).bind fun bt400 => (laws_FnSixteenAround.l3 k t357 bt400.2 false bt400.1 (bt400.1.length : Int) 0)) = some r := by rw [if_pos rfl] at H; exact H
   clear H
   have H := H1
   clear H1
   replace H := Option.bind_eq_some_iff.mp H
   obtain ⟨⟨t400, t401⟩, A1300, H⟩ := H
   replace H : (laws_FnSixteenAround.l3 k t357 t401 false t400 (t400.length : Int) 0) = some r := H
   have A130 := Aside0.mk A1300
   clear A1300
   have H' := Aside0.mk H
   clear H
   go_wp2_with (first | ((with_reducible refine gate_callee (f := 7) rfl ?_); refine goesL_ (some 300) rfl rfl Try.func7 (by kernel_rfl) rfl #[.int .i64 (t354.length : Int)] rfl ga_ ?_; (with_reducible refine (impl_AllAround.calls k (t354.length : Int) t400 t401 _ A130.out).mono ?_); rintro e w131 ⟨v402, rfl, ho0, hb⟩; refine ⟨_, rfl, ?_⟩; have n0_ := Aside0.mk (Kd.R_below (rk_ HO_24.out) hb); have n1_ := Aside0.mk (Kd.R_below (rk_ HO_25.out) hb); have n2_ := Aside0.mk (Kd.S_lower (Kd.S_new' (Kd.S_new' ho0 (Kd.R_lt (rk_ HO_24.out))) (Kd.R_lt (rk_ HO_25.out))) (below_size (hb_))); have n3_ := Aside0.mk (below_step (hb_) hb); clear HO_24; clear HO_25; clear HB; have HO_24 := n0_; have HO_25 := n1_; have HO403 := n2_; have HB := n3_; clear n0_ n1_ n2_ n3_; (try clear hb); (try clear hb2); (try clear hk); (try clear hi); (try clear ho0); obtain ⟨Ao132, co132, eo132⟩ := Kd.S_slice HO403.out; subst eo132))
   go_loopg [42, 305] k (fun kq v42 v305 w' => ∃ (x42_6 : Bool) (x305_6 : Int), v42 = .bool x42_6 ∧ v305 = .int .i64 x305_6 ∧ Aside0 (laws_FnSixteenAround.l3 kq t357 t401 x42_6 t400 (t400.length : Int) x305_6 = some r) ∧ Aside0 (kq ≤ k) ∧ Aside0 (Kd.R (Kd.int .i64) 3 w' w.heap.size (fun _ => True) (.slice Ao91 t357.length co91) t357) ∧ Aside0 (Kd.S (Kd.slice 3 (Kd.int .i64)) 33 w' w.heap.size (fun k_ => some k_ ≠ ((.slice Ao91 t357.length co91) : Value).ownBlock) (.slice Ao132 t400.length co132) t400) ∧ Aside0 (Below w.heap.size w w'))
   case atStart => exact ⟨(false), (0), (by first | rfl | (simp; done) | (simp [*]; done)), (by first | rfl | (simp; done) | (simp [*]; done)), H', ⟨Nat.le_refl _⟩, ⟨by (with_reducible repeat (first | apply Kd.R_alloc | apply Kd.R_drewN | apply Kd.R_drew)); exact Kd.R_mono HO_25.out (fun _ hk => trivial)⟩, ⟨by (with_reducible repeat (first | apply Kd.S_alloc | apply Kd.S_drewN | apply Kd.S_drew)); exact Kd.S_mono HO403.out (fun _ hk => hk.2)⟩, ⟨hb_⟩⟩
   case round =>
     clear H'
     obtain ⟨x42_6, x305_6, rfl, rfl, HA, HK6, HO_25, HO_303, HB⟩ := hrel
     cases gk with
     | zero => exact absurd HA.out (by simp [laws_FnSixteenAround.l3])
     | succ k6 =>
       have H := HA.out
       clear HA
       simp only [laws_FnSixteenAround.l3] at H
       by_cases c133 : x305_6 < (t400.length : Int)
       · rw [if_pos c133] at H
         have c133b0 : decide (x305_6 < (t400.length : Int)) = true := decide_eq_true c133
         clear c133
         by_cases c134 : 0 ≤ x305_6
         · rw [if_pos c134] at H
           have c134b0 : decide (0 ≤ x305_6) = true := decide_eq_true c134
           clear c134
           by_cases c135 : x305_6 < (t400.length : Int)
           · rw [if_pos c135] at H
             have c135b0 : decide (x305_6 < (t400.length : Int)) = true := decide_eq_true c135
             clear c135
             by_cases c136 : x42_6 = true
             · subst c136
               have H1 : (laws_FnSixteenAround.l3 k6 t357 t401 true t400 (t400.length : Int) (wrap64 (x305_6 + 1))) = some r := by rw [if_pos rfl] at H; exact H
               clear H
               have H := H1
               clear H1
               have H' := Aside0.mk H
               clear H
               have p404 : 0 ≤ (x305_6 : Int) := odt_
               have q404 : x305_6 < (t400.length : Int) := odt_
               obtain ⟨ad404, A404_0, c404_0, e404, hx404_0, hl404_0, hi404_0⟩ := at_L2 (Kd.S_reads' HO_303.out).2.2 x305_6 p404 q404
               cases e404
               obtain ⟨ce404, hce404, hMe404, hcc404⟩ := Kd.S_get HO_303.out [] x305_6 p404 (by first | exact q404 | exact odt_ | (have e_ := (Kd.S_reads' HO_303.out).1; omega))
               obtain ⟨ve404_0, rfl, ge404_0⟩ := hMe404
               have hv404_0 := hcc404 0 _ rfl
               rw [Nat.add_zero, show ((Kd.slice 3 (Kd.int .i64))).sz = 1 from rfl, Nat.mul_one] at hv404_0
               replace hv404_0 := Option.some.inj (hv404_0.symm.trans hx404_0)
               rw [hv404_0] at ge404_0
               have HL404_0 := Aside0.mk (show Kd.R (Kd.int .i64) 3 _ _ _ _ (rd_L2 t400 x305_6) from ge404_0)
               clear hv404_0 ge404_0
               clear hcc404 hce404
               have HR404_0 := Aside0.mk hi404_0
               have HC404_0 := Aside0.mk hl404_0
               clear hi404_0 hl404_0
               replace p404 := eq_true p404
               replace q404 := eq_true q404
               go_wp2
               go_roundg k6
               case measure => have := HK6.out; omega
               case rel => exact ⟨(true), (wrap64 (x305_6 + 1)), (by first | rfl | (simp; done) | (simp [*]; done)), (by first | rfl | (simp; done) | (simp [*]; done)), H', ⟨by have := HK6.out; omega⟩, ⟨rk_ HO_25.out⟩, ⟨by (with_reducible repeat (first | apply Kd.S_alloc | apply Kd.S_drewN | apply Kd.S_drew)); exact HO_303.out⟩, ⟨hb_⟩⟩
             · replace c136 := Bool.eq_false_iff.mpr c136
               subst c136
               have H1 : ((laws_eSame.f k6 (rd_L2 t400 x305_6) t357).bind fun t405 => (laws_FnSixteenAround.l3 k6 t357 t401 t405 t400 (t400.length : Int) (wrap64 (x305_6 + 1)))) = some r := by rw [if_neg (show ¬ (false = true) by decide)] at H; exact H
               clear H
               have H := H1
               clear H1
               replace H := Option.bind_eq_some_iff.mp H
               obtain ⟨t405, A1370, H⟩ := H
               replace H : (laws_FnSixteenAround.l3 k6 t357 t401 t405 t400 (t400.length : Int) (wrap64 (x305_6 + 1))) = some r := H
               have A137 := Aside0.mk A1370
               clear A1370
               have H' := Aside0.mk H
               clear H
               have p404 : 0 ≤ (x305_6 : Int) := odt_
               have q404 : x305_6 < (t400.length : Int) := odt_
               obtain ⟨ad404, A404_0, c404_0, e404, hx404_0, hl404_0, hi404_0⟩ := at_L2 (Kd.S_reads' HO_303.out).2.2 x305_6 p404 q404
               cases e404
               obtain ⟨ce404, hce404, hMe404, hcc404⟩ := Kd.S_get HO_303.out [] x305_6 p404 (by first | exact q404 | exact odt_ | (have e_ := (Kd.S_reads' HO_303.out).1; omega))
               obtain ⟨ve404_0, rfl, ge404_0⟩ := hMe404
               have hv404_0 := hcc404 0 _ rfl
               rw [Nat.add_zero, show ((Kd.slice 3 (Kd.int .i64))).sz = 1 from rfl, Nat.mul_one] at hv404_0
               replace hv404_0 := Option.some.inj (hv404_0.symm.trans hx404_0)
               rw [hv404_0] at ge404_0
               have HL404_0 := Aside0.mk (show Kd.R (Kd.int .i64) 3 _ _ _ _ (rd_L2 t400 x305_6) from ge404_0)
               clear hv404_0 ge404_0
               clear hcc404 hce404
               have HR404_0 := Aside0.mk hi404_0
               have HC404_0 := Aside0.mk hl404_0
               clear hi404_0 hl404_0
               replace p404 := eq_true p404
               replace q404 := eq_true q404
               go_wp2_with (first | (go_at_call 18; (with_reducible refine (laws_eSame.calls k6 _ _ (rd_L2 t400 x305_6) _ _ t357 t405 _ ?side1 ?side2 ?side3 ?side4 A137.out).mono ?_); (case side1 => repeat (first | exact (by repeat (first | (with_reducible exact HR404_0.out) | (with_reducible refine Kd.C_alloc ?_ _) | (with_reducible refine Kd.C_drewN ?_ _) | (with_reducible refine Kd.C_drew ?_) | exact HR404_0.out)) | (with_reducible refine Kd.C_alloc ?_ _) | (with_reducible refine Kd.C_drewN ?_ _) | (with_reducible refine Kd.C_drew ?_))); (case side2 => exact HC404_0.out); (case side3 => repeat (first | exact (Kd.R_reads' HO_25.out).2.2 | (with_reducible refine Kd.C_alloc ?_ _) | (with_reducible refine Kd.C_drewN ?_ _) | (with_reducible refine Kd.C_drew ?_))); (case side4 => exact (Kd.R_reads' HO_25.out).2.1); rintro e w' ⟨rfl, ⟨nd, rfl⟩⟩))
               go_roundg k6
               case measure => have := HK6.out; omega
               case rel => exact ⟨(t405), (wrap64 (x305_6 + 1)), (by first | rfl | (simp; done) | (simp [*]; done)), (by first | rfl | (simp; done) | (simp [*]; done)), H', ⟨by have := HK6.out; omega⟩, ⟨rk_ HO_25.out⟩, ⟨by (with_reducible repeat (first | apply Kd.S_alloc | apply Kd.S_drewN | apply Kd.S_drew)); exact HO_303.out⟩, ⟨hb_⟩⟩
           · rw [if_neg c135] at H
             exact absurd H (by simp)
         · rw [if_neg c134] at H
           exact absurd H (by simp)
       · rw [if_neg c133] at H
         have c133b0 : decide (x305_6 < (t400.length : Int)) = false := decide_eq_false c133
         clear c133
         by_cases c138 : t401 = true
         · subst c138
           have H1 : (if x42_6 = true then (some true) else (some false)) = some r := by rw [if_pos rfl] at H; exact H
           clear H
           have H := H1
           clear H1
           by_cases c139 : x42_6 = true
           · subst c139
             have H1 : (some true) = some r := by rw [if_pos rfl] at H; exact H
             clear H
             have H := H1
             clear H1
             obtain rfl := Option.some.inj H
             go_wp2
             go_ret
             exact ⟨by first | rfl | (simp [errW_none, errW_some] <;> rfl) | (simp [*, errW_none, errW_some] <;> rfl), hb_⟩
           · replace c139 := Bool.eq_false_iff.mpr c139
             subst c139
             have H1 : (some false) = some r := by rw [if_neg (show ¬ (false = true) by decide)] at H; exact H
             clear H
             have H := H1
             clear H1
             exact absurd (Option.some.inj H) (by rw [hr_]; decide)
         · replace c138 := Bool.eq_false_iff.mpr c138
           subst c138
           have H1 : (some false) = some r := by rw [if_neg (show ¬ (false = true) by decide)] at H; exact H
           clear H
           have H := H1
           clear H1
           exact absurd (Option.some.inj H) (by rw [hr_]; decide)
 · replace c129 := Bool.eq_false_iff.mpr c129
   subst c129
   have H1 : (some true) = some r := by rw [if_neg (show ¬ (false = true) by decide)] at H; exact H
   clear H
   have H := H1
   clear H1
   obtain rfl := Option.some.inj H
   go_wp2
   go_ret
   exact ⟨by first | rfl | (simp [errW_none, errW_some] <;> rfl) | (simp [*, errW_none, errW_some] <;> rfl), hb_⟩
end Go.Proofs.Ytogafcjfaicpgaa.MC
