/- The law FnSixteenAround, walked: the turned lists. No condition beyond those typed. -/
import Derived.Test.YtogafcjfaicpgaaMCx0
import Derived.Test.YtogafcjfaicpgaaMCx6
import Derived.Test.YtogafcjfaicpgaaMCx14
import Derived.Test.YtogafcjfaicpgaaMCx15
import Derived.Test.YtogafcjfaicpgaaMCx16
import Derived.Test.YtogafcjfaicpgaaMCx17
import Derived.Test.YtogafcjfaicpgaaMCx19
import Derived.Test.YtogafcjfaicpgaaMCx20
import Derived.Test.YtogafcjfaicpgaaHCa
namespace Go.Proofs.Ytogafcjfaicpgaa.MC
open Go.RowKit Go.Proofs.YtogafcjfaicpgaaW.PrintWords Go.Proofs.YtogafcjfaicpgaaW.PrintLast Go.Proofs.YtogafcjfaicpgaaW.PrintMore Go.Proofs.YtogafcjfaicpgaaV
attribute [local go_sem] max2_int min2_int max_two min_two max_three min_three max_four min_four   -- for this text's walks alone
set_option linter.unusedVariables false
set_option linter.unusedSimpArgs false

set_option maxHeartbeats 32000000 in
set_option maxRecDepth 100000 in
theorem sixteen_j5 {kq : Nat} {t354 t357 : List Int} {t366 x269_88 r : Bool} (HA : laws_FnSixteenAround.j5 kq t354 t357 (t354.length : Int) t366 x269_88 = some r) {w wc : World} (hr_ : r = true) {Ao77 Ao91 : Option Addr} {co77 co91 : Nat} (HO_24 : Aside0 (Kd.R (Kd.int .i64) 3 wc w.heap.size (fun k_ => some k_ ≠ ((.slice Ao91 t357.length co91) : Value).ownBlock) (.slice Ao77 t354.length co77) t354)) (HO_25 : Aside0 (Kd.R (Kd.int .i64) 3 wc w.heap.size (fun k_ => some k_ ≠ ((.slice Ao77 t354.length co77) : Value).ownBlock) (.slice Ao91 t357.length co91) t357)) (HB : Aside0 (Below w.heap.size w wc)) {u0 u1 u2 u3 u4 u5 u6 u7 u8 u9 u10 u11 u12 u13 u14 u15 u16 u17 u18 u19 u20 u21 u22 u23 u26 u27 u28 u31 u32 u33 u34 u35 u36 u37 u38 u39 u40 u41 u42 u43 u44 u45 u46 u47 u48 u49 u50 u51 u52 u53 u54 u55 u56 u57 u58 u59 u60 u61 u62 u63 u64 u65 u66 u67 u68 u69 u70 u71 u72 u73 u74 u75 u76 u77 u78 u79 u80 u81 u82 u83 u84 u85 u86 u87 u88 u89 u90 u91 u92 u93 u94 u95 u96 u97 u98 u99 u100 u101 u102 u103 u104 u105 u106 u107 u108 u109 u110 u111 u112 u113 u114 u115 u116 u117 u118 u119 u120 u121 u122 u123 u124 u125 u126 u127 u128 u129 u130 u131 u132 u133 u134 u135 u136 u137 u138 u139 u140 u141 u142 u143 u144 u145 u146 u147 u148 u149 u150 u151 u152 u153 u154 u155 u156 u157 u158 u159 u160 u161 u162 u163 u164 u165 u166 u167 u168 u169 u170 u171 u172 u173 u174 u175 u176 u177 u178 u179 u180 u181 u182 u183 u184 u185 u186 u187 u188 u189 u190 u191 u192 u193 u194 u195 u196 u197 u198 u199 u200 u201 u202 u203 u204 u205 u206 u207 u208 u209 u210 u211 u212 u213 u214 u215 u216 u217 u218 u219 u220 u221 u222 u223 u224 u225 u226 u227 u228 u229 u230 u231 u232 u233 u234 u235 u236 u237 u238 u239 u240 u241 u242 u243 u244 u245 u246 u247 u248 u249 u250 u251 u252 u253 u254 u255 u256 u257 u258 u259 u260 u261 u262 u263 u264 u265 u266 u267 u268 u270 u271 u272 u273 u274 u275 u276 u277 u278 u279 u280 u281 u282 u283 u284 u285 u286 u287 u288 u289 u290 u291 u292 u293 u294 u295 u296 u297 u298 u299 u300 u301 u302 u303 u304 u305 u306 u307 u308 u309 u310 u311 u312 u313 u314 u315 u316 u317 u318 u319 u320 u321 : Value} {K K1 : Act → World → Prop} {cF cB cR : Code} (hF : sndC (fstC (sndC (sndC (sndC (sndC (thenC (sndC (fstC (sndC (sndC (sndC (sndC (sndC (sndC (sndC (sndC (sndC (sndC (sndC (sndC (sndC (bodyC Try.f5)))))))))))))))))))))) = cF) (hC : sndC (sndC (sndC (sndC (sndC (thenC (sndC (fstC (sndC (sndC (sndC (sndC (sndC (sndC (sndC (sndC (sndC (sndC (sndC (sndC (sndC (bodyC Try.f5))))))))))))))))))))) = cB) (hR : sndC (sndC (sndC (sndC (sndC (sndC (sndC (sndC (sndC (sndC (sndC (sndC (sndC (sndC (bodyC Try.f5)))))))))))))) = cR)
  (hK1 : ∀ (a' : Act) (w' : World), Code.wp Try.prog cB (Exit.then K (bodyPost Try.prog Try.f5 fun e w' => e = .returned (.bool r) ∧ Below w.heap.size w w')) a' w' → K1 a' w')
  (hK : ∀ (a' : Act) (w' : World), Code.wp Try.prog cR (bodyPost Try.prog Try.f5 fun e w' => e = .returned (.bool r) ∧ Below w.heap.size w w') a' w' → K a' w') :
  Code.wp Try.prog cF (Exit.then K1 (Exit.then K (bodyPost Try.prog Try.f5 fun e w' => e = .returned (.bool r) ∧ Below w.heap.size w w'))) { tmps := #[u0, u1, u2, u3, u4, u5, u6, u7, u8, u9, u10, u11, u12, u13, u14, u15, u16, u17, u18, u19, u20, u21, u22, u23, .slice Ao77 t354.length co77, .slice Ao91 t357.length co91, u26, u27, u28, .int .i64 (t354.length : Int), .bool t366, u31, u32, u33, u34, u35, u36, u37, u38, u39, u40, u41, u42, u43, u44, u45, u46, u47, u48, u49, u50, u51, u52, u53, u54, u55, u56, u57, u58, u59, u60, u61, u62, u63, u64, u65, u66, u67, u68, u69, u70, u71, u72, u73, u74, u75, u76, u77, u78, u79, u80, u81, u82, u83, u84, u85, u86, u87, u88, u89, u90, u91, u92, u93, u94, u95, u96, u97, u98, u99, u100, u101, u102, u103, u104, u105, u106, u107, u108, u109, u110, u111, u112, u113, u114, u115, u116, u117, u118, u119, u120, u121, u122, u123, u124, u125, u126, u127, u128, u129, u130, u131, u132, u133, u134, u135, u136, u137, u138, u139, u140, u141, u142, u143, u144, u145, u146, u147, u148, u149, u150, u151, u152, u153, u154, u155, u156, u157, u158, u159, u160, u161, u162, u163, u164, u165, u166, u167, u168, u169, u170, u171, u172, u173, u174, u175, u176, u177, u178, u179, u180, u181, u182, u183, u184, u185, u186, u187, u188, u189, u190, u191, u192, u193, u194, u195, u196, u197, u198, u199, u200, u201, u202, u203, u204, u205, u206, u207, u208, u209, u210, u211, u212, u213, u214, u215, u216, u217, u218, u219, u220, u221, u222, u223, u224, u225, u226, u227, u228, u229, u230, u231, u232, u233, u234, u235, u236, u237, u238, u239, u240, u241, u242, u243, u244, u245, u246, u247, u248, u249, u250, u251, u252, u253, u254, u255, u256, u257, u258, u259, u260, u261, u262, u263, u264, u265, u266, u267, u268, .bool x269_88, u270, u271, u272, u273, u274, u275, u276, u277, u278, u279, u280, u281, u282, u283, u284, u285, u286, u287, u288, u289, u290, u291, u292, u293, u294, u295, u296, u297, u298, u299, u300, u301, u302, u303, u304, u305, u306, u307, u308, u309, u310, u311, u312, u313, u314, u315, u316, u317, u318, u319, u320, u321], defers := [] } wc := by
 dsimp only [bodyC, thenC, sndC, fstC, Try.f5, Option.getD] at hF hC hR
 subst hF
 subst hC
 subst hR
 have HA := Aside0.mk HA
 cases kq with
 | zero => exact absurd HA.out (by simp [laws_FnSixteenAround.j5])
 | succ kj88 =>
   have H := HA.out
   clear HA
   simp only [laws_FnSixteenAround.j5] at H
   by_cases c107 : x269_88 = true
   · subst c107
     have H1 : (some false) = some r := by rw [if_pos rfl] at H; exact H
     clear H
     have H := H1
     clear H1
     exact absurd (Option.some.inj H) (by rw [hr_]; decide)
   · replace c107 := Bool.eq_false_iff.mpr c107
     subst c107
     have H1 : (laws_FnSixteenAround.l2 kj88 t354 t357 (t354.length : Int) t366 0) = some r := by rw [if_neg (show ¬ (false = true) by decide)] at H; exact H
     clear H
     have H := H1
     clear H1
     have H' := Aside0.mk H
     clear H
     go_wp2
     go_loopg [36] kj88 (fun kq v36 w' => ∃ (x36_5 : Int), v36 = .int .i64 x36_5 ∧ Aside0 (laws_FnSixteenAround.l2 kq t354 t357 (t354.length : Int) t366 x36_5 = some r) ∧ Aside0 (kq ≤ kj88) ∧ Aside0 (Kd.R (Kd.int .i64) 3 w' w.heap.size (fun k_ => some k_ ≠ ((.slice Ao91 t357.length co91) : Value).ownBlock) (.slice Ao77 t354.length co77) t354) ∧ Aside0 (Kd.R (Kd.int .i64) 3 w' w.heap.size (fun k_ => some k_ ≠ ((.slice Ao77 t354.length co77) : Value).ownBlock) (.slice Ao91 t357.length co91) t357) ∧ Aside0 (Below w.heap.size w w'))
     case atStart => exact ⟨(0), (by first | rfl | (simp; done) | (simp [*]; done)), H', ⟨Nat.le_refl _⟩, ⟨rk_ HO_24.out⟩, ⟨rk_ HO_25.out⟩, ⟨hb_⟩⟩
     case round =>
       clear H'
       obtain ⟨x36_5, rfl, HA, HK5, HO_24, HO_25, HB⟩ := hrel
       cases gk with
       | zero => exact absurd HA.out (by simp [laws_FnSixteenAround.l2])
       | succ k5 =>
         have H := HA.out
         clear HA
         simp only [laws_FnSixteenAround.l2] at H
         by_cases c108 : x36_5 < (t354.length : Int)
         · rw [if_pos c108] at H
           have c108b0 : decide (x36_5 < (t354.length : Int)) = true := decide_eq_true c108
           clear c108
           obtain ⟨y378, hy378⟩ : ∃ y_ : List Int, y_ = (([] : List Int)) := ⟨_, rfl⟩
           replace H : (if 0 ≤ x36_5 then (if x36_5 ≤ (t354.length : Int) then ((some (t354.drop (x36_5 : Int).toNat : List Int)).bind fun y381 => (if y378.length + y381.length < 17592186044416 then ((some (y378 ++ y381 : List Int)).bind fun y385 => ((some (t354.take (x36_5 : Int).toNat : List Int)).bind fun y388 => (if y385.length + y388.length < 17592186044416 then ((impl_LeastNumbers.f k5 (y385 ++ y388)).bind fun bt395 => (if bt395.2 = true then ((laws_eSame.f k5 bt395.1 t357).bind fun t399 => (if t399 = true then (laws_FnSixteenAround.l2 k5 t354 t357 (t354.length : Int) t366 (wrap64 (x36_5 + 1))) else (some false))) else (some false))) else (none)))) else (none))) else (none)) else (none)) = some r := by first | (rw [hy378]; with_reducible exact H) | (have H2_ := (Option.bind_some _ _).symm.trans H; rw [hy378]; with_reducible exact H2_) | (have H2_ := (Option.bind_some _ _).symm.trans H; with_reducible exact H2_) | with_reducible exact H | (rw [hy378]; exact H) | exact H
           have Ny378 := Aside0.mk hy378
           clear hy378
           by_cases c109 : 0 ≤ x36_5
           · rw [if_pos c109] at H
             have c109b0 := eq_true c109
             have c109b1 : decide (0 ≤ x36_5) = true := decide_eq_true c109
             clear c109
             by_cases c110 : x36_5 ≤ (t354.length : Int)
             · rw [if_pos c110] at H
               have c110b0 := eq_true c110
               have c110b1 : decide (x36_5 ≤ (t354.length : Int)) = true := decide_eq_true c110
               clear c110
               obtain ⟨y381, hy381⟩ : ∃ y_ : List Int, y_ = (t354.drop (x36_5 : Int).toNat) := ⟨_, rfl⟩
               replace H : (if y378.length + y381.length < 17592186044416 then ((some (y378 ++ y381 : List Int)).bind fun y385 => ((some (t354.take (x36_5 : Int).toNat : List Int)).bind fun y388 => (if y385.length + y388.length < 17592186044416 then ((impl_LeastNumbers.f k5 (y385 ++ y388)).bind fun bt395 => (if bt395.2 = true then ((laws_eSame.f k5 bt395.1 t357).bind fun t399 => (if t399 = true then (laws_FnSixteenAround.l2 k5 t354 t357 (t354.length : Int) t366 (wrap64 (x36_5 + 1))) else (some false))) else (some false))) else (none)))) else (none)) = some r := by first | (rw [hy381]; with_reducible exact H) | (have H2_ := (Option.bind_some _ _).symm.trans H; rw [hy381]; with_reducible exact H2_) | (have H2_ := (Option.bind_some _ _).symm.trans H; with_reducible exact H2_) | with_reducible exact H | (rw [hy381]; exact H) | exact H
               have Ny381 := Aside0.mk hy381
               clear hy381
               by_cases c111 : y378.length + y381.length < 17592186044416
               · rw [if_pos c111] at H
                 have LMc111 := Aside0.mk c111
                 clear c111
                 obtain ⟨y385, hy385⟩ : ∃ y_ : List Int, y_ = (y378 ++ y381) := ⟨_, rfl⟩
                 replace H : ((some (t354.take (x36_5 : Int).toNat : List Int)).bind fun y388 => (if y385.length + y388.length < 17592186044416 then ((impl_LeastNumbers.f k5 (y385 ++ y388)).bind fun bt395 => (if bt395.2 = true then ((laws_eSame.f k5 bt395.1 t357).bind fun t399 => (if t399 = true then (laws_FnSixteenAround.l2 k5 t354 t357 (t354.length : Int) t366 (wrap64 (x36_5 + 1))) else (some false))) else (some false))) else (none))) = some r := by first | (rw [hy385]; with_reducible exact H) | (have H2_ := (Option.bind_some _ _).symm.trans H; rw [hy385]; with_reducible exact H2_) | (have H2_ := (Option.bind_some _ _).symm.trans H; with_reducible exact H2_) | with_reducible exact H | (rw [hy385]; exact H) | exact H
                 have Ny385 := Aside0.mk hy385
                 clear hy385
                 have c112b0 := eq_true (odt_ : 0 ≤ x36_5)
                 have c113b0 := eq_true (odt_ : x36_5 ≤ (t354.length : Int))
                 obtain ⟨y388, hy388⟩ : ∃ y_ : List Int, y_ = (t354.take (x36_5 : Int).toNat) := ⟨_, rfl⟩
                 replace H : (if y385.length + y388.length < 17592186044416 then ((impl_LeastNumbers.f k5 (y385 ++ y388)).bind fun bt395 => (if bt395.2 = true then ((laws_eSame.f k5 bt395.1 t357).bind fun t399 => (if t399 = true then (laws_FnSixteenAround.l2 k5 t354 t357 (t354.length : Int) t366 (wrap64 (x36_5 + 1))) else (some false))) else (some false))) else (none)) = some r := by first | (rw [hy388]; with_reducible exact H) | (have H2_ := (Option.bind_some _ _).symm.trans H; rw [hy388]; with_reducible exact H2_) | (have H2_ := (Option.bind_some _ _).symm.trans H; with_reducible exact H2_) | with_reducible exact H | (rw [hy388]; exact H) | exact H
                 have Ny388 := Aside0.mk hy388
                 clear hy388
                 by_cases c114 : y385.length + y388.length < 17592186044416
                 · rw [if_pos c114] at H
                   have LMc114 := Aside0.mk c114
                   clear c114
                   obtain ⟨y392, hy392⟩ : ∃ y_ : List Int, y_ = (y385 ++ y388) := ⟨_, rfl⟩
                   replace H : ((impl_LeastNumbers.f k5 y392).bind fun bt395 => (if bt395.2 = true then ((laws_eSame.f k5 bt395.1 t357).bind fun t399 => (if t399 = true then (laws_FnSixteenAround.l2 k5 t354 t357 (t354.length : Int) t366 (wrap64 (x36_5 + 1))) else (some false))) else (some false))) = some r := by first | (rw [hy392]; with_reducible exact H) | (have H2_ := (Option.bind_some _ _).symm.trans H; rw [hy392]; with_reducible exact H2_) | (have H2_ := (Option.bind_some _ _).symm.trans H; with_reducible exact H2_) | with_reducible exact H | (rw [hy392]; exact H) | exact H
                   have Ny392 := Aside0.mk hy392
                   clear hy392
                   replace H := Option.bind_eq_some_iff.mp H
                   obtain ⟨⟨t395, t396⟩, A1150, H⟩ := H
                   replace H : (if t396 = true then ((laws_eSame.f k5 t395 t357).bind fun t399 => (if t399 = true then (laws_FnSixteenAround.l2 k5 t354 t357 (t354.length : Int) t366 (wrap64 (x36_5 + 1))) else (some false))) else (some false)) = some r := H
                   have A115 := Aside0.mk A1150
                   clear A1150
                   by_cases c116 : t396 = true
                   · subst c116
                     have H1 : ((laws_eSame.f k5 t395 t357).bind fun t399 => (if t399 = true then (laws_FnSixteenAround.l2 k5 t354 t357 (t354.length : Int) t366 (wrap64 (x36_5 + 1))) else (some false))) = some r := by rw [if_pos rfl] at H; exact H
                     clear H
                     have H := H1
                     clear H1
                     replace H := Option.bind_eq_some_iff.mp H
                     obtain ⟨t399, A1170, H⟩ := H
                     replace H : (if t399 = true then (laws_FnSixteenAround.l2 k5 t354 t357 (t354.length : Int) t366 (wrap64 (x36_5 + 1))) else (some false)) = some r := H
                     have A117 := Aside0.mk A1170
                     clear A1170
                     by_cases c118 : t399 = true
                     · subst c118
                       have H1 : (laws_FnSixteenAround.l2 k5 t354 t357 (t354.length : Int) t366 (wrap64 (x36_5 + 1))) = some r := by rw [if_pos rfl] at H; exact H
                       clear H
                       have H := H1
                       clear H1
                       have H' := Aside0.mk H
                       clear H
                       try go_wp2
                       have n0_ := Aside0.mk (Kd.R_drew HO_24.out)
                       have n1_ := Aside0.mk (Kd.R_drew HO_25.out)
                       have n2_ := Aside0.mk (below_drew1 HB.out)
                       clear HO_24
                       clear HO_25
                       clear HB
                       have HO_24 := n0_
                       have HO_25 := n1_
                       have HB := n2_
                       clear n0_ n1_ n2_
                       have q120 : (x36_5 : Int) ≤ ((t354.length : Int) : Int) := odt_
                       obtain ⟨i0120, hi0120, _, hsz120, _⟩ := info_parts info3
                       have hroom120 : t354.length ≤ co77 := (Kd.R_reads' HO_24.out).2.1
                       have hC120 : Kd.C (Kd.int .i64) _ Ao77 t354.length t354 := (Kd.R_reads' HO_24.out).2.2
                       have q0120 : (0 : Int) ≤ (x36_5 : Int) := odt_
                       have hcut120 := cut_from (P := Try.prog) 33 3 .i64 Try.underlying33 hi0120 1 hsz120 Ao77 t354.length co77 x36_5 q0120 q120
                       have hr120 := Kd.C_drop (m := (x36_5 : Int).toNat) (c := co77) hC120 (by omega) hroom120
                       obtain ⟨A120, hA120⟩ : ∃ Aq_, Aq_ = (if co77 = (x36_5 : Int).toNat then Ao77 else (Ao77 : Option Addr).map (·.add ((x36_5 : Int).toNat * 1))) := ⟨_, rfl⟩
                       obtain ⟨c120, hc120⟩ : ∃ cq_, cq_ = co77 - (x36_5 : Int).toNat := ⟨_, rfl⟩
                       have hy120 : y381.length = t354.length - (x36_5 : Int).toNat := (by rw [Ny381.out, List.length_drop] <;> omega)
                       rw [show (t354).drop (x36_5 : Int).toNat = y381 from Ny381.out.symm] at hr120
                       replace hr120 : Kd.C (Kd.int .i64) _ A120 y381.length y381 := (by rw [hA120]; exact hr120)
                       rw [← hy120, ← hA120, ← hc120] at hcut120
                       have HR384 := Aside0.mk hr120
                       have HC384 := Aside0.mk (show y381.length ≤ c120 from by rw [hy120, hc120]; exact Nat.sub_le_sub_right hroom120 _)
                       clear hr120 hC120 hroom120 hi0120 hsz120 hc120
                       have KY120 := Aside0.mk hy120
                       have KA120 := Aside0.mk hA120
                       clear hy120 hA120
                       have KL120 := Aside0.mk (show (x36_5 : Int).toNat ≤ t354.length from by omega)
                       replace q120 := eq_true q120
                       have q121 : (x36_5 : Int) ≤ ((t354.length : Int) : Int) := odt_
                       obtain ⟨i0121, hi0121, _, hsz121, _⟩ := info_parts info3
                       have hroom121 : t354.length ≤ co77 := (Kd.R_reads' HO_24.out).2.1
                       have hC121 : Kd.C (Kd.int .i64) _ Ao77 t354.length t354 := (Kd.R_reads' HO_24.out).2.2
                       have hcut121 := cut_to (P := Try.prog) 33 3 .i64 Try.underlying33 hi0121 Ao77 t354.length co77 x36_5 (odt_) q121 hroom121
                       have hr121 := Kd.C_take (m := (x36_5 : Int).toNat) hC121 (by omega)
                       have hy121 : y388.length = (x36_5 : Int).toNat := (by rw [Ny388.out, List.length_take]; omega)
                       rw [← Ny388.out] at hr121
                       rw [← hy121] at hcut121
                       have HR391 := Aside0.mk hr121
                       have HC391 := Aside0.mk (show y388.length ≤ co77 from by omega)
                       clear hr121 hC121 hroom121 hi0121 hsz121
                       have KY121 := Aside0.mk hy121
                       clear hy121
                       have KL121 := Aside0.mk (show (x36_5 : Int).toNat ≤ t354.length from by omega)
                       replace q121 := eq_true q121
                       refine start_ (n := 10) (S := fun w' => True) (ds := []) #[false, false, false, false, false, false, false, false, false, false] (by kernel_rfl) rfl rfl trivial (fun hHeld => ?_); refine with_tabW laws_FnSixteenAround.tab46 laws_FnSixteenAround.bits46 (fun HT_ HW_ => ?_)
                       generalize wr.drew = w119 at HO_24 HO_25 HB HR384 HR391 hHeld ⊢
                       refine pure_ (i := 1) (N := some 276) (v := ?_) (a' := ?_) #[false, true, false, false, false, false, false, false, false, false] rfl rfl (any_of HT_.out (by kernel_rfl)) (fun _ _ _ h => h) (Or.inl ⟨by rfl, ?_⟩) ?_ ?_
                       rotate_left
                       · intro w'
                         go_simp
                         with_reducible rfl
                       rotate_left
                       · simp only [Act.put, sA, sB, sC, i64_w, i32_w]
                         rfl
                       refine pure_ (i := 2) (N := some 277) (v := ?_) (a' := ?_) #[false, true, true, false, false, false, false, false, false, false] rfl rfl (any_of HT_.out (by kernel_rfl)) (fun _ _ _ h => h) (Or.inl ⟨by rfl, ?_⟩) ?_ ?_
                       rotate_left
                       · intro w'
                         go_simp
                         with_reducible rfl
                       rotate_left
                       · simp only [Act.put, sA, sB, sC, i64_w, i32_w]
                         rfl
                       refine pure_ (i := 3) (N := some 278) (v := ?_) (a' := ?_) #[false, true, true, true, false, false, false, false, false, false] rfl rfl (any_of HT_.out (by kernel_rfl)) (fun _ _ _ h => h) (Or.inl ⟨by rfl, ?_⟩) ?_ ?_
                       rotate_left
                       · intro w'
                         go_simp
                         with_reducible rfl
                       rotate_left
                       · simp only [Act.put, sA, sB, sC, i64_w, i32_w]
                         rfl
                       refine pure_ (i := 5) (N := some 280) (v := ?_) (a' := ?_) #[false, true, true, true, false, true, false, false, false, false] rfl rfl (any_of HT_.out (by kernel_rfl)) (fun _ _ _ h => h) (Or.inl ⟨by rfl, ?_⟩) ?_ ?_
                       rotate_left
                       · intro w'
                         go_simp
                         with_reducible rfl
                       rotate_left
                       · simp only [Act.put, sA, sB, sC, i64_w, i32_w]
                         rfl
                       refine pure_ (i := 6) (N := some 281) (v := ?_) (a' := ?_) #[false, true, true, true, false, true, true, false, false, false] rfl rfl (any_of HT_.out (by kernel_rfl)) (fun _ _ _ h => h) (Or.inl ⟨by rfl, ?_⟩) ?_ ?_
                       rotate_left
                       · intro w'
                         go_simp
                         with_reducible rfl
                       rotate_left
                       · simp only [Act.put, sA, sB, sC, i64_w, i32_w]
                         rfl
                       refine pure_ (i := 7) (N := some 282) (v := ?_) (a' := ?_) #[false, true, true, true, false, true, true, true, false, false] rfl rfl (any_of HT_.out (by kernel_rfl)) (fun _ _ _ h => h) (Or.inl ⟨by rfl, ?_⟩) ?_ ?_
                       rotate_left
                       · intro w'
                         go_simp
                         with_reducible rfl
                       rotate_left
                       · simp only [Act.put, sA, sB, sC, i64_w, i32_w]
                         rfl
                       refine one_ (i := 0) (N := some 275) #[true, true, true, true, false, true, true, true, false, false] rfl rfl (one_of HT_.out (by kernel_rfl)) (by decide) (fun K hK => ?_)
                       refine Kd.R_lit_step (Kd.int .i64) _ 3 ?hg (N := 275) ?hd (xs := ([] : List Int)) (inner := []) (ok := fun _ => True) (okp := fun _ => True) ?hr ?hp (fun _ hk => hk) trivial (Below.refl _ _) (Nat.le_refl _) (by simp) ?_; (case hd => rfl); (case hg => rfl); (case hr => first | (go_simp; done) | (go_simp; rfl)); (case hp => exact (Reps.none _ _))
                       intro v379 w122 ho123 hb hg_ hnew_
                       clear hg_ hnew_
                       (first | rw [← Ny378.out] at ho123 | (simp only [Int.reduceToNat] at ho123; rw [← Ny378.out] at ho123))
                       have n0_ := Aside0.mk (Kd.R_elder' (rk_ HO_24.out) (Kd.R_base ho123) hb)
                       have n1_ := Aside0.mk (Kd.R_elder' (rk_ HO_25.out) (Kd.R_base ho123) hb)
                       have n2_ := Aside0.mk (Kd.R_lower (Kd.R_new' (Kd.R_new' ho123 (Kd.R_lt (rk_ HO_24.out))) (Kd.R_lt (rk_ HO_25.out))) (below_size (hb_)))
                       have n3_ := Aside0.mk (Kd.C_below (by repeat (first | (with_reducible exact HR384.out) | (with_reducible refine Kd.C_alloc ?_ _) | (with_reducible refine Kd.C_drewN ?_ _) | (with_reducible refine Kd.C_drew ?_) | exact HR384.out)) hb)
                       have n4_ := Aside0.mk (Kd.C_below (by repeat (first | (with_reducible exact HR391.out) | (with_reducible refine Kd.C_alloc ?_ _) | (with_reducible refine Kd.C_drewN ?_ _) | (with_reducible refine Kd.C_drew ?_) | exact HR391.out)) hb)
                       have n5_ := Aside0.mk (below_step (hb_) hb)
                       clear HO_24
                       clear HO_25
                       clear HR384
                       clear HR391
                       clear HB
                       have HO_24 := n0_
                       have HO_25 := n1_
                       have HO380 := n2_
                       have HR384 := n3_
                       have HR391 := n4_
                       have HB := n5_
                       clear n0_ n1_ n2_ n3_ n4_ n5_
                       clear hb ho123
                       refine hK.out _ _ trivial (fun hHeld => ?_)
                       clear hK K
                       refine norm_ (a' := ?_) ?_ ?_
                       rotate_left
                       · show Act.put _ (some 275) _ = _
                         simp only [Act.put, sA, sB, sC, i64_w, i32_w]
                         rfl
                       refine one_ (i := 4) (N := some 279) #[true, true, true, true, true, true, true, true, false, false] rfl rfl (one_of HT_.out (by kernel_rfl)) (by decide) (fun K hK => ?_)
                       refine Kd.R_append_rows_step (Kd.int .i64) (w0 := w) w.heap.size (by rfl) (.tmp 275) (.tmp 278) 33 3 (.int .i64 0) 8 rfl Try.underlying33 info3 rfl (by decide) (by omega) v379 y378 y381 _ _ _ (fun k_ => some k_ ≠ (.slice Ao77 t354.length co77 : Value).ownBlock ∧ some k_ ≠ (.slice Ao91 t357.length co91 : Value).ownBlock) (fun _ => False) rfl rfl ?aO ?aR (fun _ _ h => h) (fun _ h => h.elim) ?aF ?aB ?aS ?aL ?_
                       (case aR => repeat (first | exact (by repeat (first | (with_reducible exact HR384.out) | (with_reducible refine Kd.C_alloc ?_ _) | (with_reducible refine Kd.C_drewN ?_ _) | (with_reducible refine Kd.C_drew ?_) | exact HR384.out)) | (with_reducible refine Kd.C_alloc ?_ _) | (with_reducible refine Kd.C_drewN ?_ _) | (with_reducible refine Kd.C_drew ?_)))
                       (case aB => exact (hb_))
                       (case aF => exact (fun k_ hk => ⟨Kd.fresh' (Kd.R_lt (rk_ HO_24.out)) k_ hk, Kd.fresh' (Kd.R_lt (rk_ HO_25.out)) k_ hk⟩))
                       (case aO => exact (by (with_reducible repeat (first | apply Kd.R_alloc | apply Kd.R_drewN | apply Kd.R_drew)); exact Kd.R_mono HO380.out (fun _ hk => ⟨hk.1.2, hk.2⟩)))
                       (case aS => exact (below_size (hb_)))
                       (case aL => have := LMc111.out; omega)
                       intro v386 w124 ho hb hg hat
                       rw [← Ny385.out] at ho
                       have n0_ := Aside0.mk (Kd.R_after (ok := (fun k_ => some k_ ≠ (.slice Ao91 t357.length co91 : Value).ownBlock)) (rk_ HO_24.out) hg hat)
                       have n1_ := Aside0.mk (Kd.R_after (ok := (fun k_ => some k_ ≠ (.slice Ao77 t354.length co77 : Value).ownBlock)) (rk_ HO_25.out) hg hat)
                       have n2_ := Aside0.mk (hb)
                       have n3_ := Aside0.mk ((show Kd.C (Kd.int .i64) w124 A120 y381.length y381 from by rw [Ny381.out, KA120.out]; exact Kd.C_drop (m := (x36_5 : Int).toNat) (c := co77) ((Kd.R_reads' (Kd.R_after (ok := (fun k_ => some k_ ≠ (.slice Ao91 t357.length co91 : Value).ownBlock)) (rk_ HO_24.out) hg hat)).2.2) KL120.out ((Kd.R_reads' (Kd.R_after (ok := (fun k_ => some k_ ≠ (.slice Ao91 t357.length co91 : Value).ownBlock)) (rk_ HO_24.out) hg hat)).2.1)))
                       have n4_ := Aside0.mk ((show Kd.C (Kd.int .i64) w124 Ao77 y388.length y388 from by rw [Ny388.out]; exact Kd.C_take (m := (x36_5 : Int).toNat) ((Kd.R_reads' (Kd.R_after (ok := (fun k_ => some k_ ≠ (.slice Ao91 t357.length co91 : Value).ownBlock)) (rk_ HO_24.out) hg hat)).2.2) KL121.out))
                       have n5_ := Aside0.mk (ho)
                       clear HO_24
                       clear HO_25
                       clear HB
                       clear HR384
                       clear HR391
                       clear HO380
                       have HO_24 := n0_
                       have HO_25 := n1_
                       have HB := n2_
                       have HR384 := n3_
                       have HR391 := n4_
                       have HO387 := n5_
                       clear n0_ n1_ n2_ n3_ n4_ n5_
                       clear ho hb hg hat
                       refine hK.out _ _ trivial (fun hHeld => ?_)
                       clear hK K
                       refine norm_ (a' := ?_) ?_ ?_
                       rotate_left
                       · show Act.put _ (some 279) _ = _
                         simp only [Act.put, sA, sB, sC, i64_w, i32_w]
                         rfl
                       refine one_ (i := 8) (N := some 283) #[true, true, true, true, true, true, true, true, true, false] rfl rfl (one_of HT_.out (by kernel_rfl)) (by decide) (fun K hK => ?_)
                       refine Kd.R_append_rows_step (Kd.int .i64) (w0 := w) w.heap.size (by rfl) (.tmp 279) (.tmp 282) 33 3 (.int .i64 0) 8 rfl Try.underlying33 info3 rfl (by decide) (by omega) v386 y385 y388 _ _ _ (fun k_ => some k_ ≠ (.slice Ao77 t354.length co77 : Value).ownBlock ∧ some k_ ≠ (.slice Ao91 t357.length co91 : Value).ownBlock) (fun _ => False) rfl rfl ?aO ?aR (fun _ _ h => h) (fun _ h => h.elim) ?aF ?aB ?aS ?aL ?_
                       (case aR => repeat (first | exact (by repeat (first | (with_reducible exact HR391.out) | (with_reducible refine Kd.C_alloc ?_ _) | (with_reducible refine Kd.C_drewN ?_ _) | (with_reducible refine Kd.C_drew ?_) | exact HR391.out)) | (with_reducible refine Kd.C_alloc ?_ _) | (with_reducible refine Kd.C_drewN ?_ _) | (with_reducible refine Kd.C_drew ?_)))
                       (case aB => exact (hb_))
                       (case aF => exact (fun k_ hk => ⟨Kd.fresh' (Kd.R_lt (rk_ HO_24.out)) k_ hk, Kd.fresh' (Kd.R_lt (rk_ HO_25.out)) k_ hk⟩))
                       (case aO => exact (rk_ HO387.out))
                       (case aS => exact (below_size (hb_)))
                       (case aL => have := LMc114.out; omega)
                       intro v393 w125 ho hb hg hat
                       rw [← Ny392.out] at ho
                       have n0_ := Aside0.mk (Kd.R_after (ok := (fun k_ => some k_ ≠ (.slice Ao91 t357.length co91 : Value).ownBlock)) (rk_ HO_24.out) hg hat)
                       have n1_ := Aside0.mk (Kd.R_after (ok := (fun k_ => some k_ ≠ (.slice Ao77 t354.length co77 : Value).ownBlock)) (rk_ HO_25.out) hg hat)
                       have n2_ := Aside0.mk (hb)
                       have n3_ := Aside0.mk ((show Kd.C (Kd.int .i64) w125 A120 y381.length y381 from by rw [Ny381.out, KA120.out]; exact Kd.C_drop (m := (x36_5 : Int).toNat) (c := co77) ((Kd.R_reads' (Kd.R_after (ok := (fun k_ => some k_ ≠ (.slice Ao91 t357.length co91 : Value).ownBlock)) (rk_ HO_24.out) hg hat)).2.2) KL120.out ((Kd.R_reads' (Kd.R_after (ok := (fun k_ => some k_ ≠ (.slice Ao91 t357.length co91 : Value).ownBlock)) (rk_ HO_24.out) hg hat)).2.1)))
                       have n4_ := Aside0.mk ((show Kd.C (Kd.int .i64) w125 Ao77 y388.length y388 from by rw [Ny388.out]; exact Kd.C_take (m := (x36_5 : Int).toNat) ((Kd.R_reads' (Kd.R_after (ok := (fun k_ => some k_ ≠ (.slice Ao91 t357.length co91 : Value).ownBlock)) (rk_ HO_24.out) hg hat)).2.2) KL121.out))
                       have n5_ := Aside0.mk (ho)
                       clear HO_24
                       clear HO_25
                       clear HB
                       clear HR384
                       clear HR391
                       clear HO387
                       have HO_24 := n0_
                       have HO_25 := n1_
                       have HB := n2_
                       have HR384 := n3_
                       have HR391 := n4_
                       have HO394 := n5_
                       clear n0_ n1_ n2_ n3_ n4_ n5_
                       clear ho hb hg hat
                       refine hK.out _ _ trivial (fun hHeld => ?_)
                       clear hK K
                       refine norm_ (a' := ?_) ?_ ?_
                       rotate_left
                       · show Act.put _ (some 283) _ = _
                         simp only [Act.put, sA, sB, sC, i64_w, i32_w]
                         rfl
                       refine pure_ (i := 9) (N := some 37) (v := ?_) (a' := ?_) #[true, true, true, true, true, true, true, true, true, true] rfl rfl (any_of HT_.out (by kernel_rfl)) (fun _ _ _ h => h) (Or.inl ⟨by rfl, ?_⟩) ?_ ?_
                       rotate_left
                       · intro w'
                         go_simp
                         with_reducible rfl
                       rotate_left
                       · simp only [Act.put, sA, sB, sC, i64_w, i32_w]
                         rfl
                       refine done_ (done_of HT_.out (by kernel_rfl)) ?_
                       obtain ⟨Ao126, co126, eo126⟩ := Kd.R_slice HO394.out
                       subst eo126
                       try go_wp2_with (first | ((with_reducible refine gate_callee (f := 17) rfl ?_); refine goesL_ (some 286) rfl rfl Try.func17 (by kernel_rfl) rfl #[.slice Ao126 y392.length co126] rfl ga_ ?_; (with_reducible refine (impl_LeastNumbers.calls k5 _ _ y392 t395 true _ ?side1 ?side2 A115.out).mono ?_); (case side1 => repeat (first | exact (Kd.R_reads' HO394.out).2.2 | (with_reducible refine Kd.C_alloc ?_ _) | (with_reducible refine Kd.C_drewN ?_ _) | (with_reducible refine Kd.C_drew ?_))); (case side2 => exact (Kd.R_reads' HO394.out).2.1); rintro e w127 ⟨v397, rfl, ho0, hb⟩; refine ⟨_, rfl, ?_⟩; have n0_ := Aside0.mk (Kd.R_elder' (rk_ HO_24.out) (Kd.R_base ho0) hb); have n1_ := Aside0.mk (Kd.R_elder' (rk_ HO_25.out) (Kd.R_base ho0) hb); have n2_ := Aside0.mk (Kd.R_elder' (rk_ HO394.out) (Kd.R_base ho0) hb); have n3_ := Aside0.mk (Kd.R_lower (Kd.R_new' (Kd.R_new' (Kd.R_new' ho0 (Kd.R_lt (rk_ HO_24.out))) (Kd.R_lt (rk_ HO_25.out))) (Kd.R_lt (rk_ HO394.out))) (below_size (hb_))); have n4_ := Aside0.mk (Kd.C_below (by repeat (first | (with_reducible exact HR384.out) | (with_reducible refine Kd.C_alloc ?_ _) | (with_reducible refine Kd.C_drewN ?_ _) | (with_reducible refine Kd.C_drew ?_) | exact HR384.out)) hb); have n5_ := Aside0.mk (Kd.C_below (by repeat (first | (with_reducible exact HR391.out) | (with_reducible refine Kd.C_alloc ?_ _) | (with_reducible refine Kd.C_drewN ?_ _) | (with_reducible refine Kd.C_drew ?_) | exact HR391.out)) hb); have n6_ := Aside0.mk (below_step (hb_) hb); clear HO_24; clear HO_25; clear HO394; clear HR384; clear HR391; clear HB; have HO_24 := n0_; have HO_25 := n1_; have HO394 := n2_; have HO398 := n3_; have HR384 := n4_; have HR391 := n5_; have HB := n6_; clear n0_ n1_ n2_ n3_ n4_ n5_ n6_; (try clear hb); (try clear hb2); (try clear hk); (try clear hi); (try clear ho0); obtain ⟨Ao128, co128, eo128⟩ := Kd.R_slice HO398.out; subst eo128) | (go_at_call 18; (with_reducible refine (laws_eSame.calls k5 _ _ t395 _ _ t357 true _ ?side1 ?side2 ?side3 ?side4 A117.out).mono ?_); (case side1 => repeat (first | exact (Kd.R_reads' HO398.out).2.2 | (with_reducible refine Kd.C_alloc ?_ _) | (with_reducible refine Kd.C_drewN ?_ _) | (with_reducible refine Kd.C_drew ?_))); (case side2 => exact (Kd.R_reads' HO398.out).2.1); (case side3 => repeat (first | exact (Kd.R_reads' HO_25.out).2.2 | (with_reducible refine Kd.C_alloc ?_ _) | (with_reducible refine Kd.C_drewN ?_ _) | (with_reducible refine Kd.C_drew ?_))); (case side4 => exact (Kd.R_reads' HO_25.out).2.1); rintro e w' ⟨rfl, ⟨nd, rfl⟩⟩))
                       go_roundg k5
                       case measure => have := HK5.out; omega
                       case rel => exact ⟨(wrap64 (x36_5 + 1)), (by first | rfl | (simp; done) | (simp [*]; done)), H', ⟨by have := HK5.out; omega⟩, ⟨by (with_reducible repeat (first | apply Kd.R_alloc | apply Kd.R_drewN | apply Kd.R_drew)); exact Kd.R_mono HO_24.out (fun _ hk => hk.1.1)⟩, ⟨by (with_reducible repeat (first | apply Kd.R_alloc | apply Kd.R_drewN | apply Kd.R_drew)); exact Kd.R_mono HO_25.out (fun _ hk => hk.1.1)⟩, ⟨hb_⟩⟩
                     · replace c118 := Bool.eq_false_iff.mpr c118
                       subst c118
                       have H1 : (some false) = some r := by rw [if_neg (show ¬ (false = true) by decide)] at H; exact H
                       clear H
                       have H := H1
                       clear H1
                       exact absurd (Option.some.inj H) (by rw [hr_]; decide)
                   · replace c116 := Bool.eq_false_iff.mpr c116
                     subst c116
                     have H1 : (some false) = some r := by rw [if_neg (show ¬ (false = true) by decide)] at H; exact H
                     clear H
                     have H := H1
                     clear H1
                     exact absurd (Option.some.inj H) (by rw [hr_]; decide)
                 · rw [if_neg c114] at H
                   exact absurd H (by simp)
               · rw [if_neg c111] at H
                 exact absurd H (by simp)
             · rw [if_neg c110] at H
               exact absurd H (by simp)
           · rw [if_neg c109] at H
             exact absurd H (by simp)
         · rw [if_neg c108] at H
           have c108b0 : decide (x36_5 < (t354.length : Int)) = false := decide_eq_false c108
           clear c108
           go_upto_region 50 with (fail)
           exact sixteen_end H hr_ HO_24 HO_25 ⟨hb_⟩ rfl rfl rfl (by assumption) (by assumption)
end Go.Proofs.Ytogafcjfaicpgaa.MC
