/- The end of the law FnShapesCounted, walked: it answers true where its calls answer as LoopF and MidF tell. No condition beyond those typed. -/
import Derived.Test.YtafnbgclkkjdcaaG5
namespace Go.Proofs.Ytafnbgclkkjdcaa.MA
open Go.RowKit Go.Proofs.YtafnbgclkkjdcaaW.PrintWords Go.Proofs.YtafnbgclkkjdcaaW.PrintLast Go.Proofs.YtafnbgclkkjdcaaW.PrintMore Go.Proofs.YtafnbgclkkjdcaaV
attribute [local go_sem] max2_int min2_int max_two min_two max_three min_three max_four min_four   -- for this text's walks alone
set_option linter.unusedVariables false
set_option linter.unusedSimpArgs false

def fstC : Code → Code | .seq a _ => a | c => c
def sndC : Code → Code | .seq _ b => b | c => c
def thenC : Code → Code | .cond _ a _ => a | c => c
def bodyC (f : Func) : Code := f.body.getD .skip
def ja.T48 : Bool × List (List Nat × List Nat) := (true, [([], []), ([0], [0]), ([1], [1]), ([2], [2]), ([3], [3]), ([4, 3], [3, 4]), ([3], [3]), ([5, 6, 3], [3, 5, 6]), ([3, 7], [3, 7]), ([8, 3], [8]), ([9], [9]), ([10, 9], [9, 10]), ([11, 9], [9, 11]), ([9, 12], [9, 12]), ([13, 9], [13]), ([14], [14]), ([15, 14], [14, 15]), ([14], [14]), ([16, 17, 14], [14, 16, 17]), ([14, 18], [14, 18]), ([19, 14], [19]), ([20], [20]), ([21, 20], [20, 21]), ([22, 20, 20], [20, 22]), ([23], [23]), ([23], [23]), ([25, 23], [23, 25]), ([23], [23]), ([24, 26, 27, 23], [23, 24, 26, 27]), ([23], [23]), ([29, 23], [23, 29]), ([28, 30, 23, 23], [23, 28, 30]), ([31, 23], [23, 31]), ([23, 32, 20], [20, 23, 32]), ([20, 33], [20, 33])])
def ja.B48 : List Nat := [0, 1, 3, 7, 15, 31, 15, 127, 255, 511, 1023, 2047, 4095, 8191, 16383, 32767, 65535, 32767, 262143, 524287, 1048575, 2097151, 4194303, 8388607, 16777215, 16777215, 50331647, 16777215, 268435455, 16777215, 553648127, 2147483647, 4294967295, 8589934591, 17179869183]
theorem ja.tab48 : rtab .any (opsOf Try.f3 48) = ja.T48 := by kernel_rfl
theorem ja.bits48 : xu ja.T48.2 ja.B48 = true := by kernel_rfl
/-- What the law asks of each peg of the first list, and of the last list. -/
structure LoopF (k : Nat) (t593 t594 : Int) (t595 t607 : List S36) (t610 t611 : Bool) : Prop where
  len : t595.length ≤ 100
  inb : ∀ x : Int, 0 ≤ x → x < (t595.length : Int) → ¬ (qb t595 x).f0 < 0 ∧ ¬ t593 ≤ (qb t595 x).f0 ∧ ¬ (qb t595 x).f1 < 0 ∧ ¬ t594 ≤ (qb t595 x).f1
  ord : ∀ x : Int, 0 < x → x < (t595.length : Int) → zW.f k ((t595.take x.toNat).drop (x - 1).toNat) [(⟨(qb t595 x).f0, (qb t595 x).f1⟩ : S36)] = some true
  more : t611 = true → t610 = true → 2 < (t607.length : Int)
/-- What the law asks of the first list. -/
structure MidF (k : Nat) (t593 t594 : Int) (t595 : List S36) (t607 : List S36) (t610 t611 : Bool) : Prop where
  A102 : jy.f k t595 = some (false, true)
  A103 : jc.f k t594 t593 = some ((t595.length : Int), true)
  b1 : ¬ wrap64 (2 * t593) < (t595.length : Int)
  b2 : ¬ wrap64 (2 * t594) < (t595.length : Int)
  b3 : ¬ (t595.length : Int) < 1
  loop : LoopF k t593 t594 t595 t607 t610 t611
set_option maxHeartbeats 32000000 in
set_option maxRecDepth 100000 in
theorem shapes_loop {k : Nat} {t593 t594 : Int} {t595 t607 : List S36} {t610 t611 : Bool} (F : LoopF k t593 t594 t595 t607 t610 t611)
  {Ao68 Ao105 : Option Addr} {co68 co105 : Nat} {w wc : World} (HO_35 : qa (Kd.R k36 36 wc w.heap.size (fun k_ => some k_ ≠ ((.slice Ao68 t607.length co68) : Value).ownBlock) (.slice Ao105 t595.length co105) t595)) (HO_43 : qa (Kd.R k36 36 wc w.heap.size (fun k_ => some k_ ≠ ((.slice Ao105 t595.length co105) : Value).ownBlock) (.slice Ao68 t607.length co68) t607)) (HB : qa (Below w.heap.size w wc)) {u0 u1 u2 u3 u4 u5 u6 u7 u8 u9 u10 u11 u12 u13 u14 u15 u16 u17 u18 u19 u20 u21 u22 u23 u24 u25 u26 u27 u28 u29 u30 u31 u32 u36 u37 u38 u39 u40 u41 u42 u46 u47 u48 u49 u50 u51 u52 u53 u54 u55 u56 u57 u58 u59 u60 u61 u62 u63 u64 u65 u66 u67 u68 u69 u70 u71 u72 u73 u74 u75 u76 u77 u78 u79 u80 u81 u82 u83 u84 u85 u86 u87 u88 u89 u90 u91 u92 u93 u94 u95 u96 u97 u98 u99 u100 u101 u102 u103 u104 u105 u106 u107 u108 u109 u110 u111 u112 u113 u114 u115 u116 u117 u118 u119 u120 u121 u122 u123 u124 u125 u126 u127 u128 u129 u130 u131 u132 u133 u134 u135 u136 u137 u138 u139 u140 u141 u142 u143 u144 u145 u146 u147 u148 u149 u150 u151 u152 u153 u154 u155 u156 u157 u158 u159 u160 u161 u162 u163 u164 u165 u166 u167 u168 u169 u170 u171 u172 u173 u174 u175 u176 u177 u178 u179 u180 u181 u182 u183 u184 u185 u186 u187 u188 u189 u190 u191 u192 u193 u194 u195 u196 u197 u198 u199 u200 u201 u202 u203 u204 u205 u206 u207 u208 u209 u210 u211 u212 u213 u214 u215 u216 u217 u218 u219 u220 u221 u222 u223 u224 u225 u226 u227 u228 u229 u230 u231 u232 u233 u234 u235 u236 u237 u238 u239 u240 u241 u242 u243 u244 u245 u246 u247 u248 u249 u250 u251 u252 u253 u254 u255 u256 u257 u258 u259 u260 u261 u262 u263 u264 u265 u266 u267 u268 u269 u270 u271 u272 u273 u274 u275 u276 u277 u278 u279 u280 u281 u282 u283 u284 u285 u286 u287 u288 u289 u290 u291 u292 u293 u294 u295 u296 u297 u298 u299 u300 u301 u302 u303 u304 u305 u306 u307 u308 u309 u310 u311 u312 u313 u314 u315 u316 u317 u318 u319 u320 u321 u322 u323 u324 u325 u326 u327 u328 u329 u330 u331 u332 u333 u334 u335 u336 u337 u338 u339 u340 u341 u342 u343 u344 u345 u346 u347 u348 u349 u350 u351 u352 u353 u354 u355 u356 u357 u358 u359 u360 u361 u362 u363 u364 u365 u366 u367 u368 u369 u370 u371 u372 u373 u374 u375 u376 u377 u378 u379 u380 u381 u382 u383 u384 u385 u386 u387 u388 u389 u390 u391 u392 u393 u394 u395 u396 u397 u398 u399 u400 u401 u402 u403 u404 u405 u406 u407 u408 u409 u410 u411 u412 u413 u414 u415 u416 u417 u418 u419 u420 u421 u422 u423 u424 u425 u426 : Value} {K K1 : Act → World → Prop} {cF cB cR : Code} (hF : fstC (sndC (sndC (sndC (sndC (sndC (sndC (thenC (sndC (fstC (sndC (sndC (sndC (sndC (sndC (sndC (sndC (sndC (sndC (sndC (sndC (sndC (sndC (sndC (sndC (sndC (sndC (sndC (sndC (sndC (sndC (sndC (sndC (sndC (bodyC Try.f3)))))))))))))))))))))))))))))))))) = cF) (hC : sndC (sndC (sndC (sndC (sndC (sndC (sndC (thenC (sndC (fstC (sndC (sndC (sndC (sndC (sndC (sndC (sndC (sndC (sndC (sndC (sndC (sndC (sndC (sndC (sndC (sndC (sndC (sndC (sndC (sndC (sndC (sndC (sndC (sndC (bodyC Try.f3)))))))))))))))))))))))))))))))))) = cB) (hR : sndC (sndC (sndC (sndC (sndC (sndC (sndC (sndC (sndC (sndC (sndC (sndC (sndC (sndC (sndC (sndC (sndC (sndC (sndC (sndC (sndC (sndC (sndC (sndC (sndC (bodyC Try.f3))))))))))))))))))))))))) = cR)
  (hK1 : ∀ (a' : Act) (w' : World), Code.wp Try.prog cB (Exit.then K (bodyPost Try.prog Try.f3 fun e w' => e = .returned (.bool true) ∧ Below w.heap.size w w')) a' w' → K1 a' w') (hK : ∀ (a' : Act) (w' : World), Code.wp Try.prog cR (bodyPost Try.prog Try.f3 fun e w' => e = .returned (.bool true) ∧ Below w.heap.size w w') a' w' → K a' w') :
  Code.wp Try.prog cF (Exit.then K1 (Exit.then K (bodyPost Try.prog Try.f3 fun e w' => e = .returned (.bool true) ∧ Below w.heap.size w w'))) { tmps := #[u0, u1, u2, u3, u4, u5, u6, u7, u8, u9, u10, u11, u12, u13, u14, u15, u16, u17, u18, u19, u20, u21, u22, u23, u24, u25, u26, u27, u28, u29, u30, u31, u32, .int .i64 t593, .int .i64 t594, .slice Ao105 t595.length co105, u36, u37, u38, u39, u40, u41, u42, .slice Ao68 t607.length co68, .bool t610, .bool t611, u46, u47, u48, u49, u50, u51, u52, u53, u54, u55, u56, u57, u58, u59, u60, u61, u62, u63, u64, u65, u66, u67, u68, u69, u70, u71, u72, u73, u74, u75, u76, u77, u78, u79, u80, u81, u82, u83, u84, u85, u86, u87, u88, u89, u90, u91, u92, u93, u94, u95, u96, u97, u98, u99, u100, u101, u102, u103, u104, u105, u106, u107, u108, u109, u110, u111, u112, u113, u114, u115, u116, u117, u118, u119, u120, u121, u122, u123, u124, u125, u126, u127, u128, u129, u130, u131, u132, u133, u134, u135, u136, u137, u138, u139, u140, u141, u142, u143, u144, u145, u146, u147, u148, u149, u150, u151, u152, u153, u154, u155, u156, u157, u158, u159, u160, u161, u162, u163, u164, u165, u166, u167, u168, u169, u170, u171, u172, u173, u174, u175, u176, u177, u178, u179, u180, u181, u182, u183, u184, u185, u186, u187, u188, u189, u190, u191, u192, u193, u194, u195, u196, u197, u198, u199, u200, u201, u202, u203, u204, u205, u206, u207, u208, u209, u210, u211, u212, u213, u214, u215, u216, u217, u218, u219, u220, u221, u222, u223, u224, u225, u226, u227, u228, u229, u230, u231, u232, u233, u234, u235, u236, u237, u238, u239, u240, u241, u242, u243, u244, u245, u246, u247, u248, u249, u250, u251, u252, u253, u254, u255, u256, u257, u258, u259, u260, u261, u262, u263, u264, u265, u266, u267, u268, u269, u270, u271, u272, u273, u274, u275, u276, u277, u278, u279, u280, u281, u282, u283, u284, u285, u286, u287, u288, u289, u290, u291, u292, u293, u294, u295, u296, u297, u298, u299, u300, u301, u302, u303, u304, u305, u306, u307, u308, u309, u310, u311, u312, u313, u314, u315, u316, u317, u318, u319, u320, u321, u322, u323, u324, u325, u326, u327, u328, u329, u330, u331, u332, u333, u334, u335, u336, u337, u338, u339, u340, u341, u342, u343, u344, u345, u346, u347, u348, u349, u350, u351, u352, u353, u354, u355, u356, u357, u358, u359, u360, u361, u362, u363, u364, u365, u366, u367, u368, u369, u370, u371, u372, u373, u374, u375, u376, u377, u378, u379, u380, u381, u382, u383, u384, u385, u386, u387, u388, u389, u390, u391, u392, u393, u394, u395, u396, u397, u398, u399, u400, u401, u402, u403, u404, u405, u406, u407, u408, u409, u410, u411, u412, u413, u414, u415, u416, u417, u418, u419, u420, u421, u422, u423, u424, u425, u426], defers := [] } wc := by
 have hu36 := Try.underlying36; have hmore := F.more; have F := qa.mk F; have HO_377 := HO_35; dsimp only [bodyC, thenC, sndC, fstC, Try.f3, Option.getD] at hF hC hR; subst hF; subst hC; subst hR; go_wp2
 go_loopg [379] t595.length (fun kq v379 w' => ∃ (x379_9 : Int), v379 = .int .i64 x379_9 ∧ qa (0 ≤ x379_9 ∧ x379_9 + (kq : Int) = (t595.length : Int)) ∧ qa (Kd.R k36 36 w' w.heap.size (fun k_ => some k_ ≠ ((.slice Ao68 t607.length co68) : Value).ownBlock) (.slice Ao105 t595.length co105) t595) ∧ qa (Kd.R k36 36 w' w.heap.size (fun k_ => some k_ ≠ ((.slice Ao105 t595.length co105) : Value).ownBlock) (.slice Ao68 t607.length co68) t607) ∧ qa (Kd.R k36 36 w' w.heap.size (fun k_ => some k_ ≠ ((.slice Ao68 t607.length co68) : Value).ownBlock) (.slice Ao105 t595.length co105) t595) ∧ qa (Below w.heap.size w w'))
 case atStart => exact ⟨0, rfl, ⟨by omega, by omega⟩, ⟨rk_ HO_35.out⟩, ⟨rk_ HO_43.out⟩, ⟨rk_ HO_377.out⟩, ⟨hb_⟩⟩
 case round =>
  clear HO_35 HO_43 HO_377 HB; obtain ⟨x379_9, rfl, HX_, HO_35, HO_43, HO_377, HB⟩ := hrel
  cases gk with
  | zero =>
   have hx := HX_.out.2; (obtain rfl : x379_9 = (t595.length : Int) := by omega); clear hx HX_ HO_35 HO_43 HO_377; have c118b0 : decide ((t595.length : Int) < (t595.length : Int)) = false := decide_eq_false (Int.lt_irrefl _)
   cases t611 with
   | false =>
    go_wp2; go_ret; exact ⟨by first | rfl | (simp; done), hbg_⟩
   | true =>
    cases t610 with
    | false =>
     go_wp2; go_ret; exact ⟨by first | rfl | (simp; done), hbg_⟩
    | true =>
     have cE : decide (2 < (t607.length : Int)) = true := decide_eq_true (hmore rfl rfl); go_wp2; go_ret; exact ⟨by first | rfl | (simp [cE]; done) | (simp [*]; done), hbg_⟩
  | succ k9 =>
    obtain ⟨hx0, hxk⟩ := HX_.out; have c118b0 : decide (x379_9 < (t595.length : Int)) = true := decide_eq_true (by omega); have c119b0 : decide (0 ≤ x379_9) = true := decide_eq_true hx0; have c120b0 : decide (x379_9 < (t595.length : Int)) = true := c118b0; have hin := F.out.inb x379_9 hx0 (by omega); have c121b0 : decide (((qb t595 x379_9).f0) < 0) = false := decide_eq_false hin.1; have c122b0 : decide (t593 ≤ ((qb t595 x379_9).f0)) = false := decide_eq_false hin.2.1; have c123b0 : decide (((qb t595 x379_9).f1) < 0) = false := decide_eq_false hin.2.2.1; have c124b0 : decide (t594 ≤ ((qb t595 x379_9).f1)) = false := decide_eq_false hin.2.2.2; clear hin; by_cases c125 : 0 < x379_9
    ·have c125b0 : decide (0 < x379_9) = true := decide_eq_true c125
     have hord := F.out.ord x379_9 c125 (by omega); (have hw1 : wrap64 (x379_9 - 1) = x379_9 - 1 := by have := F.out.len; unfold wrap64; omega); rw [← hw1] at hord; obtain ⟨ji126, hji126⟩ : ∃ j_ : Int, (wrap64 (x379_9 - 1)) = j_ := ⟨_, rfl⟩; rw [hji126] at hord; have hji126w : (IntKind.i64.wrap (x379_9 - 1)) = ji126 := (qA _).trans hji126; (have c127 : 0 ≤ ji126 := by omega); have c127b0 := eq_true c127; have c127b1 : decide (0 ≤ (ji126)) = true := decide_eq_true c127; (have c128 : ji126 ≤ x379_9 := by omega); have c128b0 := eq_true c128; have c128b1 : decide ((ji126) ≤ x379_9) = true := decide_eq_true c128; (have c129 : x379_9 ≤ (t595.length : Int) := by omega); have c129b0 := eq_true c129; have c129b1 : decide (x379_9 ≤ (t595.length : Int)) = true := decide_eq_true c129; obtain ⟨y621, hy621⟩ : ∃ y_ : List (S36), y_ = ((t595.take (x379_9 : Int).toNat).drop ((ji126) : Int).toNat) := ⟨_, rfl⟩; obtain ⟨y625, hy625⟩ : ∃ y_ : List (S36), y_ = (([(⟨(qb t595 x379_9).f0, (qb t595 x379_9).f1⟩ : S36)] : List (S36))) := ⟨_, rfl⟩; rw [← hy621, ← hy625] at hord; have Ny621 := qa.mk hy621; have Ny625 := qa.mk hy625; have A130 := qa.mk hord; have hxk := qa.mk hxk; have hx0 := qa.mk hx0; clear hy621 hy625 hord c127 c128 c129 c125 hw1; have p619 : 0 ≤ (x379_9 : Int) := odt_; have q619 : x379_9 < (t595.length : Int) := odt_; obtain ⟨ad619, e619, hx619_0, hx619_1⟩ := zF (Kd.qV HO_377.out).2.2 x379_9 p619 q619; cases e619; replace p619 := eq_true p619; replace q619 := eq_true q619
     try go_wp2_with (first | ((with_reducible refine qN (N := 54) rfl ?_); (try (refine jG (by rfl) ?_; dsimp only)); refine qO ?hg (N := 54) ?hd (cs := #[.int .i64 0, .int .i64 0]) (t := 36) ?hr ?_; (case hd => rfl); (case hg => rfl); (case hr => first | (go_simp; done) | (go_simp; rfl)); intro gb620 hg w132 hbox hb; replace HO_35 := qa.mk (Kd.qS (Kd.zq (rk_ HO_35.out) gb620 (Nat.le_of_eq hg.symm)) hb); replace HO_43 := qa.mk (Kd.qS (Kd.zq (rk_ HO_43.out) gb620 (Nat.le_of_eq hg.symm)) hb); replace HO_377 := qa.mk (Kd.qS (Kd.zq (rk_ HO_377.out) gb620 (Nat.le_of_eq hg.symm)) hb); have BK620 := qa.mk (hbox); have GW620 := qa.mk ((by rw [hg]; exact (qn (hb_)) : w.heap.size ≤ gb620)); have GE620 := qa.mk ((by rw [hg]; exact (qn (hb_)) : w.heap.size ≤ gb620)); replace HB := qa.mk (qh (hb_) hb); clear hb hbox hg; have hcz133_0 : w132.cell? ⟨gb620, 0, none⟩ = some (.int .i64 0) := (qc BK620.out 0).trans rfl; have hcz133_1 : w132.cell? ⟨gb620, 1, none⟩ = some (.int .i64 0) := (qc BK620.out 1).trans rfl; have hfz133_0 := qg BK620.out 0; have hfz133_1 := qg BK620.out 1) | ((with_reducible refine ju (t := 36) (p := 54) rfl ?_); refine jl (t := 36) (p := 54) (v := ?vo_w134) (w1 := ((w132.setCell ⟨gb620, 0, none⟩ (.int .i64 ((qb t595 x379_9).f0))).setCell ⟨gb620, 1, none⟩ (.int .i64 ((qb t595 x379_9).f1)))) ?hg ?ho ?hn ?hr ?_; (case ho => rfl); (case hg => rfl); (case hn => rfl); (case hr => first | (go_simp; done) | (go_simp; rfl)); intro w134 hw; replace HO_35 : qa (Kd.R k36 36 w134 w.heap.size (fun k_ => some k_ ≠ (.slice Ao68 t607.length co68 : Value).ownBlock ∧ k_ ≠ gb620) (.slice (some ad619) t595.length co105) t595) := ⟨(by rw [hw]; exact (by (with_reducible repeat (first | apply Kd.qF | apply Kd.qE | apply Kd.qJ)); exact Kd.qz (Kd.ze (p := ⟨gb620, 1, none⟩) (Kd.ze (p := ⟨gb620, 0, none⟩) (Kd.qz HO_35.out (fun k_ hk => (⟨hk, hk.2⟩ : _ ∧ k_ ≠ gb620))) (fun _ hk => hk.2) (.int .i64 ((qb t595 x379_9).f0))) (fun _ hk => hk.2) (.int .i64 ((qb t595 x379_9).f1))) (fun _ hk => ⟨hk.1.1, hk.1.2⟩)))⟩; replace HO_43 : qa (Kd.R k36 36 w134 w.heap.size (fun k_ => some k_ ≠ (.slice (some ad619) t595.length co105 : Value).ownBlock ∧ k_ ≠ gb620) (.slice Ao68 t607.length co68) t607) := ⟨(by rw [hw]; exact (by (with_reducible repeat (first | apply Kd.qF | apply Kd.qE | apply Kd.qJ)); exact Kd.qz (Kd.ze (p := ⟨gb620, 1, none⟩) (Kd.ze (p := ⟨gb620, 0, none⟩) (Kd.qz HO_43.out (fun k_ hk => (⟨hk, hk.2⟩ : _ ∧ k_ ≠ gb620))) (fun _ hk => hk.2) (.int .i64 ((qb t595 x379_9).f0))) (fun _ hk => hk.2) (.int .i64 ((qb t595 x379_9).f1))) (fun _ hk => ⟨hk.1.1, hk.1.2⟩)))⟩; replace HO_377 : qa (Kd.R k36 36 w134 w.heap.size (fun k_ => some k_ ≠ (.slice Ao68 t607.length co68 : Value).ownBlock ∧ k_ ≠ gb620) (.slice (some ad619) t595.length co105) t595) := ⟨(by rw [hw]; exact (by (with_reducible repeat (first | apply Kd.qF | apply Kd.qE | apply Kd.qJ)); exact Kd.qz (Kd.ze (p := ⟨gb620, 1, none⟩) (Kd.ze (p := ⟨gb620, 0, none⟩) (Kd.qz HO_377.out (fun k_ hk => (⟨hk, hk.2⟩ : _ ∧ k_ ≠ gb620))) (fun _ hk => hk.2) (.int .i64 ((qb t595 x379_9).f0))) (fun _ hk => hk.2) (.int .i64 ((qb t595 x379_9).f1))) (fun _ hk => ⟨hk.1.1, hk.1.2⟩)))⟩; replace BK620 : qa (w134.heap[gb620]? = some (.cells #[.int .i64 ((qb t595 x379_9).f0), .int .i64 ((qb t595 x379_9).f1)] 36 (0, 0))) := ⟨(by rw [hw]; exact (by (with_reducible repeat (first | refine qu ?_ _ | refine qx ?_ | refine qt ?_ _)); refine zo (cs := #[.int .i64 ((qb t595 x379_9).f0), .int .i64 0]) ?_ 1 _ rfl; (with_reducible repeat (first | refine qu ?_ _ | refine qx ?_ | refine qt ?_ _)); refine zo (cs := #[.int .i64 0, .int .i64 0]) ?_ 0 _ rfl; (with_reducible repeat (first | refine qu ?_ _ | refine qx ?_ | refine qt ?_ _)); exact BK620.out))⟩; replace HB : qa (Below w.heap.size w w134) := ⟨(by rw [hw]; exact (hbg_))⟩; clear hw))
     replace HO_35 := qa.mk (Kd.qJ HO_35.out); replace HO_43 := qa.mk (Kd.qJ HO_43.out); replace HO_377 := qa.mk (Kd.qJ HO_377.out); replace BK620 := qa.mk (qx BK620.out); replace HB := qa.mk (qj HB.out); have q136 : (x379_9 : Int) ≤ ((t595.length : Int) : Int) := odt_; obtain ⟨i0136, hi0136, _, hsz136, _⟩ := info_parts js; have hroom136 : t595.length ≤ co105 := (Kd.qV HO_35.out).2.1; have hC136 : Kd.C k36 _ (some ad619) t595.length t595 := (Kd.qV HO_35.out).2.2; have ql136 : ((ji126) : Int) ≤ (x379_9 : Int) := odt_; have q0136 : (0 : Int) ≤ ((ji126) : Int) := odt_; have hcut136 := cut_mid (P := Try.prog) 28 36 .i64 .i64 Try.underlying28 hi0136 2 hsz136 (some ad619) t595.length co105 (ji126) x379_9 q0136 ql136 q136 hroom136; have hr136 := Kd.C_mid (lo := ((ji126) : Int).toNat) (hi := (x379_9 : Int).toNat) (c := co105) hC136 (by omega) (by omega) hroom136; obtain ⟨A136, hA136⟩ : ∃ Aq_, Aq_ = (if co105 = ((ji126) : Int).toNat then (some ad619) else ((some ad619) : Option Addr).map (·.add (((ji126) : Int).toNat * 2))) := ⟨_, rfl⟩; obtain ⟨c136, hc136⟩ : ∃ cq_, cq_ = co105 - ((ji126) : Int).toNat := ⟨_, rfl⟩; (have hy136 : y621.length = (x379_9 : Int).toNat - ((ji126) : Int).toNat := (by rw [Ny621.out, List.length_drop, List.length_take] <;> omega)); rw [show ((t595).take (x379_9 : Int).toNat).drop ((ji126) : Int).toNat = y621 from Ny621.out.symm] at hr136; replace hr136 : Kd.C k36 _ A136 y621.length y621 := (by rw [hA136]; exact hr136); rw [← hy136, ← hA136, ← hc136] at hcut136; have HR624 := qa.mk hr136; have HC624 := qa.mk (show y621.length ≤ c136 from by rw [hy136, hc136]; exact Nat.sub_le_sub_right (Nat.le_trans (by omega) hroom136) _); clear hr136 hC136 hroom136 hi0136 hsz136 hc136; have KY136 := qa.mk hy136; have KA136 := qa.mk hA136; clear hy136 hA136; have KL136 := qa.mk (show (x379_9 : Int).toNat ≤ t595.length from by omega); have KM136 := qa.mk (show ((ji126) : Int).toNat ≤ (x379_9 : Int).toNat from by omega); replace q136 := eq_true q136; (refine xr (n := 35) (S := fun w' => w'.cell? ⟨gb620, 0, none⟩ = some (.int .i64 ((qb t595 x379_9).f0)) ∧ w'.cell? ⟨gb620, 1, none⟩ = some (.int .i64 ((qb t595 x379_9).f1))) (ds := []) (fl 0 35) (by kernel_rfl) rfl rfl ⟨(qc BK620.out 0).trans rfl, (qc BK620.out 1).trans rfl⟩ (fun hHeld => ?_); refine jM ja.tab48 ja.bits48 (fun HT_ HW_ => ?_)); generalize w134.drew = w135 at HO_35 HO_43 HO_377 BK620 HB HR624 hHeld ⊢; refine qQ (i := 0) (N := some 384) (v := ?_) (a' := ?_) (fl 1 35) rfl rfl (qG HT_.out (by kernel_rfl)) (fun _ _ _ h => h) (Or.inl ⟨by rfl, ?_⟩) ?_ ?_; rotate_left
     ·intro w'
      go_simp; with_reducible rfl
     rotate_left
     ·simp only [Act.put, sA, sB, sC, qA, qB]
      rfl
     refine jg (i := 1) (N := some 385) (v := ?_) (a' := ?_) (fl 2 35) rfl rfl (zp HT_.out HW_.out (by kernel_rfl)) (fun _ _ _ h => h) (Or.inl ⟨by rfl, ?_⟩) hHeld ?_ ?_; rotate_left
     ·rintro w' ⟨s0, s1⟩
      go_simp; with_reducible rfl
     rotate_left
     ·simp only [Act.put, sA, sB, sC, qA, qB]
      rfl
     refine qQ (i := 2) (N := some 386) (v := ?_) (a' := ?_) (fl 3 35) rfl rfl (qG HT_.out (by kernel_rfl)) (fun _ _ _ h => h) (Or.inl ⟨by rfl, ?_⟩) ?_ ?_; rotate_left
     ·intro w'
      go_simp; with_reducible rfl
     rotate_left
     ·simp only [Act.put, sA, sB, sC, qA, qB]
      rfl
     refine qQ (i := 3) (N := some 387) (v := ?_) (a' := ?_) (fl 4 35) rfl rfl (qG HT_.out (by kernel_rfl)) (fun _ _ _ h => h) (Or.inl ⟨by rfl, ?_⟩) ?_ ?_; rotate_left
     ·intro w'
      go_simp; with_reducible rfl
     rotate_left
     ·simp only [Act.put, sA, sB, sC, qA, qB]
      rfl
     refine qQ (i := 4) (N := some 388) (v := ?_) (a' := ?_) (fl 5 35) rfl rfl (qG HT_.out (by kernel_rfl)) (fun _ _ _ h => h) (Or.inl ⟨by rfl, ?_⟩) ?_ ?_; rotate_left
     ·intro w'
      go_simp; with_reducible rfl
     rotate_left
     ·simp only [Act.put, sA, sB, sC, qA, qB]
      rfl
     refine qQ (i := 6) (N := some 390) (v := ?_) (a' := ?_) #[true, true, true, true, true, false, true, false, false, false, false, false, false, false, false, false, false, false, false, false, false, false, false, false, false, false, false, false, false, false, false, false, false, false, false] rfl rfl (qG HT_.out (by kernel_rfl)) (fun _ _ _ h => h) (Or.inl ⟨by rfl, ?_⟩) ?_ ?_; rotate_left
     ·intro w'
      go_simp; with_reducible rfl
     rotate_left
     ·simp only [Act.put, sA, sB, sC, qA, qB]
      rfl
     refine jg (i := 5) (N := some 389) (v := ?_) (a' := ?_) (fl 7 35) rfl rfl (zp HT_.out HW_.out (by kernel_rfl)) (fun _ _ _ h => h) (Or.inl ⟨by rfl, ?_⟩) hHeld ?_ ?_; rotate_left
     ·rintro w' ⟨s0, s1⟩
      go_simp; with_reducible rfl
     rotate_left
     ·simp only [Act.put, sA, sB, sC, qA, qB]
      rfl
     refine qQ (i := 7) (N := some 391) (v := ?_) (a' := ?_) (fl 8 35) rfl rfl (qG HT_.out (by kernel_rfl)) (fun _ _ _ h => h) (Or.inl ⟨by rfl, ?_⟩) ?_ ?_; rotate_left
     ·intro w'
      go_simp; with_reducible rfl
     rotate_left
     ·simp only [Act.put, sA, sB, sC, qA, qB]
      rfl
     refine qQ (i := 8) (N := some 392) (v := ?_) (a' := ?_) (fl 9 35) rfl rfl (qG HT_.out (by kernel_rfl)) (fun _ _ _ h => h) (Or.inl ⟨by rfl, ?_⟩) ?_ ?_; rotate_left
     ·intro w'
      go_simp; with_reducible rfl
     rotate_left
     ·simp only [Act.put, sA, sB, sC, qA, qB]
      rfl
     refine qQ (i := 9) (N := some 393) (v := ?_) (a' := ?_) (fl 10 35) rfl rfl (qG HT_.out (by kernel_rfl)) (fun _ _ _ h => h) (Or.inl ⟨by rfl, ?_⟩) ?_ ?_; rotate_left
     ·intro w'
      go_simp; with_reducible rfl
     rotate_left
     ·simp only [Act.put, sA, sB, sC, qA, qB]
      rfl
     refine qQ (i := 10) (N := some 394) (v := ?_) (a' := ?_) (fl 11 35) rfl rfl (qG HT_.out (by kernel_rfl)) (fun _ _ _ h => h) (Or.inl ⟨by rfl, ?_⟩) ?_ ?_; rotate_left
     ·intro w'
      go_simp; with_reducible rfl
     rotate_left
     ·simp only [Act.put, sA, sB, sC, qA, qB]
      rfl
     refine jg (i := 11) (N := some 395) (v := ?_) (a' := ?_) (fl 12 35) rfl rfl (zp HT_.out HW_.out (by kernel_rfl)) (fun _ _ _ h => h) (Or.inl ⟨by rfl, ?_⟩) hHeld ?_ ?_; rotate_left
     ·rintro w' ⟨s0, s1⟩
      go_simp; with_reducible rfl
     rotate_left
     ·simp only [Act.put, sA, sB, sC, qA, qB]
      rfl
     refine qQ (i := 12) (N := some 396) (v := ?_) (a' := ?_) (fl 13 35) rfl rfl (qG HT_.out (by kernel_rfl)) (fun _ _ _ h => h) (Or.inl ⟨by rfl, ?_⟩) ?_ ?_; rotate_left
     ·intro w'
      go_simp; with_reducible rfl
     rotate_left
     ·simp only [Act.put, sA, sB, sC, qA, qB]
      rfl
     refine qQ (i := 13) (N := some 397) (v := ?_) (a' := ?_) (fl 14 35) rfl rfl (qG HT_.out (by kernel_rfl)) (fun _ _ _ h => h) (Or.inl ⟨by rfl, ?_⟩) ?_ ?_; rotate_left
     ·intro w'
      go_simp; with_reducible rfl
     rotate_left
     ·simp only [Act.put, sA, sB, sC, qA, qB]
      rfl
     refine qQ (i := 14) (N := some 398) (v := ?_) (a' := ?_) (fl 15 35) rfl rfl (qG HT_.out (by kernel_rfl)) (fun _ _ _ h => h) (Or.inl ⟨by rfl, ?_⟩) ?_ ?_; rotate_left
     ·intro w'
      go_simp; with_reducible rfl
     rotate_left
     ·simp only [Act.put, sA, sB, sC, qA, qB]
      rfl
     refine qQ (i := 15) (N := some 399) (v := ?_) (a' := ?_) (fl 16 35) rfl rfl (qG HT_.out (by kernel_rfl)) (fun _ _ _ h => h) (Or.inl ⟨by rfl, ?_⟩) ?_ ?_; rotate_left
     ·intro w'
      go_simp; with_reducible rfl
     rotate_left
     ·simp only [Act.put, sA, sB, sC, qA, qB]
      rfl
     refine qQ (i := 17) (N := some 401) (v := ?_) (a' := ?_) #[true, true, true, true, true, true, true, true, true, true, true, true, true, true, true, true, false, true, false, false, false, false, false, false, false, false, false, false, false, false, false, false, false, false, false] rfl rfl (qG HT_.out (by kernel_rfl)) (fun _ _ _ h => h) (Or.inl ⟨by rfl, ?_⟩) ?_ ?_; rotate_left
     ·intro w'
      go_simp; with_reducible rfl
     rotate_left
     ·simp only [Act.put, sA, sB, sC, qA, qB]
      rfl
     refine jg (i := 16) (N := some 400) (v := ?_) (a' := ?_) (fl 18 35) rfl rfl (zp HT_.out HW_.out (by kernel_rfl)) (fun _ _ _ h => h) (Or.inl ⟨by rfl, ?_⟩) hHeld ?_ ?_; rotate_left
     ·rintro w' ⟨s0, s1⟩
      go_simp; with_reducible rfl
     rotate_left
     ·simp only [Act.put, sA, sB, sC, qA, qB]
      rfl
     refine qQ (i := 18) (N := some 402) (v := ?_) (a' := ?_) (fl 19 35) rfl rfl (qG HT_.out (by kernel_rfl)) (fun _ _ _ h => h) (Or.inl ⟨by rfl, ?_⟩) ?_ ?_; rotate_left
     ·intro w'
      go_simp; with_reducible rfl
     rotate_left
     ·simp only [Act.put, sA, sB, sC, qA, qB]
      rfl
     refine qQ (i := 19) (N := some 403) (v := ?_) (a' := ?_) (fl 20 35) rfl rfl (qG HT_.out (by kernel_rfl)) (fun _ _ _ h => h) (Or.inl ⟨by rfl, ?_⟩) ?_ ?_; rotate_left
     ·intro w'
      go_simp; with_reducible rfl
     rotate_left
     ·simp only [Act.put, sA, sB, sC, qA, qB]
      rfl
     refine qQ (i := 20) (N := some 404) (v := ?_) (a' := ?_) (fl 21 35) rfl rfl (qG HT_.out (by kernel_rfl)) (fun _ _ _ h => h) (Or.inl ⟨by rfl, ?_⟩) ?_ ?_; rotate_left
     ·intro w'
      go_simp; with_reducible rfl
     rotate_left
     ·simp only [Act.put, sA, sB, sC, qA, qB]
      rfl
     refine qQ (i := 21) (N := some 405) (v := ?_) (a' := ?_) (fl 22 35) rfl rfl (qG HT_.out (by kernel_rfl)) (fun _ _ _ h => h) (Or.inl ⟨by rfl, ?_⟩) ?_ ?_; rotate_left
     ·intro w'
      go_simp; with_reducible rfl
     rotate_left
     ·simp only [Act.put, sA, sB, sC, qA, qB]
      rfl
     refine qQ (i := 22) (N := some 406) (v := ?_) (a' := ?_) (fl 23 35) rfl rfl (qG HT_.out (by kernel_rfl)) (fun _ _ _ h => h) (Or.inl ⟨by rfl, ?_⟩) ?_ ?_; rotate_left
     ·intro w'
      go_simp; with_reducible rfl
     rotate_left
     ·simp only [Act.put, sA, sB, sC, qA, qB]
      rfl
     refine qQ (i := 23) (N := some 407) (v := ?_) (a' := ?_) (fl 24 35) rfl rfl (qG HT_.out (by kernel_rfl)) (fun _ _ _ h => h) (Or.inl ⟨by rfl, ?_⟩) ?_ ?_; rotate_left
     ·intro w'
      go_simp; with_reducible rfl
     rotate_left
     ·simp only [Act.put, sA, sB, sC, qA, qB]
      rfl
     refine qQ (i := 24) (N := some 408) (v := ?_) (a' := ?_) (fl 25 35) rfl rfl (qG HT_.out (by kernel_rfl)) (fun _ _ _ h => h) (Or.inl ⟨by rfl, ?_⟩) ?_ ?_; rotate_left
     ·intro w'
      go_simp; with_reducible rfl
     rotate_left
     ·simp only [Act.put, sA, sB, sC, qA, qB]
      rfl
     refine qQ (i := 25) (N := some 409) (v := ?_) (a' := ?_) (fl 26 35) rfl rfl (qG HT_.out (by kernel_rfl)) (fun _ _ _ h => h) (Or.inl ⟨by rfl, ?_⟩) ?_ ?_; rotate_left
     ·intro w'
      go_simp; with_reducible rfl
     rotate_left
     ·simp only [Act.put, sA, sB, sC, qA, qB]
      rfl
     refine qQ (i := 26) (N := some 410) (v := ?_) (a' := ?_) (fl 27 35) rfl rfl (qG HT_.out (by kernel_rfl)) (fun _ _ _ h => h) (Or.inl ⟨by rfl, ?_⟩) ?_ ?_; rotate_left
     ·intro w'
      go_simp; with_reducible rfl
     rotate_left
     ·simp only [Act.put, sA, sB, sC, qA, qB]
      rfl
     refine qQ (i := 27) (N := some 411) (v := ?_) (a' := ?_) (fl 28 35) rfl rfl (qG HT_.out (by kernel_rfl)) (fun _ _ _ h => h) (Or.inl ⟨by rfl, ?_⟩) ?_ ?_; rotate_left
     ·intro w'
      go_simp; with_reducible rfl
     rotate_left
     ·simp only [Act.put, sA, sB, sC, qA, qB]
      rfl
     refine qQ (i := 28) (N := some 412) (v := ?_) (a' := ?_) (fl 29 35) rfl rfl (qG HT_.out (by kernel_rfl)) (fun _ _ _ h => h) (Or.inl ⟨by rfl, ?_⟩) ?_ ?_; rotate_left
     ·intro w'
      go_simp; with_reducible rfl
     rotate_left
     ·simp only [Act.put, sA, sB, sC, qA, qB]
      rfl
     refine jg (i := 29) (N := some 413) (v := ?_) (a' := ?_) (fl 30 35) rfl rfl (zp HT_.out HW_.out (by kernel_rfl)) (fun _ _ _ h => h) (Or.inl ⟨by rfl, ?_⟩) hHeld ?_ ?_; rotate_left
     ·rintro w' ⟨s0, s1⟩
      go_simp; with_reducible rfl
     rotate_left
     ·simp only [Act.put, sA, sB, sC, qA, qB]
      rfl
     refine one_ (i := 30) (N := some 414) (fl 31 35) rfl rfl (jd HT_.out (by kernel_rfl)) (by decide) (fun K hK => ?_)
     refine Kd.jO k36 _ 36 ?hg (N := 414) ?hd (xs := ([(⟨(qb t595 x379_9).f0, (qb t595 x379_9).f1⟩ : S36)] : List (S36))) (inner := [.int .i64 ((qb t595 x379_9).f0), .int .i64 ((qb t595 x379_9).f1)]) (ok := fun _ => True) (okp := fun _ => True) ?hr ?hp (fun _ hk => hk) trivial (Below.refl _ _) (Nat.le_refl _) (by simp) ?_; (case hd => rfl); (case hg => rfl); (case hr => first | (go_simp; done) | (go_simp; rfl)); (case hp => exact (Reps.c2 (show Kd.M k36 _ _ _ (⟨(qb t595 x379_9).f0, (qb t595 x379_9).f1⟩ : S36) [.int .i64 ((qb t595 x379_9).f0), .int .i64 ((qb t595 x379_9).f1)] from (jz _ _ _ (⟨(qb t595 x379_9).f0, (qb t595 x379_9).f1⟩ : S36) )) (Reps.none _ _)))
     intro v626 w137 ho138 hb hg_ hnew_; clear hg_ hnew_; (first | rw [← Ny625.out] at ho138 | (simp only [Int.reduceToNat] at ho138; rw [← Ny625.out] at ho138)); have HO627 := qa.mk (Kd.zK (Kd.R_newB (Kd.jv (Kd.jv (Kd.jv ho138 (Kd.R_lt (rk_ HO_35.out))) (Kd.R_lt (rk_ HO_43.out))) (Kd.R_lt (rk_ HO_377.out))) (g := gb620) (o := .cells #[.int .i64 ((qb t595 x379_9).f0), .int .i64 ((qb t595 x379_9).f1)] 36 (0, 0)) (bk_ BK620.out)) (qn (hbg_))); replace HO_35 := qa.mk (Kd.zX (rk_ HO_35.out) (Kd.jj ho138) hb); replace HO_43 := qa.mk (Kd.zX (rk_ HO_43.out) (Kd.jj ho138) hb); replace HO_377 := qa.mk (Kd.zX (rk_ HO_377.out) (Kd.jj ho138) hb); replace BK620 := bb_ BK620 hb; replace HR624 := qa.mk (Kd.zV (by repeat (first | (with_reducible exact HR624.out) | (with_reducible refine Kd.qZ ?_ _) | (with_reducible refine Kd.qY ?_ _) | (with_reducible refine Kd.zi ?_) | exact HR624.out)) hb); replace HB := qa.mk (qh (hbg_) hb); clear hb ho138; obtain ⟨Ao139, co139, eo139⟩ := Kd.zO HO627.out; (first | subst eo139 | (injection eo139 with f1_ f2_ f3_; have f4_ := f1_.symm; have f5_ := f3_.symm; clear f1_ f2_ f3_; subst f4_; subst f5_)); refine hK.out _ _ ⟨(qc BK620.out 0).trans rfl, (qc BK620.out 1).trans rfl⟩ (fun hHeld => ?_); clear hK K; refine je (a' := ?_) ?_ ?_; rotate_left
     ·show Act.put _ (some 414) _ = _
      simp only [Act.put, sA, sB, sC, qA, qB]; rfl
     refine one_ (i := 31) (N := some 415) (fl 32 35) rfl rfl (jd HT_.out (by kernel_rfl)) (by decide) (fun K hK => ?_); refine xe Try.func25 (by kernel_rfl) rfl #[.slice A136 y621.length c136, .slice Ao139 y625.length co139] (by rfl) rfl rfl ga_ ?_; (with_reducible refine (zW.calls k _ _ y621 _ _ y625 true _ ?side1 ?side2 ?side3 ?side4 A130.out).mono ?_); (case side1 => repeat (first | exact (by repeat (first | (with_reducible exact HR624.out) | (with_reducible refine Kd.qZ ?_ _) | (with_reducible refine Kd.qY ?_ _) | (with_reducible refine Kd.zi ?_) | exact HR624.out)) | (with_reducible refine Kd.qZ ?_ _) | (with_reducible refine Kd.qY ?_ _) | (with_reducible refine Kd.zi ?_))); (case side2 => exact HC624.out); (case side3 => repeat (first | exact (Kd.qV HO627.out).2.2 | (with_reducible refine Kd.qZ ?_ _) | (with_reducible refine Kd.qY ?_ _) | (with_reducible refine Kd.zi ?_))); (case side4 => exact (Kd.qV HO627.out).2.1); rintro e w' ⟨rfl, ⟨nd, rfl⟩⟩; refine ⟨_, rfl, ?_⟩; refine hK.out _ _ ⟨(qc BK620.out 0).trans rfl, (qc BK620.out 1).trans rfl⟩ (fun hHeld => ?_); clear hK K; refine je (a' := ?_) ?_ ?_; rotate_left
     ·show Act.put _ (some 415) _ = _
      simp only [Act.put, sA, sB, sC, qA, qB]; rfl
     refine qQ (i := 32) (N := some 416) (v := ?_) (a' := ?_) (fl 33 35) rfl rfl (qG HT_.out (by kernel_rfl)) (fun _ _ _ h => h) (Or.inl ⟨by rfl, ?_⟩) ?_ ?_; rotate_left
     ·intro w'
      go_simp; with_reducible rfl
     rotate_left
     ·simp only [Act.put, sA, sB, sC, qA, qB]
      rfl
     refine qQ (i := 33) (N := some 417) (v := ?_) (a' := ?_) (fl 34 35) rfl rfl (qG HT_.out (by kernel_rfl)) (fun _ _ _ h => h) (Or.inl ⟨by rfl, ?_⟩) ?_ ?_; rotate_left
     ·intro w'
      go_simp; with_reducible rfl
     rotate_left
     ·simp only [Act.put, sA, sB, sC, qA, qB]
      rfl
     refine qQ (i := 34) (N := some 418) (v := ?_) (a' := ?_) (fl 35 35) rfl rfl (qG HT_.out (by kernel_rfl)) (fun _ _ _ h => h) (Or.inl ⟨by rfl, ?_⟩) ?_ ?_; rotate_left
     ·intro w'
      go_simp; with_reducible rfl
     rotate_left
     ·simp only [Act.put, sA, sB, sC, qA, qB]
      rfl
     refine done_ (xg HT_.out (by kernel_rfl)) ?_; try go_wp2
     go_roundg k9
     case measure => omega
     case rel => exact ⟨(wrap64 (x379_9 + 1)), rfl, ⟨by have := hx0.out; have := hxk.out; have := F.out.len; unfold wrap64; omega, by have := hx0.out; have := hxk.out; have := F.out.len; unfold wrap64; omega⟩, ⟨by (with_reducible repeat (first | apply Kd.qF | apply Kd.qE | apply Kd.qJ)); exact Kd.qz HO_35.out (fun _ hk => hk.1.1)⟩, ⟨by (with_reducible repeat (first | apply Kd.qF | apply Kd.qE | apply Kd.qJ)); exact Kd.qz HO_43.out (fun _ hk => hk.1.1)⟩, ⟨by (with_reducible repeat (first | apply Kd.qF | apply Kd.qE | apply Kd.qJ)); exact Kd.qz HO_377.out (fun _ hk => hk.1.1)⟩, ⟨hbg_⟩⟩
    ·have c125b0 : decide (0 < x379_9) = false := decide_eq_false c125
     have hxk := qa.mk hxk; have hx0 := qa.mk hx0; clear c125; have p619 : 0 ≤ (x379_9 : Int) := odt_; have q619 : x379_9 < (t595.length : Int) := odt_; obtain ⟨ad619, e619, hx619_0, hx619_1⟩ := zF (Kd.qV HO_377.out).2.2 x379_9 p619 q619; cases e619; replace p619 := eq_true p619; replace q619 := eq_true q619
     try go_wp2_with (first | ((with_reducible refine qN (N := 54) rfl ?_); (try (refine jG (by rfl) ?_; dsimp only)); refine qO ?hg (N := 54) ?hd (cs := #[.int .i64 0, .int .i64 0]) (t := 36) ?hr ?_; (case hd => rfl); (case hg => rfl); (case hr => first | (go_simp; done) | (go_simp; rfl)); intro gb620 hg w140 hbox hb; replace HO_35 := qa.mk (Kd.qS (Kd.zq (rk_ HO_35.out) gb620 (Nat.le_of_eq hg.symm)) hb); replace HO_43 := qa.mk (Kd.qS (Kd.zq (rk_ HO_43.out) gb620 (Nat.le_of_eq hg.symm)) hb); replace HO_377 := qa.mk (Kd.qS (Kd.zq (rk_ HO_377.out) gb620 (Nat.le_of_eq hg.symm)) hb); have BK620 := qa.mk (hbox); have GW620 := qa.mk ((by rw [hg]; exact (qn (hb_)) : w.heap.size ≤ gb620)); have GE620 := qa.mk ((by rw [hg]; exact (qn (hb_)) : w.heap.size ≤ gb620)); replace HB := qa.mk (qh (hb_) hb); clear hb hbox hg; have hcz141_0 : w140.cell? ⟨gb620, 0, none⟩ = some (.int .i64 0) := (qc BK620.out 0).trans rfl; have hcz141_1 : w140.cell? ⟨gb620, 1, none⟩ = some (.int .i64 0) := (qc BK620.out 1).trans rfl; have hfz141_0 := qg BK620.out 0; have hfz141_1 := qg BK620.out 1) | ((with_reducible refine ju (t := 36) (p := 54) rfl ?_); refine jl (t := 36) (p := 54) (v := ?vo_w142) (w1 := ((w140.setCell ⟨gb620, 0, none⟩ (.int .i64 ((qb t595 x379_9).f0))).setCell ⟨gb620, 1, none⟩ (.int .i64 ((qb t595 x379_9).f1)))) ?hg ?ho ?hn ?hr ?_; (case ho => rfl); (case hg => rfl); (case hn => rfl); (case hr => first | (go_simp; done) | (go_simp; rfl)); intro w142 hw; replace HO_35 : qa (Kd.R k36 36 w142 w.heap.size (fun k_ => some k_ ≠ (.slice Ao68 t607.length co68 : Value).ownBlock ∧ k_ ≠ gb620) (.slice (some ad619) t595.length co105) t595) := ⟨(by rw [hw]; exact (by (with_reducible repeat (first | apply Kd.qF | apply Kd.qE | apply Kd.qJ)); exact Kd.qz (Kd.ze (p := ⟨gb620, 1, none⟩) (Kd.ze (p := ⟨gb620, 0, none⟩) (Kd.qz HO_35.out (fun k_ hk => (⟨hk, hk.2⟩ : _ ∧ k_ ≠ gb620))) (fun _ hk => hk.2) (.int .i64 ((qb t595 x379_9).f0))) (fun _ hk => hk.2) (.int .i64 ((qb t595 x379_9).f1))) (fun _ hk => ⟨hk.1.1, hk.1.2⟩)))⟩; replace HO_43 : qa (Kd.R k36 36 w142 w.heap.size (fun k_ => some k_ ≠ (.slice (some ad619) t595.length co105 : Value).ownBlock ∧ k_ ≠ gb620) (.slice Ao68 t607.length co68) t607) := ⟨(by rw [hw]; exact (by (with_reducible repeat (first | apply Kd.qF | apply Kd.qE | apply Kd.qJ)); exact Kd.qz (Kd.ze (p := ⟨gb620, 1, none⟩) (Kd.ze (p := ⟨gb620, 0, none⟩) (Kd.qz HO_43.out (fun k_ hk => (⟨hk, hk.2⟩ : _ ∧ k_ ≠ gb620))) (fun _ hk => hk.2) (.int .i64 ((qb t595 x379_9).f0))) (fun _ hk => hk.2) (.int .i64 ((qb t595 x379_9).f1))) (fun _ hk => ⟨hk.1.1, hk.1.2⟩)))⟩; replace HO_377 : qa (Kd.R k36 36 w142 w.heap.size (fun k_ => some k_ ≠ (.slice Ao68 t607.length co68 : Value).ownBlock ∧ k_ ≠ gb620) (.slice (some ad619) t595.length co105) t595) := ⟨(by rw [hw]; exact (by (with_reducible repeat (first | apply Kd.qF | apply Kd.qE | apply Kd.qJ)); exact Kd.qz (Kd.ze (p := ⟨gb620, 1, none⟩) (Kd.ze (p := ⟨gb620, 0, none⟩) (Kd.qz HO_377.out (fun k_ hk => (⟨hk, hk.2⟩ : _ ∧ k_ ≠ gb620))) (fun _ hk => hk.2) (.int .i64 ((qb t595 x379_9).f0))) (fun _ hk => hk.2) (.int .i64 ((qb t595 x379_9).f1))) (fun _ hk => ⟨hk.1.1, hk.1.2⟩)))⟩; replace BK620 : qa (w142.heap[gb620]? = some (.cells #[.int .i64 ((qb t595 x379_9).f0), .int .i64 ((qb t595 x379_9).f1)] 36 (0, 0))) := ⟨(by rw [hw]; exact (by (with_reducible repeat (first | refine qu ?_ _ | refine qx ?_ | refine qt ?_ _)); refine zo (cs := #[.int .i64 ((qb t595 x379_9).f0), .int .i64 0]) ?_ 1 _ rfl; (with_reducible repeat (first | refine qu ?_ _ | refine qx ?_ | refine qt ?_ _)); refine zo (cs := #[.int .i64 0, .int .i64 0]) ?_ 0 _ rfl; (with_reducible repeat (first | refine qu ?_ _ | refine qx ?_ | refine qt ?_ _)); exact BK620.out))⟩; replace HB : qa (Below w.heap.size w w142) := ⟨(by rw [hw]; exact (hbg_))⟩; clear hw))
     replace HO_35 := qa.mk (Kd.qJ HO_35.out); replace HO_43 := qa.mk (Kd.qJ HO_43.out); replace HO_377 := qa.mk (Kd.qJ HO_377.out); replace BK620 := qa.mk (qx BK620.out); replace HB := qa.mk (qj HB.out); (refine xr (n := 35) (S := fun w' => w'.cell? ⟨gb620, 0, none⟩ = some (.int .i64 ((qb t595 x379_9).f0)) ∧ w'.cell? ⟨gb620, 1, none⟩ = some (.int .i64 ((qb t595 x379_9).f1))) (ds := []) (fl 0 35) (by kernel_rfl) rfl rfl ⟨(qc BK620.out 0).trans rfl, (qc BK620.out 1).trans rfl⟩ (fun hHeld => ?_); refine jM ja.tab48 ja.bits48 (fun HT_ HW_ => ?_)); generalize w142.drew = w143 at HO_35 HO_43 HO_377 BK620 HB hHeld ⊢; refine qQ (i := 0) (N := some 384) (v := ?_) (a' := ?_) (fl 1 35) rfl rfl (qG HT_.out (by kernel_rfl)) (fun _ _ _ h => h) (Or.inl ⟨by rfl, ?_⟩) ?_ ?_; rotate_left
     ·intro w'
      go_simp; with_reducible rfl
     rotate_left
     ·simp only [Act.put, sA, sB, sC, qA, qB]
      rfl
     refine jg (i := 1) (N := some 385) (v := ?_) (a' := ?_) (fl 2 35) rfl rfl (zp HT_.out HW_.out (by kernel_rfl)) (fun _ _ _ h => h) (Or.inl ⟨by rfl, ?_⟩) hHeld ?_ ?_; rotate_left
     ·rintro w' ⟨s0, s1⟩
      go_simp; with_reducible rfl
     rotate_left
     ·simp only [Act.put, sA, sB, sC, qA, qB]
      rfl
     refine qQ (i := 2) (N := some 386) (v := ?_) (a' := ?_) (fl 3 35) rfl rfl (qG HT_.out (by kernel_rfl)) (fun _ _ _ h => h) (Or.inl ⟨by rfl, ?_⟩) ?_ ?_; rotate_left
     ·intro w'
      go_simp; with_reducible rfl
     rotate_left
     ·simp only [Act.put, sA, sB, sC, qA, qB]
      rfl
     refine qQ (i := 3) (N := some 387) (v := ?_) (a' := ?_) (fl 4 35) rfl rfl (qG HT_.out (by kernel_rfl)) (fun _ _ _ h => h) (Or.inl ⟨by rfl, ?_⟩) ?_ ?_; rotate_left
     ·intro w'
      go_simp; with_reducible rfl
     rotate_left
     ·simp only [Act.put, sA, sB, sC, qA, qB]
      rfl
     refine qQ (i := 4) (N := some 388) (v := ?_) (a' := ?_) (fl 5 35) rfl rfl (qG HT_.out (by kernel_rfl)) (fun _ _ _ h => h) (Or.inl ⟨by rfl, ?_⟩) ?_ ?_; rotate_left
     ·intro w'
      go_simp; with_reducible rfl
     rotate_left
     ·simp only [Act.put, sA, sB, sC, qA, qB]
      rfl
     refine qQ (i := 6) (N := some 390) (v := ?_) (a' := ?_) #[true, true, true, true, true, false, true, false, false, false, false, false, false, false, false, false, false, false, false, false, false, false, false, false, false, false, false, false, false, false, false, false, false, false, false] rfl rfl (qG HT_.out (by kernel_rfl)) (fun _ _ _ h => h) (Or.inl ⟨by rfl, ?_⟩) ?_ ?_; rotate_left
     ·intro w'
      go_simp; with_reducible rfl
     rotate_left
     ·simp only [Act.put, sA, sB, sC, qA, qB]
      rfl
     refine jg (i := 5) (N := some 389) (v := ?_) (a' := ?_) (fl 7 35) rfl rfl (zp HT_.out HW_.out (by kernel_rfl)) (fun _ _ _ h => h) (Or.inl ⟨by rfl, ?_⟩) hHeld ?_ ?_; rotate_left
     ·rintro w' ⟨s0, s1⟩
      go_simp; with_reducible rfl
     rotate_left
     ·simp only [Act.put, sA, sB, sC, qA, qB]
      rfl
     refine qQ (i := 7) (N := some 391) (v := ?_) (a' := ?_) (fl 8 35) rfl rfl (qG HT_.out (by kernel_rfl)) (fun _ _ _ h => h) (Or.inl ⟨by rfl, ?_⟩) ?_ ?_; rotate_left
     ·intro w'
      go_simp; with_reducible rfl
     rotate_left
     ·simp only [Act.put, sA, sB, sC, qA, qB]
      rfl
     refine qQ (i := 8) (N := some 392) (v := ?_) (a' := ?_) (fl 9 35) rfl rfl (qG HT_.out (by kernel_rfl)) (fun _ _ _ h => h) (Or.inl ⟨by rfl, ?_⟩) ?_ ?_; rotate_left
     ·intro w'
      go_simp; with_reducible rfl
     rotate_left
     ·simp only [Act.put, sA, sB, sC, qA, qB]
      rfl
     refine qQ (i := 9) (N := some 393) (v := ?_) (a' := ?_) (fl 10 35) rfl rfl (qG HT_.out (by kernel_rfl)) (fun _ _ _ h => h) (Or.inl ⟨by rfl, ?_⟩) ?_ ?_; rotate_left
     ·intro w'
      go_simp; with_reducible rfl
     rotate_left
     ·simp only [Act.put, sA, sB, sC, qA, qB]
      rfl
     refine qQ (i := 10) (N := some 394) (v := ?_) (a' := ?_) (fl 11 35) rfl rfl (qG HT_.out (by kernel_rfl)) (fun _ _ _ h => h) (Or.inl ⟨by rfl, ?_⟩) ?_ ?_; rotate_left
     ·intro w'
      go_simp; with_reducible rfl
     rotate_left
     ·simp only [Act.put, sA, sB, sC, qA, qB]
      rfl
     refine jg (i := 11) (N := some 395) (v := ?_) (a' := ?_) (fl 12 35) rfl rfl (zp HT_.out HW_.out (by kernel_rfl)) (fun _ _ _ h => h) (Or.inl ⟨by rfl, ?_⟩) hHeld ?_ ?_; rotate_left
     ·rintro w' ⟨s0, s1⟩
      go_simp; with_reducible rfl
     rotate_left
     ·simp only [Act.put, sA, sB, sC, qA, qB]
      rfl
     refine qQ (i := 12) (N := some 396) (v := ?_) (a' := ?_) (fl 13 35) rfl rfl (qG HT_.out (by kernel_rfl)) (fun _ _ _ h => h) (Or.inl ⟨by rfl, ?_⟩) ?_ ?_; rotate_left
     ·intro w'
      go_simp; with_reducible rfl
     rotate_left
     ·simp only [Act.put, sA, sB, sC, qA, qB]
      rfl
     refine qQ (i := 13) (N := some 397) (v := ?_) (a' := ?_) (fl 14 35) rfl rfl (qG HT_.out (by kernel_rfl)) (fun _ _ _ h => h) (Or.inl ⟨by rfl, ?_⟩) ?_ ?_; rotate_left
     ·intro w'
      go_simp; with_reducible rfl
     rotate_left
     ·simp only [Act.put, sA, sB, sC, qA, qB]
      rfl
     refine qQ (i := 14) (N := some 398) (v := ?_) (a' := ?_) (fl 15 35) rfl rfl (qG HT_.out (by kernel_rfl)) (fun _ _ _ h => h) (Or.inl ⟨by rfl, ?_⟩) ?_ ?_; rotate_left
     ·intro w'
      go_simp; with_reducible rfl
     rotate_left
     ·simp only [Act.put, sA, sB, sC, qA, qB]
      rfl
     refine qQ (i := 15) (N := some 399) (v := ?_) (a' := ?_) (fl 16 35) rfl rfl (qG HT_.out (by kernel_rfl)) (fun _ _ _ h => h) (Or.inl ⟨by rfl, ?_⟩) ?_ ?_; rotate_left
     ·intro w'
      go_simp; with_reducible rfl
     rotate_left
     ·simp only [Act.put, sA, sB, sC, qA, qB]
      rfl
     refine qQ (i := 17) (N := some 401) (v := ?_) (a' := ?_) #[true, true, true, true, true, true, true, true, true, true, true, true, true, true, true, true, false, true, false, false, false, false, false, false, false, false, false, false, false, false, false, false, false, false, false] rfl rfl (qG HT_.out (by kernel_rfl)) (fun _ _ _ h => h) (Or.inl ⟨by rfl, ?_⟩) ?_ ?_; rotate_left
     ·intro w'
      go_simp; with_reducible rfl
     rotate_left
     ·simp only [Act.put, sA, sB, sC, qA, qB]
      rfl
     refine jg (i := 16) (N := some 400) (v := ?_) (a' := ?_) (fl 18 35) rfl rfl (zp HT_.out HW_.out (by kernel_rfl)) (fun _ _ _ h => h) (Or.inl ⟨by rfl, ?_⟩) hHeld ?_ ?_; rotate_left
     ·rintro w' ⟨s0, s1⟩
      go_simp; with_reducible rfl
     rotate_left
     ·simp only [Act.put, sA, sB, sC, qA, qB]
      rfl
     refine qQ (i := 18) (N := some 402) (v := ?_) (a' := ?_) (fl 19 35) rfl rfl (qG HT_.out (by kernel_rfl)) (fun _ _ _ h => h) (Or.inl ⟨by rfl, ?_⟩) ?_ ?_; rotate_left
     ·intro w'
      go_simp; with_reducible rfl
     rotate_left
     ·simp only [Act.put, sA, sB, sC, qA, qB]
      rfl
     refine qQ (i := 19) (N := some 403) (v := ?_) (a' := ?_) (fl 20 35) rfl rfl (qG HT_.out (by kernel_rfl)) (fun _ _ _ h => h) (Or.inl ⟨by rfl, ?_⟩) ?_ ?_; rotate_left
     ·intro w'
      go_simp; with_reducible rfl
     rotate_left
     ·simp only [Act.put, sA, sB, sC, qA, qB]
      rfl
     refine qQ (i := 20) (N := some 404) (v := ?_) (a' := ?_) (fl 21 35) rfl rfl (qG HT_.out (by kernel_rfl)) (fun _ _ _ h => h) (Or.inl ⟨by rfl, ?_⟩) ?_ ?_; rotate_left
     ·intro w'
      go_simp; with_reducible rfl
     rotate_left
     ·simp only [Act.put, sA, sB, sC, qA, qB]
      rfl
     refine qQ (i := 21) (N := some 405) (v := ?_) (a' := ?_) (fl 22 35) rfl rfl (qG HT_.out (by kernel_rfl)) (fun _ _ _ h => h) (Or.inl ⟨by rfl, ?_⟩) ?_ ?_; rotate_left
     ·intro w'
      go_simp; with_reducible rfl
     rotate_left
     ·simp only [Act.put, sA, sB, sC, qA, qB]
      rfl
     refine qQ (i := 22) (N := some 406) (v := ?_) (a' := ?_) (fl 23 35) rfl rfl (qG HT_.out (by kernel_rfl)) (fun _ _ _ h => h) (Or.inl ⟨by rfl, ?_⟩) ?_ ?_; rotate_left
     ·intro w'
      go_simp; with_reducible rfl
     rotate_left
     ·simp only [Act.put, sA, sB, sC, qA, qB]
      rfl
     refine qQ (i := 23) (N := some 407) (v := ?_) (a' := ?_) (fl 24 35) rfl rfl (qG HT_.out (by kernel_rfl)) (fun _ _ _ h => h) (Or.inl ⟨by rfl, ?_⟩) ?_ ?_; rotate_left
     ·intro w'
      go_simp; with_reducible rfl
     rotate_left
     ·simp only [Act.put, sA, sB, sC, qA, qB]
      rfl
     refine qQ (i := 24) (N := some 408) (v := undef) (a' := ?_) (fl 25 35) rfl rfl (qG HT_.out (by kernel_rfl)) (fun _ _ _ h => h) (Or.inr ⟨by rfl, rfl⟩) ?_ ?_; rotate_left
     ·simp only [Act.put, sA, sB, sC, qA, qB]
      rfl
     refine qQ (i := 25) (N := some 409) (v := undef) (a' := ?_) (fl 26 35) rfl rfl (qG HT_.out (by kernel_rfl)) (fun _ _ _ h => h) (Or.inr ⟨by rfl, rfl⟩) ?_ ?_; rotate_left
     ·simp only [Act.put, sA, sB, sC, qA, qB]
      rfl
     refine qQ (i := 26) (N := some 410) (v := undef) (a' := ?_) (fl 27 35) rfl rfl (qG HT_.out (by kernel_rfl)) (fun _ _ _ h => h) (Or.inr ⟨by rfl, rfl⟩) ?_ ?_; rotate_left
     ·simp only [Act.put, sA, sB, sC, qA, qB]
      rfl
     refine qQ (i := 27) (N := some 411) (v := undef) (a' := ?_) (fl 28 35) rfl rfl (qG HT_.out (by kernel_rfl)) (fun _ _ _ h => h) (Or.inr ⟨by rfl, rfl⟩) ?_ ?_; rotate_left
     ·simp only [Act.put, sA, sB, sC, qA, qB]
      rfl
     refine qQ (i := 28) (N := some 412) (v := undef) (a' := ?_) (fl 29 35) rfl rfl (qG HT_.out (by kernel_rfl)) (fun _ _ _ h => h) (Or.inr ⟨by rfl, rfl⟩) ?_ ?_; rotate_left
     ·simp only [Act.put, sA, sB, sC, qA, qB]
      rfl
     refine qQ (i := 29) (N := some 413) (v := undef) (a' := ?_) (fl 30 35) rfl rfl (qG HT_.out (by kernel_rfl)) (fun _ _ _ h => h) (Or.inr ⟨by rfl, rfl⟩) ?_ ?_; rotate_left
     ·simp only [Act.put, sA, sB, sC, qA, qB]
      rfl
     refine qQ (i := 30) (N := some 414) (v := undef) (a' := ?_) (fl 31 35) rfl rfl (qG HT_.out (by kernel_rfl)) (fun _ _ _ h => h) (Or.inr ⟨by rfl, rfl⟩) ?_ ?_; rotate_left
     ·simp only [Act.put, sA, sB, sC, qA, qB]
      rfl
     refine qQ (i := 31) (N := some 415) (v := undef) (a' := ?_) (fl 32 35) rfl rfl (qG HT_.out (by kernel_rfl)) (fun _ _ _ h => h) (Or.inr ⟨by rfl, rfl⟩) ?_ ?_; rotate_left
     ·simp only [Act.put, sA, sB, sC, qA, qB]
      rfl
     refine qQ (i := 32) (N := some 416) (v := undef) (a' := ?_) (fl 33 35) rfl rfl (qG HT_.out (by kernel_rfl)) (fun _ _ _ h => h) (Or.inr ⟨by rfl, rfl⟩) ?_ ?_; rotate_left
     ·simp only [Act.put, sA, sB, sC, qA, qB]
      rfl
     refine qQ (i := 33) (N := some 417) (v := ?_) (a' := ?_) (fl 34 35) rfl rfl (qG HT_.out (by kernel_rfl)) (fun _ _ _ h => h) (Or.inl ⟨by rfl, ?_⟩) ?_ ?_; rotate_left
     ·intro w'
      go_simp; with_reducible rfl
     rotate_left
     ·simp only [Act.put, sA, sB, sC, qA, qB]
      rfl
     refine qQ (i := 34) (N := some 418) (v := ?_) (a' := ?_) (fl 35 35) rfl rfl (qG HT_.out (by kernel_rfl)) (fun _ _ _ h => h) (Or.inl ⟨by rfl, ?_⟩) ?_ ?_; rotate_left
     ·intro w'
      go_simp; with_reducible rfl
     rotate_left
     ·simp only [Act.put, sA, sB, sC, qA, qB]
      rfl
     refine done_ (xg HT_.out (by kernel_rfl)) ?_; try go_wp2
     go_roundg k9
     case measure => omega
     case rel => exact ⟨(wrap64 (x379_9 + 1)), rfl, ⟨by have := hx0.out; have := hxk.out; have := F.out.len; unfold wrap64; omega, by have := hx0.out; have := hxk.out; have := F.out.len; unfold wrap64; omega⟩, ⟨by (with_reducible repeat (first | apply Kd.qF | apply Kd.qE | apply Kd.qJ)); exact Kd.qz HO_35.out (fun _ hk => hk.1)⟩, ⟨by (with_reducible repeat (first | apply Kd.qF | apply Kd.qE | apply Kd.qJ)); exact Kd.qz HO_43.out (fun _ hk => hk.1)⟩, ⟨by (with_reducible repeat (first | apply Kd.qF | apply Kd.qE | apply Kd.qJ)); exact Kd.qz HO_377.out (fun _ hk => hk.1)⟩, ⟨hbg_⟩⟩
set_option maxHeartbeats 32000000 in
set_option maxRecDepth 100000 in
theorem shapes_mid {k : Nat} {t593 t594 : Int} {t595 : List S36} {t596 : Bool} {t607 : List S36} {t610 t611 : Bool} (hM : t596 = true → MidF k t593 t594 t595 t607 t610 t611) (hmore : t611 = true → t610 = true → 2 < (t607.length : Int))
  {Ao68 : Option Addr} {co68 : Nat} {v597 : Value} {w wc : World} (HO_35 : qa (Kd.R k36 36 wc w.heap.size (fun k_ => some k_ ≠ ((.slice Ao68 t607.length co68) : Value).ownBlock) v597 t595)) (HO_43 : qa (Kd.R k36 36 wc w.heap.size (fun k_ => some k_ ≠ (v597 : Value).ownBlock) (.slice Ao68 t607.length co68) t607)) (HB : qa (Below w.heap.size w wc)) {u0 u1 u2 u3 u4 u5 u6 u7 u8 u9 u10 u11 u12 u13 u14 u15 u16 u17 u18 u19 u20 u21 u22 u23 u24 u25 u26 u27 u28 u29 u30 u31 u32 u37 u38 u40 u41 u42 u46 u47 u48 u49 u50 u51 u52 u53 u54 u55 u56 u57 u58 u59 u60 u61 u62 u63 u64 u65 u66 u67 u68 u69 u70 u71 u72 u73 u74 u75 u76 u77 u78 u79 u80 u81 u82 u83 u84 u85 u86 u87 u88 u89 u90 u91 u92 u93 u94 u95 u96 u97 u98 u99 u100 u101 u102 u103 u104 u105 u106 u107 u108 u109 u110 u111 u112 u113 u114 u115 u116 u117 u118 u119 u120 u121 u122 u123 u124 u125 u126 u127 u128 u129 u130 u131 u132 u133 u134 u135 u136 u137 u138 u139 u140 u141 u142 u143 u144 u145 u146 u147 u148 u149 u150 u151 u152 u153 u154 u155 u156 u157 u158 u159 u160 u161 u162 u163 u164 u165 u166 u167 u168 u169 u170 u171 u172 u173 u174 u175 u176 u177 u178 u179 u180 u181 u182 u183 u184 u185 u186 u187 u188 u189 u190 u191 u192 u193 u194 u195 u196 u197 u198 u199 u200 u201 u202 u203 u204 u205 u206 u207 u208 u209 u210 u211 u212 u213 u214 u215 u216 u217 u218 u219 u220 u221 u222 u223 u224 u225 u226 u227 u228 u229 u230 u231 u232 u233 u234 u235 u236 u237 u238 u239 u240 u241 u242 u243 u244 u245 u246 u247 u248 u249 u250 u251 u252 u253 u254 u255 u256 u257 u258 u259 u260 u261 u262 u263 u264 u265 u266 u267 u268 u269 u270 u271 u272 u273 u274 u275 u276 u277 u278 u279 u280 u281 u282 u283 u284 u285 u286 u287 u288 u289 u290 u291 u292 u293 u294 u295 u296 u297 u298 u299 u300 u301 u302 u303 u304 u305 u306 u307 u308 u309 u310 u311 u312 u313 u314 u315 u316 u317 u318 u319 u320 u321 u322 u323 u324 u325 u326 u327 u328 u329 u330 u331 u332 u333 u334 u335 u336 u337 u338 u339 u340 u341 u342 u343 u344 u345 u346 u347 u348 u349 u350 u351 u352 u353 u354 u355 u356 u357 u358 u359 u360 u361 u362 u363 u364 u365 u366 u367 u368 u369 u370 u371 u372 u373 u374 u375 u376 u377 u378 u379 u380 u381 u382 u383 u384 u385 u386 u387 u388 u389 u390 u391 u392 u393 u394 u395 u396 u397 u398 u399 u400 u401 u402 u403 u404 u405 u406 u407 u408 u409 u410 u411 u412 u413 u414 u415 u416 u417 u418 u419 u420 u421 u422 u423 u424 u425 u426 : Value} {K K1 : Act → World → Prop} {cF cC cR : Code} (hF : fstC (fstC (sndC (sndC (sndC (sndC (sndC (sndC (sndC (sndC (sndC (sndC (sndC (sndC (sndC (sndC (sndC (sndC (sndC (sndC (sndC (sndC (sndC (sndC (sndC (sndC (bodyC Try.f3)))))))))))))))))))))))))) = cF) (hC : sndC (fstC (sndC (sndC (sndC (sndC (sndC (sndC (sndC (sndC (sndC (sndC (sndC (sndC (sndC (sndC (sndC (sndC (sndC (sndC (sndC (sndC (sndC (sndC (sndC (sndC (bodyC Try.f3)))))))))))))))))))))))))) = cC) (hR : sndC (sndC (sndC (sndC (sndC (sndC (sndC (sndC (sndC (sndC (sndC (sndC (sndC (sndC (sndC (sndC (sndC (sndC (sndC (sndC (sndC (sndC (sndC (sndC (sndC (bodyC Try.f3))))))))))))))))))))))))) = cR)
  (hK1 : ∀ (a' : Act) (w' : World), Code.wp Try.prog cC (Exit.then K (bodyPost Try.prog Try.f3 fun e w' => e = .returned (.bool true) ∧ Below w.heap.size w w')) a' w' → K1 a' w') (hK : ∀ (a' : Act) (w' : World), Code.wp Try.prog cR (bodyPost Try.prog Try.f3 fun e w' => e = .returned (.bool true) ∧ Below w.heap.size w w') a' w' → K a' w') :
  Code.wp Try.prog cF (Exit.then K1 (Exit.then K (bodyPost Try.prog Try.f3 fun e w' => e = .returned (.bool true) ∧ Below w.heap.size w w'))) { tmps := #[u0, u1, u2, u3, u4, u5, u6, u7, u8, u9, u10, u11, u12, u13, u14, u15, u16, u17, u18, u19, u20, u21, u22, u23, u24, u25, u26, u27, u28, u29, u30, u31, u32, .int .i64 t593, .int .i64 t594, v597, .bool t596, u37, u38, .int .i64 (t595.length : Int), u40, u41, u42, .slice Ao68 t607.length co68, .bool t610, .bool t611, u46, u47, u48, u49, u50, u51, u52, u53, u54, u55, u56, u57, u58, u59, u60, u61, u62, u63, u64, u65, u66, u67, u68, u69, u70, u71, u72, u73, u74, u75, u76, u77, u78, u79, u80, u81, u82, u83, u84, u85, u86, u87, u88, u89, u90, u91, u92, u93, u94, u95, u96, u97, u98, u99, u100, u101, u102, u103, u104, u105, u106, u107, u108, u109, u110, u111, u112, u113, u114, u115, u116, u117, u118, u119, u120, u121, u122, u123, u124, u125, u126, u127, u128, u129, u130, u131, u132, u133, u134, u135, u136, u137, u138, u139, u140, u141, u142, u143, u144, u145, u146, u147, u148, u149, u150, u151, u152, u153, u154, u155, u156, u157, u158, u159, u160, u161, u162, u163, u164, u165, u166, u167, u168, u169, u170, u171, u172, u173, u174, u175, u176, u177, u178, u179, u180, u181, u182, u183, u184, u185, u186, u187, u188, u189, u190, u191, u192, u193, u194, u195, u196, u197, u198, u199, u200, u201, u202, u203, u204, u205, u206, u207, u208, u209, u210, u211, u212, u213, u214, u215, u216, u217, u218, u219, u220, u221, u222, u223, u224, u225, u226, u227, u228, u229, u230, u231, u232, u233, u234, u235, u236, u237, u238, u239, u240, u241, u242, u243, u244, u245, u246, u247, u248, u249, u250, u251, u252, u253, u254, u255, u256, u257, u258, u259, u260, u261, u262, u263, u264, u265, u266, u267, u268, u269, u270, u271, u272, u273, u274, u275, u276, u277, u278, u279, u280, u281, u282, u283, u284, u285, u286, u287, u288, u289, u290, u291, u292, u293, u294, u295, u296, u297, u298, u299, u300, u301, u302, u303, u304, u305, u306, u307, u308, u309, u310, u311, u312, u313, u314, u315, u316, u317, u318, u319, u320, u321, u322, u323, u324, u325, u326, u327, u328, u329, u330, u331, u332, u333, u334, u335, u336, u337, u338, u339, u340, u341, u342, u343, u344, u345, u346, u347, u348, u349, u350, u351, u352, u353, u354, u355, u356, u357, u358, u359, u360, u361, u362, u363, u364, u365, u366, u367, u368, u369, u370, u371, u372, u373, u374, u375, u376, u377, u378, u379, u380, u381, u382, u383, u384, u385, u386, u387, u388, u389, u390, u391, u392, u393, u394, u395, u396, u397, u398, u399, u400, u401, u402, u403, u404, u405, u406, u407, u408, u409, u410, u411, u412, u413, u414, u415, u416, u417, u418, u419, u420, u421, u422, u423, u424, u425, u426], defers := [] } wc := by
 have hu36 := Try.underlying36; dsimp only [bodyC, sndC, fstC, Try.f3, Option.getD] at hF hC hR; subst hF; subst hC; subst hR
 cases t596 with
 | false =>
  clear hM HO_35 HO_43
  cases t611 with
  | false =>
   go_wp2; go_ret; exact ⟨by first | rfl | (simp; done), hbg_⟩
  | true =>
   cases t610 with
   | false =>
    go_wp2; go_ret; exact ⟨by first | rfl | (simp; done), hbg_⟩
   | true =>
    have cE : decide (2 < (t607.length : Int)) = true := decide_eq_true (hmore rfl rfl); go_wp2; go_ret; exact ⟨by first | rfl | (simp [cE]; done) | (simp [*]; done), hbg_⟩
 | true =>
  have F := qa.mk (hM rfl); clear hM; have A102 := qa.mk F.out.A102; have A103 := qa.mk F.out.A103; obtain ⟨Ao105, co105, eo105⟩ := Kd.zO HO_35.out; subst eo105; have c43b0 : decide (wrap64 (2 * t593) < (t595.length : Int)) = false := decide_eq_false F.out.b1; have c43b1 : decide (wrap64 (2 * t594) < (t595.length : Int)) = false := decide_eq_false F.out.b2; have c43b2 : decide ((t595.length : Int) < 1) = false := decide_eq_false F.out.b3
  go_upto_region 41 with (first | ((with_reducible refine qo (f := 22) rfl ?_); refine qP (some 333) rfl rfl Try.func22 (by kernel_rfl) rfl #[.slice Ao105 t595.length co105] rfl ga_ ?_; (with_reducible refine (jy.calls k _ _ t595 false true _ ?side1 ?side2 A102.out).mono ?_); (case side1 => repeat (first | exact (Kd.qV HO_35.out).2.2 | (with_reducible refine Kd.qZ ?_ _) | (with_reducible refine Kd.qY ?_ _) | (with_reducible refine Kd.zi ?_))); (case side2 => exact (Kd.qV HO_35.out).2.1); rintro e w106 ⟨rfl, hb⟩; refine ⟨_, rfl, ?_⟩; replace HO_35 := qa.mk (Kd.qS (rk_ HO_35.out) hb); replace HO_43 := qa.mk (Kd.qS (rk_ HO_43.out) hb); replace HB := qa.mk (qh (hb_) hb); (try clear hb)) | ((with_reducible refine qo (f := 19) rfl ?_); refine qP (some 339) rfl rfl Try.func19 (by kernel_rfl) rfl #[.int .i64 t594, .int .i64 t593] rfl ga_ ?_; (with_reducible refine (jc.calls k t594 t593 (t595.length : Int) true _ A103.out).mono ?_); rintro e w107 ⟨rfl, hb⟩; refine ⟨_, rfl, ?_⟩; replace HO_35 := qa.mk (Kd.qS (rk_ HO_35.out) hb); replace HO_43 := qa.mk (Kd.qS (rk_ HO_43.out) hb); replace HB := qa.mk (qh (hb_) hb); (try clear hb)))
  by_cases cM : wrap64 (2 * t594) < wrap64 (2 * t593)
  ·have cMb : decide (wrap64 (2 * t594) < wrap64 (2 * t593)) = true := decide_eq_true cM
   clear cM; (go_upto_region 45 with (fail)); exact shapes_loop F.out.loop HO_35 HO_43 ⟨hb_⟩ rfl rfl rfl (by assumption) (by assumption)
  ·have cMb : decide (wrap64 (2 * t594) < wrap64 (2 * t593)) = false := decide_eq_false cM
   clear cM; (go_upto_region 45 with (fail)); exact shapes_loop F.out.loop HO_35 HO_43 ⟨hb_⟩ rfl rfl rfl (by assumption) (by assumption)
end Go.Proofs.Ytafnbgclkkjdcaa.MA
