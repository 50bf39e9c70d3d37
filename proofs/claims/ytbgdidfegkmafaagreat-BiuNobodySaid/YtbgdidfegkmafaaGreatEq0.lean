import Derived.Test.YtbgdidfegkmafaaGreatTb
import Derived.Test.YtbgdidfegkmafaaGreatAmD
namespace Go.Proofs.YtbgdidfegkmafaaGreat
open Go Go.AM Go.Proofs
set_option linter.unusedVariables false
set_option maxRecDepth 100000
set_option maxHeartbeats 4000000
/- 6 busbar/busbarlaw22.BiuNobody -/
noncomputable def busbarlaw22_BiuNobody.c1 (env : Env) (J : JT) (x0 x1 x5 : V) (h : H) : Ans :=
 J 0 [x0, x1, x5] h
noncomputable def busbarlaw22_BiuNobody.c0 (env : Env) (J : JT) (x0 x1 : V) (h : H) : Ans :=
 busbarlaw22_BiuNobody.c1 env J x0 x1 (.int .i64 0) h
noncomputable def busbarlaw22_BiuNobody.fs (env : Env) (J : JT) (x0 x1 : V) (h : H) : Ans :=
 busbarlaw22_BiuNobody.c0 env J x0 x1 h
theorem busbarlaw22_BiuNobody.fe_eq (env : Env) (J : JT) (x0 x1 : V) (h : H) : evF Tryz.prog env J 6 busbarlaw22_BiuNobody.an [x0, x1] h = busbarlaw22_BiuNobody.fs env J x0 x1 h := by kernel_rfl
noncomputable def busbarlaw22_BiuNobody.c3 (env : Env) (J : JT) (x0 x1 x5 x6 : V) (h : H) : Ans :=
 bnd (binE false .int x5 (.int .i64 1)) fun t24_5 =>
 cnd t24_5 (
 J 1 [x0, x1, x5, .nilp] h) (
 J 1 [x0, x1, x5, x6] h)
noncomputable def busbarlaw22_BiuNobody.c2 (env : Env) (J : JT) (x0 x1 x5 : V) (h : H) : Ans :=
 bnd (build (zeroV Tryz.prog 85) []) fun t21_2 =>
 bnd2 (box (some (some 84)) h t21_2) fun t22_3 h_4 =>
 busbarlaw22_BiuNobody.c3 env J x0 x1 x5 t22_3 h_4
noncomputable def busbarlaw22_BiuNobody.p0 (env : Env) (J : JT) (x0 x1 x5 : V) (h : H) : Ans :=
 bnd (bin .lss x5 (.int .i64 2)) fun t18_1 =>
 cnd t18_1 (
 busbarlaw22_BiuNobody.c2 env J x0 x1 x5 h) (
 J 2 [] h)
theorem busbarlaw22_BiuNobody.p0_eq (env : Env) (J : JT) (x0 x1 x5 : V) (h : H) : evP Tryz.prog env J 6 busbarlaw22_BiuNobody.an 0 [x0, x1, x5] h = busbarlaw22_BiuNobody.p0 env J x0 x1 x5 h := by kernel_rfl
noncomputable def busbarlaw22_BiuNobody.c8 (env : Env) (J : JT) (x0 x1 x5 x6 x7 x8 x9 x10 x11 x12 : V) (h : H) : Ans :=
 bnd2 (env 18 [x6, (.int .i64 0)] h) fun t49_26 h_27 =>
 bnd (binE true .int t49_26 (.int .i64 1)) fun t50_28 =>
 bnd2 (gd t50_28 false (some (x8, h_27)) h_27) fun t52_29 h_30 =>
 bnd (pick t50_28 (.bool true) t52_29) fun t53_31 =>
 bnd2 (gd t53_31 false (bnd (fieldA (some (some 43, none)) x7 0) fun t55_32 =>
 some (t55_32, h_30)) h_30) fun t55_33 h_34 =>
 bnd2 (gd t53_31 false (bnd (ld none h_34 t55_33) fun t56_35 =>
 some (t56_35, h_34)) h_34) fun t56_36 h_37 =>
 bnd2 (gd t53_31 false (bnd (binE true .int t56_36 (.int .i64 (-1))) fun t57_38 =>
 some (t57_38, h_37)) h_37) fun t57_39 h_40 =>
 bnd (pick t53_31 (.bool true) t57_39) fun t58_41 =>
 bnd2 (gd t58_41 false (some (x9, h_40)) h_40) fun t60_42 h_43 =>
 bnd2 (gd t58_41 false (bnd (binE true .int t60_42 (.int .u8 0)) fun t61_44 =>
 some (t61_44, h_43)) h_43) fun t61_45 h_46 =>
 bnd (pick t58_41 (.bool true) t61_45) fun t62_47 =>
 bnd2 (gd t62_47 false (some (x10, h_46)) h_46) fun t64_48 h_49 =>
 bnd (pick t62_47 (.bool true) t64_48) fun t65_50 =>
 bnd2 (gd t65_50 false (some (x11, h_49)) h_49) fun t67_51 h_52 =>
 bnd2 (gd t65_50 false (bnd (binE true .int t67_51 (.int .i64 (-1))) fun t68_53 =>
 some (t68_53, h_52)) h_52) fun t68_54 h_55 =>
 bnd (pick t65_50 (.bool true) t68_54) fun t69_56 =>
 bnd2 (gd t69_56 false (some (x12, h_55)) h_55) fun t71_57 h_58 =>
 bnd2 (gd t69_56 false (bnd (binE true .int t71_57 (.int .i64 0)) fun t72_59 =>
 some (t72_59, h_58)) h_58) fun t72_60 h_61 =>
 bnd (pick t69_56 (.bool true) t72_60) fun t73_62 =>
 bnd2 (gd t73_62 false (some (x6, h_61)) h_61) fun t75_63 h_64 =>
 bnd2 (gd t73_62 false (bnd2 (env 20 [t75_63] h_64) fun t76_65 h_66 =>
 some (t76_65, h_66)) h_64) fun t76_67 h_68 =>
 bnd2 (gd t73_62 false (some (x6, h_68)) h_68) fun t77_69 h_70 =>
 bnd2 (gd t73_62 false (bnd2 (env 25 [t77_69] h_70) fun t78_71 h_72 =>
 some (t78_71, h_72)) h_70) fun t78_73 h_74 =>
 bnd2 (gd t73_62 false (bnd (bin .add t76_67 t78_73) fun t79_75 =>
 some (t79_75, h_74)) h_74) fun t79_76 h_77 =>
 bnd2 (gd t73_62 false (bnd (binE true .int t79_76 (.int .i64 0)) fun t80_78 =>
 some (t80_78, h_77)) h_77) fun t80_79 h_80 =>
 bnd (pick t73_62 (.bool true) t80_79) fun t81_81 =>
 bnd2 (gd t81_81 false (some (x6, h_80)) h_80) fun t83_82 h_83 =>
 bnd2 (gd t81_81 false (bnd2 (env 27 [t83_82] h_83) fun t84_84 h_85 =>
 some (t84_84, h_85)) h_83) fun t84_86 h_87 =>
 bnd (pick t81_81 (.bool true) t84_86) fun t85_88 =>
 bnd2 (gd t85_88 false (some (x6, h_87)) h_87) fun t87_89 h_90 =>
 bnd2 (gd t85_88 false (bnd2 (env 35 [t87_89] h_90) fun t88_91 h_92 =>
 some (t88_91, h_92)) h_90) fun t88_93 h_94 =>
 bnd (pick t85_88 (.bool true) t88_93) fun t89_95 =>
 bnd2 (gd t89_95 false (some (x6, h_94)) h_94) fun t91_96 h_97 =>
 bnd2 (gd t89_95 false (some (x1, h_97)) h_97) fun t92_98 h_99 =>
 bnd2 (gd t89_95 false (bnd2 (env 36 [t91_96, t92_98] h_99) fun t93_100 h_101 =>
 some (t93_100, h_101)) h_99) fun t93_102 h_103 =>
 bnd (pick t89_95 (.bool true) t93_102) fun t94_104 =>
 bnd2 (gd t94_104 false (some (x6, h_103)) h_103) fun t96_105 h_106 =>
 bnd2 (gd t94_104 false (bnd2 (env 28 [t96_105] h_106) fun t97_107 h_108 =>
 some (t97_107, h_108)) h_106) fun t97_109 h_110 =>
 bnd2 (gd t94_104 false (bnd (fieldV (some (some 43, none)) t97_109 0) fun t98_111 =>
 some (t98_111, h_110)) h_110) fun t98_112 h_113 =>
 bnd2 (gd t94_104 false (bnd (binE true .int t98_112 (.int .i64 (-1))) fun t99_114 =>
 some (t99_114, h_113)) h_113) fun t99_115 h_116 =>
 bnd (pick t94_104 (.bool true) t99_115) fun t100_117 =>
 bnd2 (gd t100_117 false (some (x6, h_116)) h_116) fun t102_118 h_119 =>
 bnd2 (gd t100_117 false (bnd2 (env 37 [t102_118] h_119) fun t103_120 h_121 =>
 some (t103_120, h_121)) h_119) fun t103_122 h_123 =>
 bnd2 (gd t100_117 false (bnd (fieldV (some (some 64, none)) t103_122 3) fun t104_124 =>
 some (t104_124, h_123)) h_123) fun t104_125 h_126 =>
 bnd (pick t100_117 (.bool true) t104_125) fun t105_127 =>
 bnd2 (gd t105_127 false (some (x6, h_126)) h_126) fun t107_128 h_129 =>
 bnd2 (gd t105_127 false (bnd2 (env 26 [t107_128] h_129) fun t108_130 h_131 =>
 some (t108_130, h_131)) h_129) fun t108_132 h_133 =>
 bnd2 (gd t105_127 false (bnd (build (zeroV Tryz.prog 59) []) fun t109_134 =>
 some (t109_134, h_133)) h_133) fun t109_135 h_136 =>
 bnd2 (gd t105_127 false (bnd (binE true (.agg 58 [.int, .int, .int, .int, .int, .int, .int, .bool]) t108_132 t109_135) fun t110_137 =>
 some (t110_137, h_136)) h_136) fun t110_138 h_139 =>
 bnd (pick t105_127 (.bool true) t110_138) fun t111_140 =>
 cnd t111_140 (
 some ((.bool false), h_139)) (
 bnd (bin .add x5 (.int .i64 1)) fun t20_141 =>
 J 0 [x0, x1, t20_141] h_139)
noncomputable def busbarlaw22_BiuNobody.c7 (env : Env) (J : JT) (x0 x1 x5 x6 x7 x8 x9 x10 : V) (h : H) : Ans :=
 bnd2 (env 23 [x6] h) fun t45_22 h_23 =>
 bnd (ext t45_22 0) fun t46_24 =>
 bnd (ext t45_22 1) fun t47_25 =>
 busbarlaw22_BiuNobody.c8 env J x0 x1 x5 x6 x7 x8 x9 x10 t46_24 t47_25 h_23
noncomputable def busbarlaw22_BiuNobody.c6 (env : Env) (J : JT) (x0 x1 x5 x6 x7 x8 : V) (h : H) : Ans :=
 bnd2 (env 22 [x6] h) fun t40_18 h_19 =>
 bnd (ext t40_18 0) fun t41_20 =>
 bnd (ext t40_18 1) fun t42_21 =>
 busbarlaw22_BiuNobody.c7 env J x0 x1 x5 x6 x7 x8 t41_20 t42_21 h_19
noncomputable def busbarlaw22_BiuNobody.c5 (env : Env) (J : JT) (x0 x1 x5 x6 : V) (h : H) : Ans :=
 bnd2 (env 19 [x6, x0, x0, x1] h) fun t35_11 h_12 =>
 bnd (ext t35_11 0) fun t36_13 =>
 bnd (ext t35_11 1) fun t37_14 =>
 bnd2 (al (some (some 43)) (zeroV Tryz.prog 44) h_12) fun t7_15 h_16 =>
 bnd (st (some 43) h_16 t7_15 t36_13) fun h_17 =>
 busbarlaw22_BiuNobody.c6 env J x0 x1 x5 x6 t7_15 t37_14 h_17
noncomputable def busbarlaw22_BiuNobody.c4 (env : Env) (J : JT) (x0 x1 x5 x6 : V) (h : H) : Ans :=
 bnd (build (zeroV Tryz.prog 65) [(3, (.bool true))]) fun t28_8 =>
 bnd2 (env 30 [x6, t28_8] h) fun t29_9 h_10 =>
 busbarlaw22_BiuNobody.c5 env J x0 x1 x5 x6 h_10
noncomputable def busbarlaw22_BiuNobody.p1 (env : Env) (J : JT) (x0 x1 x5 x6 : V) (h : H) : Ans :=
 bnd2 (env 21 [x6, (.bool true)] h) fun t26_6 h_7 =>
 busbarlaw22_BiuNobody.c4 env J x0 x1 x5 x6 h_7
theorem busbarlaw22_BiuNobody.p1_eq (env : Env) (J : JT) (x0 x1 x5 x6 : V) (h : H) : evP Tryz.prog env J 6 busbarlaw22_BiuNobody.an 1 [x0, x1, x5, x6] h = busbarlaw22_BiuNobody.p1 env J x0 x1 x5 x6 h := by kernel_rfl
noncomputable def busbarlaw22_BiuNobody.c10 (env : Env) (J : JT) (x14 x16 : V) (h : H) : Ans :=
 bnd (binE false .int x14 (.int .i64 2)) fun t124_155 =>
 bnd2 (gd t124_155 true (some (x16, h)) h) fun t126_156 h_157 =>
 bnd2 (gd t124_155 true (bnd (binE false .int t126_156 (.int .i64 2)) fun t127_158 =>
 some (t127_158, h_157)) h_157) fun t127_159 h_160 =>
 bnd (pick t124_155 t127_159 (.bool false)) fun t128_161 =>
 bnd2 (gd t128_161 true (bnd2 (env 15 [] h_160) fun t130_162 h_163 =>
 some (t130_162, h_163)) h_160) fun t130_164 h_165 =>
 bnd (pick t128_161 t130_164 (.bool false)) fun t131_166 =>
 some (t131_166, h_165)
noncomputable def busbarlaw22_BiuNobody.c9 (env : Env) (J : JT) (x14 : V) (h : H) : Ans :=
 bnd2 (env 38 [] h) fun t118_147 h_148 =>
 bnd2 (env 17 [t118_147, (.int .i64 0)] h_148) fun t119_149 h_150 =>
 bnd2 (env 16 [(.bool true), t119_149, (.int .i64 16)] h_150) fun t120_151 h_152 =>
 bnd (ext t120_151 0) fun t121_153 =>
 bnd (ext t120_151 1) fun t122_154 =>
 busbarlaw22_BiuNobody.c10 env J x14 t122_154 h_152
noncomputable def busbarlaw22_BiuNobody.p2 (env : Env) (J : JT) (h : H) : Ans :=
 bnd (build (zeroV Tryz.prog 39) []) fun t113_142 =>
 bnd2 (env 16 [(.bool true), t113_142, (.int .i64 0)] h) fun t114_143 h_144 =>
 bnd (ext t114_143 0) fun t115_145 =>
 bnd (ext t114_143 1) fun t116_146 =>
 busbarlaw22_BiuNobody.c9 env J t116_146 h_144
theorem busbarlaw22_BiuNobody.p2_eq (env : Env) (J : JT) (h : H) : evP Tryz.prog env J 6 busbarlaw22_BiuNobody.an 2 [] h = busbarlaw22_BiuNobody.p2 env J  h := by kernel_rfl
theorem busbarlaw22_BiuNobody.eq {tb : Nat → Option Fa} (ht : tb 6 = some (.plain busbarlaw22_BiuNobody.an)) (x0 x1 : V) (h : H) : Ei Tryz.prog tb 6 [x0, x1] h = busbarlaw22_BiuNobody.fs (Ei Tryz.prog tb) (Ji Tryz.prog tb 6 busbarlaw22_BiuNobody.an) x0 x1 h := (Ei_eq (an := busbarlaw22_BiuNobody.an) ht _ h).trans (busbarlaw22_BiuNobody.fe_eq _ _ x0 x1 h)
theorem busbarlaw22_BiuNobody.J0_eq {tb : Nat → Option Fa} (x0 x1 x5 : V) (h : H) : Ji Tryz.prog tb 6 busbarlaw22_BiuNobody.an 0 [x0, x1, x5] h = busbarlaw22_BiuNobody.p0 (Ei Tryz.prog tb) (Ji Tryz.prog tb 6 busbarlaw22_BiuNobody.an) x0 x1 x5 h := (Ji_eq _ _ h).trans (busbarlaw22_BiuNobody.p0_eq _ _ x0 x1 x5 h)
theorem busbarlaw22_BiuNobody.J1_eq {tb : Nat → Option Fa} (x0 x1 x5 x6 : V) (h : H) : Ji Tryz.prog tb 6 busbarlaw22_BiuNobody.an 1 [x0, x1, x5, x6] h = busbarlaw22_BiuNobody.p1 (Ei Tryz.prog tb) (Ji Tryz.prog tb 6 busbarlaw22_BiuNobody.an) x0 x1 x5 x6 h := (Ji_eq _ _ h).trans (busbarlaw22_BiuNobody.p1_eq _ _ x0 x1 x5 x6 h)
theorem busbarlaw22_BiuNobody.J2_eq {tb : Nat → Option Fa} (h : H) : Ji Tryz.prog tb 6 busbarlaw22_BiuNobody.an 2 [] h = busbarlaw22_BiuNobody.p2 (Ei Tryz.prog tb) (Ji Tryz.prog tb 6 busbarlaw22_BiuNobody.an)  h := (Ji_eq _ _ h).trans (busbarlaw22_BiuNobody.p2_eq _ _  h)
noncomputable def busbarlaw22_BiuNobody.sf : Sf := ⟨fun env J vs h => match vs with | [x0, x1] => busbarlaw22_BiuNobody.fs env J x0 x1 h | _ => none, fun env J id vs h => bif Nat.beq id 0 then (match vs with | [x0, x1, x5] => busbarlaw22_BiuNobody.p0 env J x0 x1 x5 h | _ => none) else (bif Nat.beq id 1 then (match vs with | [x0, x1, x5, x6] => busbarlaw22_BiuNobody.p1 env J x0 x1 x5 x6 h | _ => none) else (bif Nat.beq id 2 then (match vs with | [] => busbarlaw22_BiuNobody.p2 env J  h | _ => none) else (none)))⟩
theorem busbarlaw22_BiuNobody.sfok {tb : Nat → Option Fa} (ht : tb 6 = some (.plain busbarlaw22_BiuNobody.an)) : SfOk Tryz.prog tb 6 busbarlaw22_BiuNobody.sf := SfOk.plain (an := busbarlaw22_BiuNobody.an) ht (fun env J vs h r he => by
  simp only [busbarlaw22_BiuNobody.sf] at he; split at he
  · rw [busbarlaw22_BiuNobody.fe_eq]; exact he
  · cases he) (fun env J id vs h r he => by
  simp only [busbarlaw22_BiuNobody.sf] at he
  cases hb : Nat.beq id 0
  case true =>
    rw [hb] at he; rw [Nat.eq_of_beq_eq_true hb]; simp only [cond_true] at he; split at he
    · rw [busbarlaw22_BiuNobody.p0_eq]; exact he
    · cases he
  rw [hb] at he; simp only [cond_false] at he; clear hb
  cases hb : Nat.beq id 1
  case true =>
    rw [hb] at he; rw [Nat.eq_of_beq_eq_true hb]; simp only [cond_true] at he; split at he
    · rw [busbarlaw22_BiuNobody.p1_eq]; exact he
    · cases he
  rw [hb] at he; simp only [cond_false] at he; clear hb
  cases hb : Nat.beq id 2
  case true =>
    rw [hb] at he; rw [Nat.eq_of_beq_eq_true hb]; simp only [cond_true] at he; split at he
    · rw [busbarlaw22_BiuNobody.p2_eq]; exact he
    · cases he
  rw [hb] at he; simp only [cond_false] at he; clear hb
  cases he)
/- 14 busbar/valid.Check -/
noncomputable def valid_Check.c3 (env : Env) (J : JT) (x1 x2 x15 : V) (h : H) : Ans :=
 J 0 [x1, x2, x15] h
noncomputable def valid_Check.c2 (env : Env) (J : JT) (x1 x2 : V) (h : H) : Ans :=
 valid_Check.c3 env J x1 x2 (.int .i64 0) h
noncomputable def valid_Check.c1 (env : Env) (J : JT) (x1 x2 x13 : V) (h : H) : Ans :=
 cnd x13 (
 bnd (build (zeroV Tryz.prog 30) [(0, (.int .i64 0)), (1, (.int .i64 (-1))), (2, (.int .i64 2))]) fun t14_18 =>
 bnd (st (some 29) h x2 t14_18) fun h_19 =>
 bnd (ld (some 29) h_19 x2) fun r_20 =>
 some (r_20, h_19)) (
 valid_Check.c2 env J x1 x2 h)
noncomputable def valid_Check.c0 (env : Env) (J : JT) (x1 x2 : V) (h : H) : Ans :=
 bnd (fieldA (some (some 24, none)) x1 0) fun t6_5 =>
 bnd (ld none h t6_5) fun t7_6 =>
 bnd (bin .lss t7_6 (.int .i64 2)) fun t8_7 =>
 bnd2 (gd t8_7 false (bnd (fieldA (some (some 24, none)) x1 0) fun t10_8 =>
 some (t10_8, h)) h) fun t10_9 h_10 =>
 bnd2 (gd t8_7 false (bnd (ld none h_10 t10_9) fun t11_11 =>
 some (t11_11, h_10)) h_10) fun t11_12 h_13 =>
 bnd2 (gd t8_7 false (bnd (bin .gtr t11_12 (.int .i64 16)) fun t12_14 =>
 some (t12_14, h_13)) h_13) fun t12_15 h_16 =>
 bnd (pick t8_7 (.bool true) t12_15) fun t13_17 =>
 valid_Check.c1 env J x1 x2 t13_17 h_16
noncomputable def valid_Check.fs (env : Env) (J : JT) (x0 : V) (h : H) : Ans :=
 bnd2 (box (some (some 24)) h x0) fun t1_1 h_2 =>
 bnd2 (al (some (some 29)) (zeroV Tryz.prog 30) h_2) fun t2_3 h_4 =>
 valid_Check.c0 env J t1_1 t2_3 h_4
theorem valid_Check.fe_eq (env : Env) (J : JT) (x0 : V) (h : H) : evF Tryz.prog env J 14 valid_Check.an [x0] h = valid_Check.fs env J x0 h := by kernel_rfl
noncomputable def valid_Check.c8 (env : Env) (J : JT) (x1 x2 x3 x4 x5 x15 x25 : V) (h : H) : Ans :=
 cnd x25 (
 bnd (build (zeroV Tryz.prog 30) [(0, x3), (1, x4), (2, x5)]) fun t29_28 =>
 bnd (st (some 29) h x2 t29_28) fun h_29 =>
 bnd (ld (some 29) h_29 x2) fun r_30 =>
 some (r_30, h_29)) (
 bnd (bin .add x15 (.int .i64 1)) fun t30_31 =>
 J 0 [x1, x2, t30_31] h)
noncomputable def valid_Check.c7 (env : Env) (J : JT) (x1 x2 x3 x4 x5 x15 : V) (h : H) : Ans :=
 bnd (binE true .int x5 (.int .i64 0)) fun t25_27 =>
 valid_Check.c8 env J x1 x2 x3 x4 x5 x15 t25_27 h
noncomputable def valid_Check.c6 (env : Env) (J : JT) (x1 x2 x3 x15 : V) (h : H) : Ans :=
 bnd (ld (some 24) h x1) fun t19_22 =>
 bnd2 (env 76 [t19_22, x3] h) fun t21_23 h_24 =>
 bnd (ext t21_23 0) fun t22_25 =>
 bnd (ext t21_23 1) fun t23_26 =>
 valid_Check.c7 env J x1 x2 x3 t22_25 t23_26 x15 h_24
noncomputable def valid_Check.c5 (env : Env) (J : JT) (x1 x2 x15 : V) (h : H) : Ans :=
 valid_Check.c6 env J x1 x2 x15 x15 h
noncomputable def valid_Check.c4 (env : Env) (J : JT) (x1 x2 x15 x16 : V) (h : H) : Ans :=
 cnd x16 (
 valid_Check.c5 env J x1 x2 x15 h) (
 bnd (build (zeroV Tryz.prog 30) []) fun t31_32 =>
 bnd (st (some 29) h x2 t31_32) fun h_33 =>
 bnd (ld (some 29) h_33 x2) fun r_34 =>
 some (r_34, h_33))
noncomputable def valid_Check.p0 (env : Env) (J : JT) (x1 x2 x15 : V) (h : H) : Ans :=
 bnd (bin .lss x15 (.int .i64 2)) fun t16_21 =>
 valid_Check.c4 env J x1 x2 x15 t16_21 h
theorem valid_Check.p0_eq (env : Env) (J : JT) (x1 x2 x15 : V) (h : H) : evP Tryz.prog env J 14 valid_Check.an 0 [x1, x2, x15] h = valid_Check.p0 env J x1 x2 x15 h := by kernel_rfl
theorem valid_Check.eq {tb : Nat → Option Fa} (ht : tb 14 = some (.plain valid_Check.an)) (x0 : V) (h : H) : Ei Tryz.prog tb 14 [x0] h = valid_Check.fs (Ei Tryz.prog tb) (Ji Tryz.prog tb 14 valid_Check.an) x0 h := (Ei_eq (an := valid_Check.an) ht _ h).trans (valid_Check.fe_eq _ _ x0 h)
theorem valid_Check.J0_eq {tb : Nat → Option Fa} (x1 x2 x15 : V) (h : H) : Ji Tryz.prog tb 14 valid_Check.an 0 [x1, x2, x15] h = valid_Check.p0 (Ei Tryz.prog tb) (Ji Tryz.prog tb 14 valid_Check.an) x1 x2 x15 h := (Ji_eq _ _ h).trans (valid_Check.p0_eq _ _ x1 x2 x15 h)
noncomputable def valid_Check.sf : Sf := ⟨fun env J vs h => match vs with | [x0] => valid_Check.fs env J x0 h | _ => none, fun env J id vs h => bif Nat.beq id 0 then (match vs with | [x1, x2, x15] => valid_Check.p0 env J x1 x2 x15 h | _ => none) else (none)⟩
theorem valid_Check.sfok {tb : Nat → Option Fa} (ht : tb 14 = some (.plain valid_Check.an)) : SfOk Tryz.prog tb 14 valid_Check.sf := SfOk.plain (an := valid_Check.an) ht (fun env J vs h r he => by
  simp only [valid_Check.sf] at he; split at he
  · rw [valid_Check.fe_eq]; exact he
  · cases he) (fun env J id vs h r he => by
  simp only [valid_Check.sf] at he
  cases hb : Nat.beq id 0
  case true =>
    rw [hb] at he; rw [Nat.eq_of_beq_eq_true hb]; simp only [cond_true] at he; split at he
    · rw [valid_Check.p0_eq]; exact he
    · cases he
  rw [hb] at he; simp only [cond_false] at he; clear hb
  cases he)
/- 15 busbar/busbarlaw22.one -/
noncomputable def busbarlaw22_one.c3 (env : Env) (J : JT) (x1 x3 : V) (h : H) : Ans :=
 J 0 [x1, x3] h
noncomputable def busbarlaw22_one.c2 (env : Env) (J : JT) (x1 : V) (h : H) : Ans :=
 busbarlaw22_one.c3 env J x1 (.int .i64 0) h
noncomputable def busbarlaw22_one.c1 (env : Env) (J : JT) (x1 x2 : V) (h : H) : Ans :=
 bnd (binE true .int x2 (.int .i64 0)) fun t13_9 =>
 bnd2 (gd t13_9 false (some (x1, h)) h) fun t15_10 h_11 =>
 bnd2 (gd t13_9 false (bnd2 (env 20 [t15_10] h_11) fun t16_12 h_13 =>
 some (t16_12, h_13)) h_11) fun t16_14 h_15 =>
 bnd2 (gd t13_9 false (bnd (binE true .int t16_14 (.int .i64 0)) fun t17_16 =>
 some (t17_16, h_15)) h_15) fun t17_17 h_18 =>
 bnd (pick t13_9 (.bool true) t17_17) fun t18_19 =>
 bnd2 (gd t18_19 false (some (x1, h_18)) h_18) fun t20_20 h_21 =>
 bnd2 (gd t18_19 false (bnd2 (env 18 [t20_20, (.int .i64 0)] h_21) fun t21_22 h_23 =>
 some (t21_22, h_23)) h_21) fun t21_24 h_25 =>
 bnd2 (gd t18_19 false (bnd (binE true .int t21_24 (.int .i64 0)) fun t22_26 =>
 some (t22_26, h_25)) h_25) fun t22_27 h_28 =>
 bnd (pick t18_19 (.bool true) t22_27) fun t23_29 =>
 bnd2 (gd t23_29 false (some (x1, h_28)) h_28) fun t25_30 h_31 =>
 bnd2 (gd t23_29 false (bnd2 (env 27 [t25_30] h_31) fun t26_32 h_33 =>
 some (t26_32, h_33)) h_31) fun t26_34 h_35 =>
 bnd2 (gd t23_29 false (bnd (un .not t26_34) fun t27_36 =>
 some (t27_36, h_35)) h_35) fun t27_37 h_38 =>
 bnd (pick t23_29 (.bool true) t27_37) fun t28_39 =>
 bnd2 (gd t28_39 false (some (x1, h_38)) h_38) fun t30_40 h_41 =>
 bnd2 (gd t28_39 false (bnd2 (env 27 [t30_40] h_41) fun t31_42 h_43 =>
 some (t31_42, h_43)) h_41) fun t31_44 h_45 =>
 bnd (pick t28_39 (.bool true) t31_44) fun t32_46 =>
 cnd t32_46 (
 some ((.bool false), h_45)) (
 busbarlaw22_one.c2 env J x1 h_45)
noncomputable def busbarlaw22_one.c0 (env : Env) (J : JT) (h : H) : Ans :=
 bnd2 (env 38 [] h) fun t7_1 h_2 =>
 bnd2 (env 17 [t7_1, (.int .i64 0)] h_2) fun t8_3 h_4 =>
 bnd2 (env 16 [(.bool false), t8_3, (.int .i64 0)] h_4) fun t9_5 h_6 =>
 bnd (ext t9_5 0) fun t10_7 =>
 bnd (ext t9_5 1) fun t11_8 =>
 busbarlaw22_one.c1 env J t10_7 t11_8 h_6
noncomputable def busbarlaw22_one.fs (env : Env) (J : JT) (h : H) : Ans :=
 busbarlaw22_one.c0 env J  h
theorem busbarlaw22_one.fe_eq (env : Env) (J : JT) (h : H) : evF Tryz.prog env J 15 busbarlaw22_one.an [] h = busbarlaw22_one.fs env J  h := by kernel_rfl
noncomputable def busbarlaw22_one.p0 (env : Env) (J : JT) (x1 x3 : V) (h : H) : Ans :=
 bnd (bin .lss x3 (.int .i64 60)) fun t34_47 =>
 cnd t34_47 (
 bnd2 (env 19 [x1, (.int .u8 0), (.int .u8 0), (.int .i64 0)] h) fun t38_48 h_49 =>
 bnd (bin .add x3 (.int .i64 1)) fun t36_50 =>
 J 0 [x1, t36_50] h_49) (
 J 1 [x1] h)
theorem busbarlaw22_one.p0_eq (env : Env) (J : JT) (x1 x3 : V) (h : H) : evP Tryz.prog env J 15 busbarlaw22_one.an 0 [x1, x3] h = busbarlaw22_one.p0 env J x1 x3 h := by kernel_rfl
noncomputable def busbarlaw22_one.c4 (env : Env) (J : JT) (x1 x4 x5 : V) (h : H) : Ans :=
 bnd (binE false .int x4 (.int .i64 0)) fun t45_55 =>
 bnd2 (gd t45_55 true (some (x5, h)) h) fun t47_56 h_57 =>
 bnd2 (gd t45_55 true (bnd (binE false .int t47_56 (.int .i64 60)) fun t48_58 =>
 some (t48_58, h_57)) h_57) fun t48_59 h_60 =>
 bnd (pick t45_55 t48_59 (.bool false)) fun t49_61 =>
 bnd2 (gd t49_61 true (some (x1, h_60)) h_60) fun t51_62 h_63 =>
 bnd2 (gd t49_61 true (bnd2 (env 20 [t51_62] h_63) fun t52_64 h_65 =>
 some (t52_64, h_65)) h_63) fun t52_66 h_67 =>
 bnd2 (gd t49_61 true (bnd (binE false .int t52_66 (.int .i64 3)) fun t53_68 =>
 some (t53_68, h_67)) h_67) fun t53_69 h_70 =>
 bnd (pick t49_61 t53_69 (.bool false)) fun t54_71 =>
 bnd2 (gd t54_71 true (some (x1, h_70)) h_70) fun t56_72 h_73 =>
 bnd2 (gd t54_71 true (bnd2 (env 26 [t56_72] h_73) fun t57_74 h_75 =>
 some (t57_74, h_75)) h_73) fun t57_76 h_77 =>
 bnd2 (gd t54_71 true (bnd (fieldV (some (some 58, none)) t57_76 0) fun t58_78 =>
 some (t58_78, h_77)) h_77) fun t58_79 h_80 =>
 bnd2 (gd t54_71 true (bnd (binE false .int t58_79 (.int .i64 3)) fun t59_81 =>
 some (t59_81, h_80)) h_80) fun t59_82 h_83 =>
 bnd (pick t54_71 t59_82 (.bool false)) fun t60_84 =>
 bnd (pick t60_84 (.bool true) (.bool false)) fun t62_85 =>
 some (t62_85, h_83)
noncomputable def busbarlaw22_one.p1 (env : Env) (J : JT) (x1 : V) (h : H) : Ans :=
 bnd2 (env 23 [x1] h) fun t41_51 h_52 =>
 bnd (ext t41_51 0) fun t42_53 =>
 bnd (ext t41_51 1) fun t43_54 =>
 busbarlaw22_one.c4 env J x1 t42_53 t43_54 h_52
theorem busbarlaw22_one.p1_eq (env : Env) (J : JT) (x1 : V) (h : H) : evP Tryz.prog env J 15 busbarlaw22_one.an 1 [x1] h = busbarlaw22_one.p1 env J x1 h := by kernel_rfl
theorem busbarlaw22_one.eq {tb : Nat → Option Fa} (ht : tb 15 = some (.plain busbarlaw22_one.an)) (h : H) : Ei Tryz.prog tb 15 [] h = busbarlaw22_one.fs (Ei Tryz.prog tb) (Ji Tryz.prog tb 15 busbarlaw22_one.an)  h := (Ei_eq (an := busbarlaw22_one.an) ht _ h).trans (busbarlaw22_one.fe_eq _ _  h)
theorem busbarlaw22_one.J0_eq {tb : Nat → Option Fa} (x1 x3 : V) (h : H) : Ji Tryz.prog tb 15 busbarlaw22_one.an 0 [x1, x3] h = busbarlaw22_one.p0 (Ei Tryz.prog tb) (Ji Tryz.prog tb 15 busbarlaw22_one.an) x1 x3 h := (Ji_eq _ _ h).trans (busbarlaw22_one.p0_eq _ _ x1 x3 h)
theorem busbarlaw22_one.J1_eq {tb : Nat → Option Fa} (x1 : V) (h : H) : Ji Tryz.prog tb 15 busbarlaw22_one.an 1 [x1] h = busbarlaw22_one.p1 (Ei Tryz.prog tb) (Ji Tryz.prog tb 15 busbarlaw22_one.an) x1 h := (Ji_eq _ _ h).trans (busbarlaw22_one.p1_eq _ _ x1 h)
noncomputable def busbarlaw22_one.sf : Sf := ⟨fun env J vs h => match vs with | [] => busbarlaw22_one.fs env J  h | _ => none, fun env J id vs h => bif Nat.beq id 0 then (match vs with | [x1, x3] => busbarlaw22_one.p0 env J x1 x3 h | _ => none) else (bif Nat.beq id 1 then (match vs with | [x1] => busbarlaw22_one.p1 env J x1 h | _ => none) else (none))⟩
theorem busbarlaw22_one.sfok {tb : Nat → Option Fa} (ht : tb 15 = some (.plain busbarlaw22_one.an)) : SfOk Tryz.prog tb 15 busbarlaw22_one.sf := SfOk.plain (an := busbarlaw22_one.an) ht (fun env J vs h r he => by
  simp only [busbarlaw22_one.sf] at he; split at he
  · rw [busbarlaw22_one.fe_eq]; exact he
  · cases he) (fun env J id vs h r he => by
  simp only [busbarlaw22_one.sf] at he
  cases hb : Nat.beq id 0
  case true =>
    rw [hb] at he; rw [Nat.eq_of_beq_eq_true hb]; simp only [cond_true] at he; split at he
    · rw [busbarlaw22_one.p0_eq]; exact he
    · cases he
  rw [hb] at he; simp only [cond_false] at he; clear hb
  cases hb : Nat.beq id 1
  case true =>
    rw [hb] at he; rw [Nat.eq_of_beq_eq_true hb]; simp only [cond_true] at he; split at he
    · rw [busbarlaw22_one.p1_eq]; exact he
    · cases he
  rw [hb] at he; simp only [cond_false] at he; clear hb
  cases he)
/- 16 busbar/biu.New -/
noncomputable def biu_New.c3 (env : Env) (J : JT) (x0 x4 x8 : V) (h : H) : Ans :=
 bnd (ld (some 38) h x4) fun t31_29 =>
 bnd2 (env 78 [] h) fun t33_30 h_31 =>
 bnd (ld (some 38) h_31 x4) fun t31_35 =>
 chkS t31_35 t31_29 (
 bnd (build (zeroV Tryz.prog 85) [(0, (.bool true)), (1, x0), (2, t31_29), (3, x8), (4, t33_30)]) fun t34_32 =>
 bnd2 (box (some (some 84)) h_31 t34_32) fun t35_33 h_34 =>
 retV h_34 [t35_33,(.int .i64 0)])
noncomputable def biu_New.c2 (env : Env) (J : JT) (x0 x4 x8 : V) (h : H) : Ans :=
 bnd (fieldA (some (some 38, (some 37))) x4 1) fun t18_8 =>
 bnd (indexA (.arr (some 37) 2 none) t18_8 (.int .i64 0)) fun t19_9 =>
 bnd (ld none h t19_9) fun t20_10 =>
 bnd (lenV .slc h t20_10) fun t21_11 =>
 bnd (binE false .int t21_11 (.int .i64 0)) fun t22_12 =>
 bnd2 (gd t22_12 false (bnd (fieldA (some (some 38, (some 37))) x4 1) fun t24_13 =>
 some (t24_13, h)) h) fun t24_14 h_15 =>
 bnd2 (gd t22_12 false (bnd (indexA (.arr (some 37) 2 none) t24_14 (.int .i64 1)) fun t25_16 =>
 some (t25_16, h_15)) h_15) fun t25_17 h_18 =>
 bnd2 (gd t22_12 false (bnd (ld none h_18 t25_17) fun t26_19 =>
 some (t26_19, h_18)) h_18) fun t26_20 h_21 =>
 bnd2 (gd t22_12 false (bnd (lenV .slc h_21 t26_20) fun t27_22 =>
 some (t27_22, h_21)) h_21) fun t27_23 h_24 =>
 bnd2 (gd t22_12 false (bnd (binE false .int t27_23 (.int .i64 0)) fun t28_25 =>
 some (t28_25, h_24)) h_24) fun t28_26 h_27 =>
 bnd (pick t22_12 (.bool true) t28_26) fun t29_28 =>
 cnd t29_28 (
 retV h_27 [.nilp,(.int .i64 2)]) (
 biu_New.c3 env J x0 x4 x8 h_27)
noncomputable def biu_New.c1 (env : Env) (J : JT) (x0 x4 x8 x9 : V) (h : H) : Ans :=
 bnd (binE true .int x9 (.int .i64 0)) fun t16_7 =>
 cnd t16_7 (
 retV h [.nilp,x9]) (
 biu_New.c2 env J x0 x4 x8 h)
noncomputable def biu_New.c0 (env : Env) (J : JT) (x0 x2 x4 : V) (h : H) : Ans :=
 bnd2 (env 77 [x2] h) fun t12_3 h_4 =>
 bnd (ext t12_3 0) fun t13_5 =>
 bnd (ext t12_3 1) fun t14_6 =>
 biu_New.c1 env J x0 x4 t13_5 t14_6 h_4
noncomputable def biu_New.fs (env : Env) (J : JT) (x0 x1 x2 : V) (h : H) : Ans :=
 bnd2 (box (some (some 38)) h x1) fun t4_1 h_2 =>
 biu_New.c0 env J x0 x2 t4_1 h_2
theorem biu_New.fe_eq (env : Env) (J : JT) (x0 x1 x2 : V) (h : H) : evF Tryz.prog env J 16 biu_New.an [x0, x1, x2] h = biu_New.fs env J x0 x1 x2 h := by kernel_rfl
theorem biu_New.eq {tb : Nat → Option Fa} (ht : tb 16 = some (.plain biu_New.an)) (x0 x1 x2 : V) (h : H) : Ei Tryz.prog tb 16 [x0, x1, x2] h = biu_New.fs (Ei Tryz.prog tb) (Ji Tryz.prog tb 16 biu_New.an) x0 x1 x2 h := (Ei_eq (an := biu_New.an) ht _ h).trans (biu_New.fe_eq _ _ x0 x1 x2 h)
noncomputable def biu_New.sf : Sf := ⟨fun env J vs h => match vs with | [x0, x1, x2] => biu_New.fs env J x0 x1 x2 h | _ => none, fun env J id vs h => none⟩
theorem biu_New.sfok {tb : Nat → Option Fa} (ht : tb 16 = some (.plain biu_New.an)) : SfOk Tryz.prog tb 16 biu_New.sf := SfOk.plain (an := biu_New.an) ht (fun env J vs h r he => by
  simp only [biu_New.sf] at he; split at he
  · rw [biu_New.fe_eq]; exact he
  · cases he) (fun env J id vs h r he => by simp only [biu_New.sf] at he; cases he)
/- 17 busbar/busbarlaw22.Program -/
noncomputable def busbarlaw22_Program.c2 (env : Env) (J : JT) (x4 x7 : V) (h : H) : Ans :=
 bnd2 (env 56 [x7] h) fun t24_18 h_19 =>
 bnd (ext t24_18 0) fun t25_20 =>
 bnd (ext t24_18 1) fun t26_21 =>
 bnd2 (al (some (some 38)) (zeroV Tryz.prog 39) h_19) fun t9_22 h_23 =>
 bnd (st (some 38) h_23 t9_22 t25_20) fun h_24 =>
 bnd (ld (some 38) h_24 t9_22) fun t27_25 =>
 bnd (st (some 38) h_24 x4 t27_25) fun h_26 =>
 bnd (ld (some 38) h_26 x4) fun r_27 =>
 some (r_27, h_26)
noncomputable def busbarlaw22_Program.c1 (env : Env) (J : JT) (x4 x5 : V) (h : H) : Ans :=
 bnd (ld (some 137) h x5) fun t18_13 =>
 bnd2 (env 80 [t18_13] h) fun t19_14 h_15 =>
 bnd (ext t19_14 0) fun t20_16 =>
 bnd (ext t19_14 1) fun t21_17 =>
 busbarlaw22_Program.c2 env J x4 t20_16 h_15
noncomputable def busbarlaw22_Program.c0 (env : Env) (J : JT) (x1 x2 x4 : V) (h : H) : Ans :=
 bnd (ld (some 24) h x2) fun t12_5 =>
 bnd2 (env 79 [t12_5, x1] h) fun t14_6 h_7 =>
 bnd (ext t14_6 0) fun t15_8 =>
 bnd (ext t14_6 1) fun t16_9 =>
 bnd2 (al (some (some 137)) (zeroV Tryz.prog 138) h_7) fun t5_10 h_11 =>
 bnd (st (some 137) h_11 t5_10 t15_8) fun h_12 =>
 busbarlaw22_Program.c1 env J x4 t5_10 h_12
noncomputable def busbarlaw22_Program.fs (env : Env) (J : JT) (x0 x1 : V) (h : H) : Ans :=
 bnd2 (box (some (some 24)) h x0) fun t2_1 h_2 =>
 bnd2 (al (some (some 38)) (zeroV Tryz.prog 39) h_2) fun t4_3 h_4 =>
 busbarlaw22_Program.c0 env J x1 t2_1 t4_3 h_4
theorem busbarlaw22_Program.fe_eq (env : Env) (J : JT) (x0 x1 : V) (h : H) : evF Tryz.prog env J 17 busbarlaw22_Program.an [x0, x1] h = busbarlaw22_Program.fs env J x0 x1 h := by kernel_rfl
theorem busbarlaw22_Program.eq {tb : Nat → Option Fa} (ht : tb 17 = some (.plain busbarlaw22_Program.an)) (x0 x1 : V) (h : H) : Ei Tryz.prog tb 17 [x0, x1] h = busbarlaw22_Program.fs (Ei Tryz.prog tb) (Ji Tryz.prog tb 17 busbarlaw22_Program.an) x0 x1 h := (Ei_eq (an := busbarlaw22_Program.an) ht _ h).trans (busbarlaw22_Program.fe_eq _ _ x0 x1 h)
noncomputable def busbarlaw22_Program.sf : Sf := ⟨fun env J vs h => match vs with | [x0, x1] => busbarlaw22_Program.fs env J x0 x1 h | _ => none, fun env J id vs h => none⟩
theorem busbarlaw22_Program.sfok {tb : Nat → Option Fa} (ht : tb 17 = some (.plain busbarlaw22_Program.an)) : SfOk Tryz.prog tb 17 busbarlaw22_Program.sf := SfOk.plain (an := busbarlaw22_Program.an) ht (fun env J vs h r he => by
  simp only [busbarlaw22_Program.sf] at he; split at he
  · rw [busbarlaw22_Program.fe_eq]; exact he
  · cases he) (fun env J id vs h r he => by simp only [busbarlaw22_Program.sf] at he; cases he)
/- 18 (*busbar/biu.Biu).Join -/
noncomputable def biu_Biu_Join.c3 (env : Env) (J : JT) (x0 x1 : V) (h : H) : Ans :=
 bnd (nilChk x0) fun t18_12 =>
 bnd (fieldA (some (some 84, none)) t18_12 6) fun t19_13 =>
 bnd (st none h t19_13 (.int .i64 3)) fun h_14 =>
 bnd2 (env 83 [x0, x1, (.int .i64 0)] h_14) fun t22_15 h_16 =>
 some (t22_15, h_16)
noncomputable def biu_Biu_Join.c2 (env : Env) (J : JT) (x0 x1 : V) (h : H) : Ans :=
 bnd2 (env 82 [x0] h) fun t16_10 h_11 =>
 biu_Biu_Join.c3 env J x0 x1 h_11
noncomputable def biu_Biu_Join.c1 (env : Env) (J : JT) (x0 x1 x5 : V) (h : H) : Ans :=
 cnd x5 (
 some ((.int .i64 1), h)) (
 bnd (bin .lss x1 (.int .i64 0)) fun t10_3 =>
 bnd2 (gd t10_3 false (some (x1, h)) h) fun t12_4 h_5 =>
 bnd2 (gd t10_3 false (bnd (bin .geq t12_4 (.int .i64 2)) fun t13_6 =>
 some (t13_6, h_5)) h_5) fun t13_7 h_8 =>
 bnd (pick t10_3 (.bool true) t13_7) fun t14_9 =>
 cnd t14_9 (
 some ((.int .i64 2), h_8)) (
 biu_Biu_Join.c2 env J x0 x1 h_8))
noncomputable def biu_Biu_Join.c0 (env : Env) (J : JT) (x0 x1 : V) (h : H) : Ans :=
 bnd2 (env 81 [x0] h) fun t7_1 h_2 =>
 biu_Biu_Join.c1 env J x0 x1 t7_1 h_2
noncomputable def biu_Biu_Join.fs (env : Env) (J : JT) (x0 x1 : V) (h : H) : Ans :=
 biu_Biu_Join.c0 env J x0 x1 h
theorem biu_Biu_Join.fe_eq (env : Env) (J : JT) (x0 x1 : V) (h : H) : evF Tryz.prog env J 18 biu_Biu_Join.an [x0, x1] h = biu_Biu_Join.fs env J x0 x1 h := by kernel_rfl
theorem biu_Biu_Join.eq {tb : Nat → Option Fa} (ht : tb 18 = some (.plain biu_Biu_Join.an)) (x0 x1 : V) (h : H) : Ei Tryz.prog tb 18 [x0, x1] h = biu_Biu_Join.fs (Ei Tryz.prog tb) (Ji Tryz.prog tb 18 biu_Biu_Join.an) x0 x1 h := (Ei_eq (an := biu_Biu_Join.an) ht _ h).trans (biu_Biu_Join.fe_eq _ _ x0 x1 h)
noncomputable def biu_Biu_Join.sf : Sf := ⟨fun env J vs h => match vs with | [x0, x1] => biu_Biu_Join.fs env J x0 x1 h | _ => none, fun env J id vs h => none⟩
theorem biu_Biu_Join.sfok {tb : Nat → Option Fa} (ht : tb 18 = some (.plain biu_Biu_Join.an)) : SfOk Tryz.prog tb 18 biu_Biu_Join.sf := SfOk.plain (an := biu_Biu_Join.an) ht (fun env J vs h r he => by
  simp only [biu_Biu_Join.sf] at he; split at he
  · rw [biu_Biu_Join.fe_eq]; exact he
  · cases he) (fun env J id vs h r he => by simp only [biu_Biu_Join.sf] at he; cases he)
/- 19 (*busbar/biu.Biu).Step -/
noncomputable def biu_Biu_Step.sf (pl : Nat → Bool) : Sf := ⟨fun env _ vs h => evD Tryz.prog env pl (ressOf Tryz.prog 19) biu_Biu_Step.ar biu_Biu_Step.as (bodyOf Tryz.prog 19) (initFr vs) h, fun _ _ _ _ _ => none⟩
theorem biu_Biu_Step.sfok {tb : Nat → Option Fa} (ht : tb 19 = some (.dfr biu_Biu_Step.as biu_Biu_Step.ar)) : SfOk Tryz.prog tb 19 (biu_Biu_Step.sf (plainF tb)) := @SfOk.dfr Tryz.prog tb 19 biu_Biu_Step.as biu_Biu_Step.ar _ ht fun env J vs h r he => he
/- 20 (*busbar/biu.Biu).State -/
noncomputable def biu_Biu_State.c1 (env : Env) (J : JT) (x0 : V) (h : H) : Ans :=
 bnd (nilChk x0) fun t6_3 =>
 bnd (fieldA (some (some 84, none)) t6_3 6) fun t7_4 =>
 bnd (ld none h t7_4) fun t8_5 =>
 some (t8_5, h)
noncomputable def biu_Biu_State.c0 (env : Env) (J : JT) (x0 : V) (h : H) : Ans :=
 bnd2 (env 81 [x0] h) fun t4_1 h_2 =>
 cnd t4_1 (
 some ((.int .i64 0), h_2)) (
 biu_Biu_State.c1 env J x0 h_2)
noncomputable def biu_Biu_State.fs (env : Env) (J : JT) (x0 : V) (h : H) : Ans :=
 biu_Biu_State.c0 env J x0 h
theorem biu_Biu_State.fe_eq (env : Env) (J : JT) (x0 : V) (h : H) : evF Tryz.prog env J 20 biu_Biu_State.an [x0] h = biu_Biu_State.fs env J x0 h := by kernel_rfl
theorem biu_Biu_State.eq {tb : Nat → Option Fa} (ht : tb 20 = some (.plain biu_Biu_State.an)) (x0 : V) (h : H) : Ei Tryz.prog tb 20 [x0] h = biu_Biu_State.fs (Ei Tryz.prog tb) (Ji Tryz.prog tb 20 biu_Biu_State.an) x0 h := (Ei_eq (an := biu_Biu_State.an) ht _ h).trans (biu_Biu_State.fe_eq _ _ x0 h)
noncomputable def biu_Biu_State.sf : Sf := ⟨fun env J vs h => match vs with | [x0] => biu_Biu_State.fs env J x0 h | _ => none, fun env J id vs h => none⟩
theorem biu_Biu_State.sfok {tb : Nat → Option Fa} (ht : tb 20 = some (.plain biu_Biu_State.an)) : SfOk Tryz.prog tb 20 biu_Biu_State.sf := SfOk.plain (an := biu_Biu_State.an) ht (fun env J vs h r he => by
  simp only [biu_Biu_State.sf] at he; split at he
  · rw [biu_Biu_State.fe_eq]; exact he
  · cases he) (fun env J id vs h r he => by simp only [biu_Biu_State.sf] at he; cases he)
/- 21 (*busbar/biu.Biu).Power -/
noncomputable def biu_Biu_Power.c2 (env : Env) (J : JT) (x0 x18 : V) (h : H) : Ans :=
 cnd x18 (
 bnd (nilChk x0) fun t25_16 =>
 bnd (fieldA (some (some 84, none)) t25_16 6) fun t26_17 =>
 bnd (st none h t26_17 (.int .i64 1)) fun h_18 =>
 bnd2 (env 82 [x0] h_18) fun t28_19 h_20 =>
 some (.tup [], h_20)) (
 some (.tup [], h))
noncomputable def biu_Biu_Power.c1 (env : Env) (J : JT) (x0 x7 : V) (h : H) : Ans :=
 cnd x7 (
 bnd (nilChk x0) fun t12_4 =>
 bnd (fieldA (some (some 84, none)) t12_4 6) fun t13_5 =>
 bnd (st none h t13_5 (.int .i64 0)) fun h_6 =>
 bnd (nilChk x0) fun t14_7 =>
 bnd (fieldA (some (some 84, none)) t14_7 9) fun t15_8 =>
 bnd (st none h_6 t15_8 (.bool false)) fun h_9 =>
 bnd2 (env 82 [x0] h_9) fun t17_10 h_11 =>
 some (.tup [], h_11)) (
 bnd (nilChk x0) fun t20_12 =>
 bnd (fieldA (some (some 84, none)) t20_12 6) fun t21_13 =>
 bnd (ld none h t21_13) fun t22_14 =>
 bnd (binE false .int t22_14 (.int .i64 0)) fun t23_15 =>
 biu_Biu_Power.c2 env J x0 t23_15 h)
noncomputable def biu_Biu_Power.c0 (env : Env) (J : JT) (x0 x1 x4 : V) (h : H) : Ans :=
 cnd x4 (
 some (.tup [], h)) (
 bnd (un .not x1) fun t9_3 =>
 biu_Biu_Power.c1 env J x0 t9_3 h)
noncomputable def biu_Biu_Power.fs (env : Env) (J : JT) (x0 x1 : V) (h : H) : Ans :=
 bnd2 (env 81 [x0] h) fun t6_1 h_2 =>
 biu_Biu_Power.c0 env J x0 x1 t6_1 h_2
theorem biu_Biu_Power.fe_eq (env : Env) (J : JT) (x0 x1 : V) (h : H) : evF Tryz.prog env J 21 biu_Biu_Power.an [x0, x1] h = biu_Biu_Power.fs env J x0 x1 h := by kernel_rfl
theorem biu_Biu_Power.eq {tb : Nat → Option Fa} (ht : tb 21 = some (.plain biu_Biu_Power.an)) (x0 x1 : V) (h : H) : Ei Tryz.prog tb 21 [x0, x1] h = biu_Biu_Power.fs (Ei Tryz.prog tb) (Ji Tryz.prog tb 21 biu_Biu_Power.an) x0 x1 h := (Ei_eq (an := biu_Biu_Power.an) ht _ h).trans (biu_Biu_Power.fe_eq _ _ x0 x1 h)
noncomputable def biu_Biu_Power.sf : Sf := ⟨fun env J vs h => match vs with | [x0, x1] => biu_Biu_Power.fs env J x0 x1 h | _ => none, fun env J id vs h => none⟩
theorem biu_Biu_Power.sfok {tb : Nat → Option Fa} (ht : tb 21 = some (.plain biu_Biu_Power.an)) : SfOk Tryz.prog tb 21 biu_Biu_Power.sf := SfOk.plain (an := biu_Biu_Power.an) ht (fun env J vs h r he => by
  simp only [biu_Biu_Power.sf] at he; split at he
  · rw [biu_Biu_Power.fe_eq]; exact he
  · cases he) (fun env J id vs h r he => by simp only [biu_Biu_Power.sf] at he; cases he)
/- 22 (*busbar/biu.Biu).Intent -/
noncomputable def biu_Biu_Intent.c2 (env : Env) (J : JT) (x0 x5 : V) (h : H) : Ans :=
 bnd (nilChk x0) fun t17_8 =>
 bnd (fieldA (some (some 84, (some 80))) t17_8 10) fun t18_9 =>
 bnd (fieldA (some (some 80, (some 64))) t18_9 0) fun t19_10 =>
 bnd (ld (some 64) h t19_10) fun t20_11 =>
 bnd (nilChk x0) fun t22_12 =>
 bnd (fieldA (some (some 84, none)) t22_12 1) fun t23_13 =>
 bnd (ld none h t23_13) fun t24_14 =>
 bnd (nilChk x0) fun t30_15 =>
 bnd (fieldA (some (some 84, (some 80))) t30_15 10) fun t31_16 =>
 bnd (fieldA (some (some 80, (some 64))) t31_16 0) fun t32_17 =>
 bnd (ld (some 64) h t32_17) fun t33_18 =>
 bnd2 (env 26 [x0] h) fun t15_19 h_20 =>
 bnd (ld (some 64) h_20 t19_10) fun t20_31 =>
 chkS t20_31 t20_11 (
 bnd (ld none h_20 t23_13) fun t24_30 =>
 chkS t24_30 t24_14 (
 bnd (ld (some 64) h_20 t32_17) fun t33_29 =>
 chkS t33_29 t33_18 (
 bnd2 (env 93 [t15_19, t20_11, t24_14, x5] h_20) fun t26_21 h_22 =>
 bnd (ld (some 64) h_22 t32_17) fun t33_28 =>
 chkS t33_28 t33_18 (
 bnd2 (env 26 [x0] h_22) fun t28_23 h_24 =>
 bnd (ld (some 64) h_24 t32_17) fun t33_27 =>
 chkS t33_27 t33_18 (
 bnd2 (env 94 [t28_23, t33_18, x5] h_24) fun t35_25 h_26 =>
 retV h_26 [t26_21,t35_25])))))
noncomputable def biu_Biu_Intent.c1 (env : Env) (J : JT) (x0 : V) (h : H) : Ans :=
 bnd2 (env 23 [x0] h) fun t11_4 h_5 =>
 bnd (ext t11_4 0) fun t12_6 =>
 bnd (ext t11_4 1) fun t13_7 =>
 biu_Biu_Intent.c2 env J x0 t13_7 h_5
noncomputable def biu_Biu_Intent.c0 (env : Env) (J : JT) (x0 : V) (h : H) : Ans :=
 bnd2 (env 20 [x0] h) fun t7_1 h_2 =>
 bnd (binE true .int t7_1 (.int .i64 3)) fun t8_3 =>
 cnd t8_3 (
 retV h_2 [(.int .u8 0),(.bool false)]) (
 biu_Biu_Intent.c1 env J x0 h_2)
noncomputable def biu_Biu_Intent.fs (env : Env) (J : JT) (x0 : V) (h : H) : Ans :=
 biu_Biu_Intent.c0 env J x0 h
theorem biu_Biu_Intent.fe_eq (env : Env) (J : JT) (x0 : V) (h : H) : evF Tryz.prog env J 22 biu_Biu_Intent.an [x0] h = biu_Biu_Intent.fs env J x0 h := by kernel_rfl
theorem biu_Biu_Intent.eq {tb : Nat → Option Fa} (ht : tb 22 = some (.plain biu_Biu_Intent.an)) (x0 : V) (h : H) : Ei Tryz.prog tb 22 [x0] h = biu_Biu_Intent.fs (Ei Tryz.prog tb) (Ji Tryz.prog tb 22 biu_Biu_Intent.an) x0 h := (Ei_eq (an := biu_Biu_Intent.an) ht _ h).trans (biu_Biu_Intent.fe_eq _ _ x0 h)
noncomputable def biu_Biu_Intent.sf : Sf := ⟨fun env J vs h => match vs with | [x0] => biu_Biu_Intent.fs env J x0 h | _ => none, fun env J id vs h => none⟩
theorem biu_Biu_Intent.sfok {tb : Nat → Option Fa} (ht : tb 22 = some (.plain biu_Biu_Intent.an)) : SfOk Tryz.prog tb 22 biu_Biu_Intent.sf := SfOk.plain (an := biu_Biu_Intent.an) ht (fun env J vs h r he => by
  simp only [biu_Biu_Intent.sf] at he; split at he
  · rw [biu_Biu_Intent.fe_eq]; exact he
  · cases he) (fun env J id vs h r he => by simp only [biu_Biu_Intent.sf] at he; cases he)
/- 23 (*busbar/biu.Biu).Place -/
noncomputable def biu_Biu_Place.c1 (env : Env) (J : JT) (x0 : V) (h : H) : Ans :=
 bnd (nilChk x0) fun t8_4 =>
 bnd (fieldA (some (some 84, none)) t8_4 8) fun t9_5 =>
 bnd (ld none h t9_5) fun t10_6 =>
 bnd (nilChk x0) fun t12_7 =>
 bnd (fieldA (some (some 84, none)) t12_7 5) fun t13_8 =>
 bnd (ld none h t13_8) fun t14_9 =>
 bnd2 (env 95 [t14_9] h) fun t15_10 h_11 =>
 bnd (ld none h_11 t9_5) fun t10_17 =>
 chkS t10_17 t10_6 (
 bnd2 (env 26 [x0] h_11) fun t17_12 h_13 =>
 bnd (ld none h_13 t9_5) fun t10_16 =>
 chkS t10_16 t10_6 (
 bnd (fieldV (some (some 58, none)) t17_12 1) fun t18_14 =>
 bnd (bin .sub t15_10 t18_14) fun t19_15 =>
 retV h_13 [t10_6,t19_15]))
noncomputable def biu_Biu_Place.c0 (env : Env) (J : JT) (x0 : V) (h : H) : Ans :=
 bnd2 (env 87 [x0] h) fun t5_1 h_2 =>
 bnd (un .not t5_1) fun t6_3 =>
 cnd t6_3 (
 retV h_2 [(.int .i64 (-1)),(.int .i64 0)]) (
 biu_Biu_Place.c1 env J x0 h_2)
noncomputable def biu_Biu_Place.fs (env : Env) (J : JT) (x0 : V) (h : H) : Ans :=
 biu_Biu_Place.c0 env J x0 h
theorem biu_Biu_Place.fe_eq (env : Env) (J : JT) (x0 : V) (h : H) : evF Tryz.prog env J 23 biu_Biu_Place.an [x0] h = biu_Biu_Place.fs env J x0 h := by kernel_rfl
theorem biu_Biu_Place.eq {tb : Nat → Option Fa} (ht : tb 23 = some (.plain biu_Biu_Place.an)) (x0 : V) (h : H) : Ei Tryz.prog tb 23 [x0] h = biu_Biu_Place.fs (Ei Tryz.prog tb) (Ji Tryz.prog tb 23 biu_Biu_Place.an) x0 h := (Ei_eq (an := biu_Biu_Place.an) ht _ h).trans (biu_Biu_Place.fe_eq _ _ x0 h)
noncomputable def biu_Biu_Place.sf : Sf := ⟨fun env J vs h => match vs with | [x0] => biu_Biu_Place.fs env J x0 h | _ => none, fun env J id vs h => none⟩
theorem biu_Biu_Place.sfok {tb : Nat → Option Fa} (ht : tb 23 = some (.plain biu_Biu_Place.an)) : SfOk Tryz.prog tb 23 biu_Biu_Place.sf := SfOk.plain (an := biu_Biu_Place.an) ht (fun env J vs h r he => by
  simp only [biu_Biu_Place.sf] at he; split at he
  · rw [biu_Biu_Place.fe_eq]; exact he
  · cases he) (fun env J id vs h r he => by simp only [biu_Biu_Place.sf] at he; cases he)
end Go.Proofs.YtbgdidfegkmafaaGreat
