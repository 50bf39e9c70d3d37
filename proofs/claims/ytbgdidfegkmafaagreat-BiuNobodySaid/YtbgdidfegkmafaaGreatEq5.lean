import Derived.Test.YtbgdidfegkmafaaGreatTb
import Derived.Test.YtbgdidfegkmafaaGreatAmD
namespace Go.Proofs.YtbgdidfegkmafaaGreat
open Go Go.AM Go.Proofs
set_option linter.unusedVariables false
set_option maxRecDepth 100000
set_option maxHeartbeats 4000000
/- 113 (*busbar/pair.Pair).none -/
noncomputable def pair_Pair_none.c0 (env : Env) (J : JT) (x0 : V) (h : H) : Ans :=
 bnd (binE false .ptr x0 .nilp) fun t4_1 =>
 bnd2 (gd t4_1 false (some (x0, h)) h) fun t6_2 h_3 =>
 bnd2 (gd t4_1 false (bnd (nilChk t6_2) fun t7_4 =>
 some (t7_4, h_3)) h_3) fun t7_5 h_6 =>
 bnd2 (gd t4_1 false (bnd (fieldA (some (some 162, (some 155))) t7_5 1) fun t8_7 =>
 some (t8_7, h_6)) h_6) fun t8_8 h_9 =>
 bnd2 (gd t4_1 false (bnd (indexA (.arr (some 155) 2 none) t8_8 (.int .i64 0)) fun t9_10 =>
 some (t9_10, h_9)) h_9) fun t9_11 h_12 =>
 bnd2 (gd t4_1 false (bnd (ld none h_12 t9_11) fun t10_13 =>
 some (t10_13, h_12)) h_12) fun t10_14 h_15 =>
 bnd2 (gd t4_1 false (bnd (binE false .ptr t10_14 .nilp) fun t11_16 =>
 some (t11_16, h_15)) h_15) fun t11_17 h_18 =>
 bnd (pick t4_1 (.bool true) t11_17) fun t12_19 =>
 bnd2 (gd t12_19 false (some (x0, h_18)) h_18) fun t14_20 h_21 =>
 bnd2 (gd t12_19 false (bnd (nilChk t14_20) fun t15_22 =>
 some (t15_22, h_21)) h_21) fun t15_23 h_24 =>
 bnd2 (gd t12_19 false (bnd (fieldA (some (some 162, (some 155))) t15_23 1) fun t16_25 =>
 some (t16_25, h_24)) h_24) fun t16_26 h_27 =>
 bnd2 (gd t12_19 false (bnd (indexA (.arr (some 155) 2 none) t16_26 (.int .i64 1)) fun t17_28 =>
 some (t17_28, h_27)) h_27) fun t17_29 h_30 =>
 bnd2 (gd t12_19 false (bnd (ld none h_30 t17_29) fun t18_31 =>
 some (t18_31, h_30)) h_30) fun t18_32 h_33 =>
 bnd2 (gd t12_19 false (bnd (binE false .ptr t18_32 .nilp) fun t19_34 =>
 some (t19_34, h_33)) h_33) fun t19_35 h_36 =>
 bnd (pick t12_19 (.bool true) t19_35) fun t20_37 =>
 some (t20_37, h_36)
noncomputable def pair_Pair_none.fs (env : Env) (J : JT) (x0 : V) (h : H) : Ans :=
 pair_Pair_none.c0 env J x0 h
theorem pair_Pair_none.fe_eq (env : Env) (J : JT) (x0 : V) (h : H) : evF Tryz.prog env J 113 pair_Pair_none.an [x0] h = pair_Pair_none.fs env J x0 h := by kernel_rfl
theorem pair_Pair_none.eq {tb : Nat → Option Fa} (ht : tb 113 = some (.plain pair_Pair_none.an)) (x0 : V) (h : H) : Ei Tryz.prog tb 113 [x0] h = pair_Pair_none.fs (Ei Tryz.prog tb) (Ji Tryz.prog tb 113 pair_Pair_none.an) x0 h := (Ei_eq (an := pair_Pair_none.an) ht _ h).trans (pair_Pair_none.fe_eq _ _ x0 h)
noncomputable def pair_Pair_none.sf : Sf := ⟨fun env J vs h => match vs with | [x0] => pair_Pair_none.fs env J x0 h | _ => none, fun env J id vs h => none⟩
theorem pair_Pair_none.sfok {tb : Nat → Option Fa} (ht : tb 113 = some (.plain pair_Pair_none.an)) : SfOk Tryz.prog tb 113 pair_Pair_none.sf := SfOk.plain (an := pair_Pair_none.an) ht (fun env J vs h r he => by
  simp only [pair_Pair_none.sf] at he; split at he
  · rw [pair_Pair_none.fe_eq]; exact he
  · cases he) (fun env J id vs h r he => by simp only [pair_Pair_none.sf] at he; cases he)
/- 114 (*busbar/pair.Pair).Step$1 -/
noncomputable def pair_Pair_Step_1.c2 (env : Env) (J : JT) (x0 x1 x5 x6 x9 x10 x27 : V) (h : H) : Ans :=
 cnd x27 (
 bnd (ld none h x5) fun t28_16 =>
 bnd (ld (some 43) h x10) fun t30_17 =>
 bnd (ld none h x6) fun t31_18 =>
 bnd2 (env 115 [t28_16, x0, t30_17, t31_18] h) fun t32_19 h_20 =>
 J 0 [x1, x5, x6, x9] h_20) (
 J 0 [x1, x5, x6, x9] h)
noncomputable def pair_Pair_Step_1.c1 (env : Env) (J : JT) (x0 x1 x5 x6 x9 x10 x11 : V) (h : H) : Ans :=
 pair_Pair_Step_1.c2 env J x0 x1 x5 x6 x9 x10 x11 h
noncomputable def pair_Pair_Step_1.c0 (env : Env) (J : JT) (x0 x1 x2 x3 x4 x5 x6 x9 : V) (h : H) : Ans :=
 bnd (ld none h x2) fun t16_3 =>
 bnd (bin .sub (.int .i64 1) x0) fun t18_4 =>
 bnd (indexA (.arr (some 161) 2 none) x3 t18_4) fun t19_5 =>
 bnd (ld none h t19_5) fun t20_6 =>
 bnd (indexA (.arr (some 68) 2 none) x4 x0) fun t22_7 =>
 bnd (ld none h t22_7) fun t23_8 =>
 bnd2 (env 19 [x1, t16_3, t20_6, t23_8] h) fun t24_9 h_10 =>
 bnd (ext t24_9 0) fun t25_11 =>
 bnd (ext t24_9 1) fun t26_12 =>
 bnd2 (al (some (some 43)) (zeroV Tryz.prog 44) h_10) fun t10_13 h_14 =>
 bnd (st (some 43) h_14 t10_13 t25_11) fun h_15 =>
 pair_Pair_Step_1.c1 env J x0 x1 x5 x6 x9 t10_13 t26_12 h_15
noncomputable def pair_Pair_Step_1.fs (env : Env) (J : JT) (x0 x1 x2 x3 x4 x5 x6 : V) (h : H) : Ans :=
 bnd2 (env 20 [x1] h) fun t13_1 h_2 =>
 pair_Pair_Step_1.c0 env J x0 x1 x2 x3 x4 x5 x6 t13_1 h_2
theorem pair_Pair_Step_1.fe_eq (env : Env) (J : JT) (x0 x1 x2 x3 x4 x5 x6 : V) (h : H) : evF Tryz.prog env J 114 pair_Pair_Step_1.an [x0, x1, x2, x3, x4, x5, x6] h = pair_Pair_Step_1.fs env J x0 x1 x2 x3 x4 x5 x6 h := by kernel_rfl
noncomputable def pair_Pair_Step_1.c3 (env : Env) (J : JT) (x5 x6 x39 : V) (h : H) : Ans :=
 cnd x39 (
 bnd (ld none h x5) fun t40_32 =>
 bnd (ld none h x6) fun t41_33 =>
 bnd2 (env 116 [t40_32, (.int .i64 6), t41_33] h) fun t42_34 h_35 =>
 some (.tup [], h_35)) (
 some (.tup [], h))
noncomputable def pair_Pair_Step_1.p0 (env : Env) (J : JT) (x1 x5 x6 x9 : V) (h : H) : Ans :=
 bnd (binE true .int x9 (.int .i64 4)) fun t34_21 =>
 bnd2 (gd t34_21 true (some (x1, h)) h) fun t36_22 h_23 =>
 bnd2 (gd t34_21 true (bnd2 (env 20 [t36_22] h_23) fun t37_24 h_25 =>
 some (t37_24, h_25)) h_23) fun t37_26 h_27 =>
 bnd2 (gd t34_21 true (bnd (binE false .int t37_26 (.int .i64 4)) fun t38_28 =>
 some (t38_28, h_27)) h_27) fun t38_29 h_30 =>
 bnd (pick t34_21 t38_29 (.bool false)) fun t39_31 =>
 pair_Pair_Step_1.c3 env J x5 x6 t39_31 h_30
theorem pair_Pair_Step_1.p0_eq (env : Env) (J : JT) (x1 x5 x6 x9 : V) (h : H) : evP Tryz.prog env J 114 pair_Pair_Step_1.an 0 [x1, x5, x6, x9] h = pair_Pair_Step_1.p0 env J x1 x5 x6 x9 h := by kernel_rfl
theorem pair_Pair_Step_1.eq {tb : Nat → Option Fa} (ht : tb 114 = some (.plain pair_Pair_Step_1.an)) (x0 x1 x2 x3 x4 x5 x6 : V) (h : H) : Ei Tryz.prog tb 114 [x0, x1, x2, x3, x4, x5, x6] h = pair_Pair_Step_1.fs (Ei Tryz.prog tb) (Ji Tryz.prog tb 114 pair_Pair_Step_1.an) x0 x1 x2 x3 x4 x5 x6 h := (Ei_eq (an := pair_Pair_Step_1.an) ht _ h).trans (pair_Pair_Step_1.fe_eq _ _ x0 x1 x2 x3 x4 x5 x6 h)
theorem pair_Pair_Step_1.J0_eq {tb : Nat → Option Fa} (x1 x5 x6 x9 : V) (h : H) : Ji Tryz.prog tb 114 pair_Pair_Step_1.an 0 [x1, x5, x6, x9] h = pair_Pair_Step_1.p0 (Ei Tryz.prog tb) (Ji Tryz.prog tb 114 pair_Pair_Step_1.an) x1 x5 x6 x9 h := (Ji_eq _ _ h).trans (pair_Pair_Step_1.p0_eq _ _ x1 x5 x6 x9 h)
noncomputable def pair_Pair_Step_1.sf : Sf := ⟨fun env J vs h => match vs with | [x0, x1, x2, x3, x4, x5, x6] => pair_Pair_Step_1.fs env J x0 x1 x2 x3 x4 x5 x6 h | _ => none, fun env J id vs h => bif Nat.beq id 0 then (match vs with | [x1, x5, x6, x9] => pair_Pair_Step_1.p0 env J x1 x5 x6 x9 h | _ => none) else (none)⟩
theorem pair_Pair_Step_1.sfok {tb : Nat → Option Fa} (ht : tb 114 = some (.plain pair_Pair_Step_1.an)) : SfOk Tryz.prog tb 114 pair_Pair_Step_1.sf := SfOk.plain (an := pair_Pair_Step_1.an) ht (fun env J vs h r he => by
  simp only [pair_Pair_Step_1.sf] at he; split at he
  · rw [pair_Pair_Step_1.fe_eq]; exact he
  · cases he) (fun env J id vs h r he => by
  simp only [pair_Pair_Step_1.sf] at he
  cases hb : Nat.beq id 0
  case true =>
    rw [hb] at he; rw [Nat.eq_of_beq_eq_true hb]; simp only [cond_true] at he; split at he
    · rw [pair_Pair_Step_1.p0_eq]; exact he
    · cases he
  rw [hb] at he; simp only [cond_false] at he; clear hb
  cases he)
/- 119 busbar/image.Read -/
noncomputable def image_Read.c11 (env : Env) (J : JT) (x2 x6 x66 : V) (h : H) : Ans :=
 cnd x66 (
 bnd (build (zeroV Tryz.prog 138) []) fun t67_79 =>
 bnd (st (some 137) h x2 t67_79) fun h_80 =>
 bnd (ld (some 137) h_80 x2) fun r_81 =>
 retV h_80 [r_81,(.int .i64 11)]) (
 bnd (ld (some 137) h x6) fun t68_82 =>
 bnd (st (some 137) h x2 t68_82) fun h_83 =>
 bnd (ld (some 137) h_83 x2) fun r_84 =>
 retV h_83 [r_84,(.int .i64 0)])
noncomputable def image_Read.c10 (env : Env) (J : JT) (x2 x6 : V) (h : H) : Ans :=
 bnd (ld (some 137) h x6) fun t64_75 =>
 bnd2 (env 155 [t64_75] h) fun t65_76 h_77 =>
 bnd (un .not t65_76) fun t66_78 =>
 image_Read.c11 env J x2 x6 t66_78 h_77
noncomputable def image_Read.c9 (env : Env) (J : JT) (x0 x2 x6 : V) (h : H) : Ans :=
 bnd (fieldA (some (some 137, none)) x6 2) fun t59_70 =>
 bnd (ld none h t59_70) fun t60_71 =>
 bnd (slcV (.slc none) x0 (some (.int .i64 9)) none none) fun t62_72 =>
 bnd2 (cpy (some (5, none, 1)) h t60_71 t62_72) fun t63_73 h_74 =>
 image_Read.c10 env J x2 x6 h_74
noncomputable def image_Read.c8 (env : Env) (J : JT) (x0 x2 x4 : V) (h : H) : Ans :=
 bnd (indexA (.slc none) x0 (.int .i64 2)) fun t46_53 =>
 bnd (ld none h t46_53) fun t47_54 =>
 bnd2 (conv (.int .i64) h t47_54) fun t48_55 h_56 =>
 bnd (slcV (.slc none) x0 (some (.int .i64 3)) none none) fun t50_57 =>
 bnd (slcV (.slc none) x0 (some (.int .i64 5)) none none) fun t53_58 =>
 bnd2 (env 201 [t50_57] h_56) fun t51_59 h_60 =>
 bnd (ld none h_60 t46_53) fun t47_86 =>
 chkS t47_86 t47_54 (
 bnd2 (env 201 [t53_58] h_60) fun t54_61 h_62 =>
 bnd (ld none h_62 t46_53) fun t47_85 =>
 chkS t47_85 t47_54 (
 bnd (build (zeroV Tryz.prog 68) [(0, t51_59), (1, t54_61)]) fun t55_63 =>
 bnd2 (mslc (some (5, none, 1)) (zeroV Tryz.prog 5) x4 x4 h_62) fun t57_64 h_65 =>
 bnd (build (zeroV Tryz.prog 138) [(0, t48_55), (1, t55_63), (2, t57_64)]) fun t58_66 =>
 bnd2 (al (some (some 137)) (zeroV Tryz.prog 138) h_65) fun t6_67 h_68 =>
 bnd (st (some 137) h_68 t6_67 t58_66) fun h_69 =>
 image_Read.c9 env J x0 x2 t6_67 h_69))
noncomputable def image_Read.c7 (env : Env) (J : JT) (x0 x2 x4 x43 : V) (h : H) : Ans :=
 cnd x43 (
 bnd (build (zeroV Tryz.prog 138) []) fun t44_50 =>
 bnd (st (some 137) h x2 t44_50) fun h_51 =>
 bnd (ld (some 137) h_51 x2) fun r_52 =>
 retV h_51 [r_52,(.int .i64 12)]) (
 image_Read.c8 env J x0 x2 x4 h)
noncomputable def image_Read.c6 (env : Env) (J : JT) (x0 x2 x4 x5 : V) (h : H) : Ans :=
 bnd2 (env 201 [x5] h) fun t38_41 h_42 =>
 bnd2 (bslc (some (42, none, 24)) (zeroV Tryz.prog 42) 1 [(0, x0)] h_42) fun t40_43 h_44 =>
 bnd2 (env 157 [t40_43] h_44) fun t41_45 h_46 =>
 bnd2 (conv (.int .i64) h_46 t41_45) fun t42_47 h_48 =>
 bnd (binE true .int t38_41 t42_47) fun t43_49 =>
 image_Read.c7 env J x0 x2 x4 t43_49 h_48
noncomputable def image_Read.c5 (env : Env) (J : JT) (x0 x2 x4 : V) (h : H) : Ans :=
 bnd (lenV .slc h x0) fun t29_35 =>
 bnd (bin .sub t29_35 (.int .i64 2)) fun t30_36 =>
 bnd (slcV (.slc none) x0 none (some t30_36) none) fun t31_37 =>
 bnd (lenV .slc h x0) fun t34_38 =>
 bnd (bin .sub t34_38 (.int .i64 2)) fun t35_39 =>
 bnd (slcV (.slc none) x0 (some t35_39) none none) fun t36_40 =>
 image_Read.c6 env J t31_37 x2 x4 t36_40 h
noncomputable def image_Read.c4 (env : Env) (J : JT) (x0 x2 x4 x25 : V) (h : H) : Ans :=
 cnd x25 (
 bnd (build (zeroV Tryz.prog 138) []) fun t26_32 =>
 bnd (st (some 137) h x2 t26_32) fun h_33 =>
 bnd (ld (some 137) h_33 x2) fun r_34 =>
 retV h_33 [r_34,(.int .i64 11)]) (
 image_Read.c5 env J x0 x2 x4 h)
noncomputable def image_Read.c3 (env : Env) (J : JT) (x0 x2 x4 : V) (h : H) : Ans :=
 bnd2 (bslc (some (5, none, 1)) (zeroV Tryz.prog 5) 2 [(0, (.int .u8 84)), (1, (.int .u8 49))] h) fun t15_11 h_12 =>
 bnd2 (conv .sl2 h_12 t15_11) fun t16_13 h_14 =>
 bnd2 (env 202 [x0, t16_13] h_14) fun t17_15 h_16 =>
 bnd (un .not t17_15) fun t18_17 =>
 bnd2 (gd t18_17 false (some (x0, h_16)) h_16) fun t20_18 h_19 =>
 bnd2 (gd t18_17 false (bnd (lenV .slc h_19 t20_18) fun t21_20 =>
 some (t21_20, h_19)) h_19) fun t21_21 h_22 =>
 bnd2 (gd t18_17 false (some (x4, h_22)) h_22) fun t22_23 h_24 =>
 bnd2 (gd t18_17 false (bnd (bin .add (.int .i64 11) t22_23) fun t23_25 =>
 some (t23_25, h_24)) h_24) fun t23_26 h_27 =>
 bnd2 (gd t18_17 false (bnd (binE true .int t21_21 t23_26) fun t24_28 =>
 some (t24_28, h_27)) h_27) fun t24_29 h_30 =>
 bnd (pick t18_17 (.bool true) t24_29) fun t25_31 =>
 image_Read.c4 env J x0 x2 x4 t25_31 h_30
noncomputable def image_Read.c2 (env : Env) (J : JT) (x0 x2 : V) (h : H) : Ans :=
 bnd (slcV (.slc none) x0 (some (.int .i64 7)) none none) fun t12_8 =>
 bnd2 (env 201 [t12_8] h) fun t13_9 h_10 =>
 image_Read.c3 env J x0 x2 t13_9 h_10
noncomputable def image_Read.c1 (env : Env) (J : JT) (x0 x2 x9 : V) (h : H) : Ans :=
 cnd x9 (
 bnd (build (zeroV Tryz.prog 138) []) fun t10_5 =>
 bnd (st (some 137) h x2 t10_5) fun h_6 =>
 bnd (ld (some 137) h_6 x2) fun r_7 =>
 retV h_6 [r_7,(.int .i64 10)]) (
 image_Read.c2 env J x0 x2 h)
noncomputable def image_Read.c0 (env : Env) (J : JT) (x0 x2 : V) (h : H) : Ans :=
 bnd (lenV .slc h x0) fun t8_3 =>
 bnd (bin .lss t8_3 (.int .i64 11)) fun t9_4 =>
 image_Read.c1 env J x0 x2 t9_4 h
noncomputable def image_Read.fs (env : Env) (J : JT) (x0 : V) (h : H) : Ans :=
 bnd2 (al (some (some 137)) (zeroV Tryz.prog 138) h) fun t2_1 h_2 =>
 image_Read.c0 env J x0 t2_1 h_2
theorem image_Read.fe_eq (env : Env) (J : JT) (x0 : V) (h : H) : evF Tryz.prog env J 119 image_Read.an [x0] h = image_Read.fs env J x0 h := by kernel_rfl
theorem image_Read.eq {tb : Nat → Option Fa} (ht : tb 119 = some (.plain image_Read.an)) (x0 : V) (h : H) : Ei Tryz.prog tb 119 [x0] h = image_Read.fs (Ei Tryz.prog tb) (Ji Tryz.prog tb 119 image_Read.an) x0 h := (Ei_eq (an := image_Read.an) ht _ h).trans (image_Read.fe_eq _ _ x0 h)
noncomputable def image_Read.sf : Sf := ⟨fun env J vs h => match vs with | [x0] => image_Read.fs env J x0 h | _ => none, fun env J id vs h => none⟩
theorem image_Read.sfok {tb : Nat → Option Fa} (ht : tb 119 = some (.plain image_Read.an)) : SfOk Tryz.prog tb 119 image_Read.sf := SfOk.plain (an := image_Read.an) ht (fun env J vs h r he => by
  simp only [image_Read.sf] at he; split at he
  · rw [image_Read.fe_eq]; exact he
  · cases he) (fun env J id vs h r he => by simp only [image_Read.sf] at he; cases he)
/- 120 busbar/walk.Run -/
noncomputable def walk_Run.c5 (env : Env) (J : JT) (x1 x2 x8 : V) (h : H) : Ans :=
 bnd (ld (some 24) h x8) fun t28_21 =>
 bnd (fieldA (some (some 137, none)) x2 0) fun t30_22 =>
 bnd (ld none h t30_22) fun t31_23 =>
 bnd2 (env 204 [t28_21, x1, t31_23] h) fun t32_24 h_25 =>
 retV h_25 [t32_24,(.int .i64 0)]
noncomputable def walk_Run.c4 (env : Env) (J : JT) (x1 x2 x6 x8 : V) (h : H) : Ans :=
 bnd (fieldA (some (some 24, (some 23))) x8 1) fun t26_18 =>
 bnd (indexA (.arr (some 23) 2 none) t26_18 x1) fun t27_19 =>
 bnd (st none h t27_19 x6) fun h_20 =>
 walk_Run.c5 env J x1 x2 x8 h_20
noncomputable def walk_Run.c3 (env : Env) (J : JT) (x1 x2 x6 : V) (h : H) : Ans :=
 bnd (build (zeroV Tryz.prog 25) []) fun t23_14 =>
 bnd2 (al (some (some 24)) (zeroV Tryz.prog 25) h) fun t8_15 h_16 =>
 bnd (st (some 24) h_16 t8_15 t23_14) fun h_17 =>
 walk_Run.c4 env J x1 x2 x6 t8_15 h_17
noncomputable def walk_Run.c2 (env : Env) (J : JT) (x1 x2 x6 : V) (h : H) : Ans :=
 bnd2 (env 150 [x6, x1] h) fun t20_9 h_10 =>
 bnd2 (env 149 [t20_9] h_10) fun t21_11 h_12 =>
 bnd (bin .gtr t21_11 (.int .i64 200)) fun t22_13 =>
 cnd t22_13 (
 retV h_12 [.nils,(.int .i64 16)]) (
 walk_Run.c3 env J x1 x2 x6 h_12)
noncomputable def walk_Run.c1 (env : Env) (J : JT) (x1 x2 x6 x7 : V) (h : H) : Ans :=
 bnd (binE true .int x7 (.int .i64 0)) fun t16_8 =>
 cnd t16_8 (
 retV h [.nils,x7]) (
 walk_Run.c2 env J x1 x2 x6 h)
noncomputable def walk_Run.c0 (env : Env) (J : JT) (x1 x2 : V) (h : H) : Ans :=
 bnd (ld (some 137) h x2) fun t10_3 =>
 bnd2 (env 203 [t10_3, x1] h) fun t12_4 h_5 =>
 bnd (ext t12_4 0) fun t13_6 =>
 bnd (ext t12_4 1) fun t14_7 =>
 walk_Run.c1 env J x1 x2 t13_6 t14_7 h_5
noncomputable def walk_Run.fs (env : Env) (J : JT) (x0 x1 : V) (h : H) : Ans :=
 bnd2 (box (some (some 137)) h x0) fun t2_1 h_2 =>
 walk_Run.c0 env J x1 t2_1 h_2
theorem walk_Run.fe_eq (env : Env) (J : JT) (x0 x1 : V) (h : H) : evF Tryz.prog env J 120 walk_Run.an [x0, x1] h = walk_Run.fs env J x0 x1 h := by kernel_rfl
theorem walk_Run.eq {tb : Nat → Option Fa} (ht : tb 120 = some (.plain walk_Run.an)) (x0 x1 : V) (h : H) : Ei Tryz.prog tb 120 [x0, x1] h = walk_Run.fs (Ei Tryz.prog tb) (Ji Tryz.prog tb 120 walk_Run.an) x0 x1 h := (Ei_eq (an := walk_Run.an) ht _ h).trans (walk_Run.fe_eq _ _ x0 x1 h)
noncomputable def walk_Run.sf : Sf := ⟨fun env J vs h => match vs with | [x0, x1] => walk_Run.fs env J x0 x1 h | _ => none, fun env J id vs h => none⟩
theorem walk_Run.sfok {tb : Nat → Option Fa} (ht : tb 120 = some (.plain walk_Run.an)) : SfOk Tryz.prog tb 120 walk_Run.sf := SfOk.plain (an := walk_Run.an) ht (fun env J vs h r he => by
  simp only [walk_Run.sf] at he; split at he
  · rw [walk_Run.fe_eq]; exact he
  · cases he) (fun env J id vs h r he => by simp only [walk_Run.sf] at he; cases he)
/- 148 busbar/valid.Window -/
noncomputable def valid_Window.c3 (env : Env) (J : JT) (x2 x6 x12 : V) (h : H) : Ans :=
 cnd x12 (
 bnd (fieldA (some (some 130, none)) x2 1) fun t14_10 =>
 bnd (ld none h t14_10) fun t15_11 =>
 bnd (bin .lss t15_11 (.int .i64 1)) fun t16_12 =>
 bnd2 (gd t16_12 false (bnd (fieldA (some (some 130, none)) x2 1) fun t18_13 =>
 some (t18_13, h)) h) fun t18_14 h_15 =>
 bnd2 (gd t16_12 false (bnd (ld none h_15 t18_14) fun t19_16 =>
 some (t19_16, h_15)) h_15) fun t19_17 h_18 =>
 bnd2 (gd t16_12 false (bnd (bin .gtr t19_17 (.int .i64 100)) fun t20_19 =>
 some (t20_19, h_18)) h_18) fun t20_20 h_21 =>
 bnd (pick t16_12 (.bool true) t20_20) fun t21_22 =>
 cnd t21_22 (
 some ((.int .i64 3), h_21)) (
 some ((.int .i64 0), h_21))) (
 bnd (binE false .int x6 (.int .i64 2)) fun t23_23 =>
 cnd t23_23 (
 some ((.int .i64 0), h)) (
 some ((.int .i64 2), h)))
noncomputable def valid_Window.c2 (env : Env) (J : JT) (x1 x2 x6 x7 : V) (h : H) : Ans :=
 cnd x7 (
 bnd (ld (some 130) h x2) fun t9_6 =>
 bnd2 (env 213 [t9_6, x1] h) fun t11_7 h_8 =>
 some (t11_7, h_8)) (
 bnd (binE false .int x6 (.int .i64 1)) fun t13_9 =>
 valid_Window.c3 env J x2 x6 t13_9 h)
noncomputable def valid_Window.c1 (env : Env) (J : JT) (x1 x2 x6 : V) (h : H) : Ans :=
 bnd (binE false .int x6 (.int .i64 0)) fun t8_5 =>
 valid_Window.c2 env J x1 x2 x6 t8_5 h
noncomputable def valid_Window.c0 (env : Env) (J : JT) (x1 x2 : V) (h : H) : Ans :=
 bnd (fieldA (some (some 130, none)) x2 0) fun t5_3 =>
 bnd (ld none h t5_3) fun t6_4 =>
 valid_Window.c1 env J x1 x2 t6_4 h
noncomputable def valid_Window.fs (env : Env) (J : JT) (x0 x1 : V) (h : H) : Ans :=
 bnd2 (box (some (some 130)) h x0) fun t2_1 h_2 =>
 valid_Window.c0 env J x1 t2_1 h_2
theorem valid_Window.fe_eq (env : Env) (J : JT) (x0 x1 : V) (h : H) : evF Tryz.prog env J 148 valid_Window.an [x0, x1] h = valid_Window.fs env J x0 x1 h := by kernel_rfl
theorem valid_Window.eq {tb : Nat → Option Fa} (ht : tb 148 = some (.plain valid_Window.an)) (x0 x1 : V) (h : H) : Ei Tryz.prog tb 148 [x0, x1] h = valid_Window.fs (Ei Tryz.prog tb) (Ji Tryz.prog tb 148 valid_Window.an) x0 x1 h := (Ei_eq (an := valid_Window.an) ht _ h).trans (valid_Window.fe_eq _ _ x0 x1 h)
noncomputable def valid_Window.sf : Sf := ⟨fun env J vs h => match vs with | [x0, x1] => valid_Window.fs env J x0 x1 h | _ => none, fun env J id vs h => none⟩
theorem valid_Window.sfok {tb : Nat → Option Fa} (ht : tb 148 = some (.plain valid_Window.an)) : SfOk Tryz.prog tb 148 valid_Window.sf := SfOk.plain (an := valid_Window.an) ht (fun env J vs h r he => by
  simp only [valid_Window.sf] at he; split at he
  · rw [valid_Window.fe_eq]; exact he
  · cases he) (fun env J id vs h r he => by simp only [valid_Window.sf] at he; cases he)
/- 149 slices.Max[[]int,int] -/
noncomputable def slices_Max.c1 (env : Env) (J : JT) (x0 x7 : V) (h : H) : Ans :=
 cnd x7 (
 none) (
 J 1 [x0] h)
noncomputable def slices_Max.c0 (env : Env) (J : JT) (x0 : V) (h : H) : Ans :=
 bnd (lenV .slc h x0) fun t6_1 =>
 bnd (bin .lss t6_1 (.int .i64 1)) fun t7_2 =>
 slices_Max.c1 env J x0 t7_2 h
noncomputable def slices_Max.fs (env : Env) (J : JT) (x0 : V) (h : H) : Ans :=
 slices_Max.c0 env J x0 h
theorem slices_Max.fe_eq (env : Env) (J : JT) (x0 : V) (h : H) : evF Tryz.prog env J 149 slices_Max.an [x0] h = slices_Max.fs env J x0 h := by kernel_rfl
noncomputable def slices_Max.c3 (env : Env) (J : JT) (x0 x3 x4 : V) (h : H) : Ans :=
 J 0 [x0, x3, x4] h
noncomputable def slices_Max.c2 (env : Env) (J : JT) (x0 x3 : V) (h : H) : Ans :=
 slices_Max.c3 env J x0 x3 (.int .i64 1) h
noncomputable def slices_Max.p1 (env : Env) (J : JT) (x0 : V) (h : H) : Ans :=
 bnd (indexA (.slc none) x0 (.int .i64 0)) fun t10_3 =>
 bnd (ld none h t10_3) fun t11_4 =>
 slices_Max.c2 env J x0 t11_4 h
theorem slices_Max.p1_eq (env : Env) (J : JT) (x0 : V) (h : H) : evP Tryz.prog env J 149 slices_Max.an 1 [x0] h = slices_Max.p1 env J x0 h := by kernel_rfl
noncomputable def slices_Max.c4 (env : Env) (J : JT) (x0 x3 x4 : V) (h : H) : Ans :=
 bnd (indexA (.slc none) x0 x4) fun t21_7 =>
 bnd (ld none h t21_7) fun t22_8 =>
 bnd (mxs [x3, t22_8]) fun t23_9 =>
 bnd (bin .add x4 (.int .i64 1)) fun t17_10 =>
 J 0 [x0, t23_9, t17_10] h
noncomputable def slices_Max.p0 (env : Env) (J : JT) (x0 x3 x4 : V) (h : H) : Ans :=
 bnd (lenV .slc h x0) fun t14_5 =>
 bnd (bin .lss x4 t14_5) fun t15_6 =>
 cnd t15_6 (
 slices_Max.c4 env J x0 x3 x4 h) (
 some (x3, h))
theorem slices_Max.p0_eq (env : Env) (J : JT) (x0 x3 x4 : V) (h : H) : evP Tryz.prog env J 149 slices_Max.an 0 [x0, x3, x4] h = slices_Max.p0 env J x0 x3 x4 h := by kernel_rfl
theorem slices_Max.eq {tb : Nat → Option Fa} (ht : tb 149 = some (.plain slices_Max.an)) (x0 : V) (h : H) : Ei Tryz.prog tb 149 [x0] h = slices_Max.fs (Ei Tryz.prog tb) (Ji Tryz.prog tb 149 slices_Max.an) x0 h := (Ei_eq (an := slices_Max.an) ht _ h).trans (slices_Max.fe_eq _ _ x0 h)
theorem slices_Max.J1_eq {tb : Nat → Option Fa} (x0 : V) (h : H) : Ji Tryz.prog tb 149 slices_Max.an 1 [x0] h = slices_Max.p1 (Ei Tryz.prog tb) (Ji Tryz.prog tb 149 slices_Max.an) x0 h := (Ji_eq _ _ h).trans (slices_Max.p1_eq _ _ x0 h)
theorem slices_Max.J0_eq {tb : Nat → Option Fa} (x0 x3 x4 : V) (h : H) : Ji Tryz.prog tb 149 slices_Max.an 0 [x0, x3, x4] h = slices_Max.p0 (Ei Tryz.prog tb) (Ji Tryz.prog tb 149 slices_Max.an) x0 x3 x4 h := (Ji_eq _ _ h).trans (slices_Max.p0_eq _ _ x0 x3 x4 h)
noncomputable def slices_Max.sf : Sf := ⟨fun env J vs h => match vs with | [x0] => slices_Max.fs env J x0 h | _ => none, fun env J id vs h => bif Nat.beq id 1 then (match vs with | [x0] => slices_Max.p1 env J x0 h | _ => none) else (bif Nat.beq id 0 then (match vs with | [x0, x3, x4] => slices_Max.p0 env J x0 x3 x4 h | _ => none) else (none))⟩
theorem slices_Max.sfok {tb : Nat → Option Fa} (ht : tb 149 = some (.plain slices_Max.an)) : SfOk Tryz.prog tb 149 slices_Max.sf := SfOk.plain (an := slices_Max.an) ht (fun env J vs h r he => by
  simp only [slices_Max.sf] at he; split at he
  · rw [slices_Max.fe_eq]; exact he
  · cases he) (fun env J id vs h r he => by
  simp only [slices_Max.sf] at he
  cases hb : Nat.beq id 1
  case true =>
    rw [hb] at he; rw [Nat.eq_of_beq_eq_true hb]; simp only [cond_true] at he; split at he
    · rw [slices_Max.p1_eq]; exact he
    · cases he
  rw [hb] at he; simp only [cond_false] at he; clear hb
  cases hb : Nat.beq id 0
  case true =>
    rw [hb] at he; rw [Nat.eq_of_beq_eq_true hb]; simp only [cond_true] at he; split at he
    · rw [slices_Max.p0_eq]; exact he
    · cases he
  rw [hb] at he; simp only [cond_false] at he; clear hb
  cases he)
/- 150 busbar/valid.Spans -/
noncomputable def valid_Spans.c6 (env : Env) (J : JT) (x1 x5 x6 x7 x27 x28 x29 : V) (h : H) : Ans :=
 J 0 [x1, x5, x6, x7, x27, x28, x29] h
noncomputable def valid_Spans.c5 (env : Env) (J : JT) (x1 x5 x6 x7 : V) (h : H) : Ans :=
 bnd (ld (some 24) h x5) fun t25_15 =>
 bnd2 (env 204 [t25_15, x1, (.int .i64 (-1))] h) fun t27_16 h_17 =>
 bnd (lenV .slc h_17 t27_16) fun t28_18 =>
 valid_Spans.c6 env J x1 x5 x6 x7 t27_16 t28_18 (.int .i64 0) h_17
noncomputable def valid_Spans.c4 (env : Env) (J : JT) (x1 x5 x6 : V) (h : H) : Ans :=
 valid_Spans.c5 env J x1 x5 x6 (.int .i64 0) h
noncomputable def valid_Spans.c3 (env : Env) (J : JT) (x1 x5 : V) (h : H) : Ans :=
 valid_Spans.c4 env J x1 x5 .nils h
noncomputable def valid_Spans.c2 (env : Env) (J : JT) (x0 x1 x5 : V) (h : H) : Ans :=
 bnd (fieldA (some (some 24, (some 23))) x5 1) fun t23_12 =>
 bnd (indexA (.arr (some 23) 2 none) t23_12 x1) fun t24_13 =>
 bnd (st none h t24_13 x0) fun h_14 =>
 valid_Spans.c3 env J x1 x5 h_14
noncomputable def valid_Spans.c1 (env : Env) (J : JT) (x0 x1 x5 : V) (h : H) : Ans :=
 bnd (bin .lss x1 (.int .i64 0)) fun t16_5 =>
 bnd2 (gd t16_5 false (some (x1, h)) h) fun t18_6 h_7 =>
 bnd2 (gd t16_5 false (bnd (bin .geq t18_6 (.int .i64 2)) fun t19_8 =>
 some (t19_8, h_7)) h_7) fun t19_9 h_10 =>
 bnd (pick t16_5 (.bool true) t19_9) fun t20_11 =>
 cnd t20_11 (
 some (.nils, h_10)) (
 valid_Spans.c2 env J x0 x1 x5 h_10)
noncomputable def valid_Spans.c0 (env : Env) (J : JT) (x0 x1 : V) (h : H) : Ans :=
 bnd (build (zeroV Tryz.prog 25) []) fun t14_1 =>
 bnd2 (al (some (some 24)) (zeroV Tryz.prog 25) h) fun t5_2 h_3 =>
 bnd (st (some 24) h_3 t5_2 t14_1) fun h_4 =>
 valid_Spans.c1 env J x0 x1 t5_2 h_4
noncomputable def valid_Spans.fs (env : Env) (J : JT) (x0 x1 : V) (h : H) : Ans :=
 valid_Spans.c0 env J x0 x1 h
theorem valid_Spans.fe_eq (env : Env) (J : JT) (x0 x1 : V) (h : H) : evF Tryz.prog env J 150 valid_Spans.an [x0, x1] h = valid_Spans.fs env J x0 x1 h := by kernel_rfl
noncomputable def valid_Spans.c13 (env : Env) (J : JT) (x1 x5 x6 x9 x10 x27 x28 x29 : V) (h : H) : Ans :=
 bnd (fieldA (some (some 58, none)) x9 1) fun t59_54 =>
 bnd (ld none h t59_54) fun t60_55 =>
 bnd (bin .add t60_55 x10) fun t62_56 =>
 bnd (bin .add x29 (.int .i64 1)) fun t63_57 =>
 J 0 [x1, x5, x6, t62_56, x27, x28, t63_57] h
noncomputable def valid_Spans.c12 (env : Env) (J : JT) (x1 x5 x6 x7 x9 x10 x27 x28 x29 x48 : V) (h : H) : Ans :=
 cnd x48 (
 bnd (fieldA (some (some 58, none)) x9 1) fun t50_45 =>
 bnd (ld none h t50_45) fun t51_46 =>
 bnd (bin .add t51_46 x10) fun t53_47 =>
 bnd (bin .sub t53_47 x7) fun t55_48 =>
 bnd (bin .quo t55_48 (.int .i64 20)) fun t56_49 =>
 bnd2 (bslc (some (3, none, 8)) (zeroV Tryz.prog 3) 1 [(0, t56_49)] h) fun t57_50 h_51 =>
 bnd2 (app (some (3, none, 8)) h_51 x6 t57_50) fun t58_52 h_53 =>
 valid_Spans.c13 env J x1 x5 t58_52 x9 x10 x27 x28 x29 h_53) (
 valid_Spans.c13 env J x1 x5 x6 x9 x10 x27 x28 x29 h)
noncomputable def valid_Spans.c11 (env : Env) (J : JT) (x1 x5 x6 x7 x8 x9 x10 x27 x28 x29 : V) (h : H) : Ans :=
 bnd (bin .gtr x8 (.int .i64 0)) fun t48_44 =>
 valid_Spans.c12 env J x1 x5 x6 x7 x9 x10 x27 x28 x29 t48_44 h
noncomputable def valid_Spans.c10 (env : Env) (J : JT) (x1 x5 x6 x7 x8 x9 x27 x28 x29 : V) (h : H) : Ans :=
 bnd (ld (some 58) h x9) fun t43_39 =>
 bnd2 (env 46 [t43_39] h) fun t44_40 h_41 =>
 bnd (ext t44_40 0) fun t45_42 =>
 bnd (ext t44_40 1) fun t46_43 =>
 valid_Spans.c11 env J x1 x5 x6 x7 x8 x9 t45_42 x27 x28 x29 h_41
noncomputable def valid_Spans.c9 (env : Env) (J : JT) (x1 x5 x6 x7 x8 x9 x27 x28 x29 : V) (h : H) : Ans :=
 bnd (fieldA (some (some 58, none)) x9 0) fun t34_25 =>
 bnd (ld none h t34_25) fun t35_26 =>
 bnd (binE true .int t35_26 (.int .i64 2)) fun t36_27 =>
 bnd2 (gd t36_27 true (bnd (fieldA (some (some 58, none)) x9 0) fun t38_28 =>
 some (t38_28, h)) h) fun t38_29 h_30 =>
 bnd2 (gd t36_27 true (bnd (ld none h_30 t38_29) fun t39_31 =>
 some (t39_31, h_30)) h_30) fun t39_32 h_33 =>
 bnd2 (gd t36_27 true (bnd (binE true .int t39_32 (.int .i64 3)) fun t40_34 =>
 some (t40_34, h_33)) h_33) fun t40_35 h_36 =>
 bnd (pick t36_27 t40_35 (.bool false)) fun t41_37 =>
 cnd t41_37 (
 bnd (bin .add x29 (.int .i64 1)) fun t63_38 =>
 J 0 [x1, x5, x6, x7, x27, x28, t63_38] h_36) (
 valid_Spans.c10 env J x1 x5 x6 x7 x8 x9 x27 x28 x29 h_36)
noncomputable def valid_Spans.c8 (env : Env) (J : JT) (x1 x5 x6 x7 x27 x28 x29 : V) (h : H) : Ans :=
 bnd (indexA (.slc (some 58)) x27 x29) fun t32_20 =>
 bnd (ld (some 58) h t32_20) fun t33_21 =>
 bnd2 (al (some (some 58)) (zeroV Tryz.prog 59) h) fun t9_22 h_23 =>
 bnd (st (some 58) h_23 t9_22 t33_21) fun h_24 =>
 valid_Spans.c9 env J x1 x5 x6 x7 x29 t9_22 x27 x28 x29 h_24
noncomputable def valid_Spans.c7 (env : Env) (J : JT) (x1 x5 x6 x7 x27 x28 x29 x30 : V) (h : H) : Ans :=
 cnd x30 (
 valid_Spans.c8 env J x1 x5 x6 x7 x27 x28 x29 h) (
 J 1 [x1, x5, x6, x7] h)
noncomputable def valid_Spans.p0 (env : Env) (J : JT) (x1 x5 x6 x7 x27 x28 x29 : V) (h : H) : Ans :=
 bnd (bin .lss x29 x28) fun t30_19 =>
 valid_Spans.c7 env J x1 x5 x6 x7 x27 x28 x29 t30_19 h
theorem valid_Spans.p0_eq (env : Env) (J : JT) (x1 x5 x6 x7 x27 x28 x29 : V) (h : H) : evP Tryz.prog env J 150 valid_Spans.an 0 [x1, x5, x6, x7, x27, x28, x29] h = valid_Spans.p0 env J x1 x5 x6 x7 x27 x28 x29 h := by kernel_rfl
noncomputable def valid_Spans.c14 (env : Env) (J : JT) (x1 x5 x6 x7 x12 : V) (h : H) : Ans :=
 bnd (ld (some 24) h x5) fun t70_63 =>
 bnd2 (env 31 [t70_63, x1] h) fun t72_64 h_65 =>
 bnd (bin .add t72_64 x12) fun t74_66 =>
 bnd (bin .sub t74_66 x7) fun t76_67 =>
 bnd (bin .quo t76_67 (.int .i64 20)) fun t77_68 =>
 bnd2 (bslc (some (3, none, 8)) (zeroV Tryz.prog 3) 1 [(0, t77_68)] h_65) fun t78_69 h_70 =>
 bnd2 (app (some (3, none, 8)) h_70 x6 t78_69) fun t79_71 h_72 =>
 some (t79_71, h_72)
noncomputable def valid_Spans.p1 (env : Env) (J : JT) (x1 x5 x6 x7 : V) (h : H) : Ans :=
 bnd (build (zeroV Tryz.prog 59) [(0, (.int .i64 3))]) fun t65_58 =>
 bnd2 (env 46 [t65_58] h) fun t66_59 h_60 =>
 bnd (ext t66_59 0) fun t67_61 =>
 bnd (ext t66_59 1) fun t68_62 =>
 valid_Spans.c14 env J x1 x5 x6 x7 t67_61 h_60
theorem valid_Spans.p1_eq (env : Env) (J : JT) (x1 x5 x6 x7 : V) (h : H) : evP Tryz.prog env J 150 valid_Spans.an 1 [x1, x5, x6, x7] h = valid_Spans.p1 env J x1 x5 x6 x7 h := by kernel_rfl
theorem valid_Spans.eq {tb : Nat → Option Fa} (ht : tb 150 = some (.plain valid_Spans.an)) (x0 x1 : V) (h : H) : Ei Tryz.prog tb 150 [x0, x1] h = valid_Spans.fs (Ei Tryz.prog tb) (Ji Tryz.prog tb 150 valid_Spans.an) x0 x1 h := (Ei_eq (an := valid_Spans.an) ht _ h).trans (valid_Spans.fe_eq _ _ x0 x1 h)
theorem valid_Spans.J0_eq {tb : Nat → Option Fa} (x1 x5 x6 x7 x27 x28 x29 : V) (h : H) : Ji Tryz.prog tb 150 valid_Spans.an 0 [x1, x5, x6, x7, x27, x28, x29] h = valid_Spans.p0 (Ei Tryz.prog tb) (Ji Tryz.prog tb 150 valid_Spans.an) x1 x5 x6 x7 x27 x28 x29 h := (Ji_eq _ _ h).trans (valid_Spans.p0_eq _ _ x1 x5 x6 x7 x27 x28 x29 h)
theorem valid_Spans.J1_eq {tb : Nat → Option Fa} (x1 x5 x6 x7 : V) (h : H) : Ji Tryz.prog tb 150 valid_Spans.an 1 [x1, x5, x6, x7] h = valid_Spans.p1 (Ei Tryz.prog tb) (Ji Tryz.prog tb 150 valid_Spans.an) x1 x5 x6 x7 h := (Ji_eq _ _ h).trans (valid_Spans.p1_eq _ _ x1 x5 x6 x7 h)
noncomputable def valid_Spans.sf : Sf := ⟨fun env J vs h => match vs with | [x0, x1] => valid_Spans.fs env J x0 x1 h | _ => none, fun env J id vs h => bif Nat.beq id 0 then (match vs with | [x1, x5, x6, x7, x27, x28, x29] => valid_Spans.p0 env J x1 x5 x6 x7 x27 x28 x29 h | _ => none) else (bif Nat.beq id 1 then (match vs with | [x1, x5, x6, x7] => valid_Spans.p1 env J x1 x5 x6 x7 h | _ => none) else (none))⟩
theorem valid_Spans.sfok {tb : Nat → Option Fa} (ht : tb 150 = some (.plain valid_Spans.an)) : SfOk Tryz.prog tb 150 valid_Spans.sf := SfOk.plain (an := valid_Spans.an) ht (fun env J vs h r he => by
  simp only [valid_Spans.sf] at he; split at he
  · rw [valid_Spans.fe_eq]; exact he
  · cases he) (fun env J id vs h r he => by
  simp only [valid_Spans.sf] at he
  cases hb : Nat.beq id 0
  case true =>
    rw [hb] at he; rw [Nat.eq_of_beq_eq_true hb]; simp only [cond_true] at he; split at he
    · rw [valid_Spans.p0_eq]; exact he
    · cases he
  rw [hb] at he; simp only [cond_false] at he; clear hb
  cases hb : Nat.beq id 1
  case true =>
    rw [hb] at he; rw [Nat.eq_of_beq_eq_true hb]; simp only [cond_true] at he; split at he
    · rw [valid_Spans.p1_eq]; exact he
    · cases he
  rw [hb] at he; simp only [cond_false] at he; clear hb
  cases he)
/- 151 busbar/compile.body -/
noncomputable def compile_body.c2 (env : Env) (J : JT) (x1 x5 x8 x9 x10 : V) (h : H) : Ans :=
 J 0 [x1, x5, x8, x9, x10] h
noncomputable def compile_body.c1 (env : Env) (J : JT) (x0 x1 x5 : V) (h : H) : Ans :=
 bnd (lenV .slc h x0) fun t9_1 =>
 compile_body.c2 env J x1 x5 x0 t9_1 (.int .i64 0) h
noncomputable def compile_body.c0 (env : Env) (J : JT) (x0 x1 : V) (h : H) : Ans :=
 compile_body.c1 env J x0 x1 .nils h
noncomputable def compile_body.fs (env : Env) (J : JT) (x0 x1 : V) (h : H) : Ans :=
 compile_body.c0 env J x0 x1 h
theorem compile_body.fe_eq (env : Env) (J : JT) (x0 x1 : V) (h : H) : evF Tryz.prog env J 151 compile_body.an [x0, x1] h = compile_body.fs env J x0 x1 h := by kernel_rfl
noncomputable def compile_body.c5 (env : Env) (J : JT) (x1 x5 x7 x8 x9 x10 : V) (h : H) : Ans :=
 bnd (ld (some 130) h x7) fun t15_8 =>
 bnd2 (env 214 [t15_8, x1] h) fun t17_9 h_10 =>
 bnd2 (bslc (some (225, (some 224), 56)) (zeroV Tryz.prog 225) 1 [(0, t17_9)] h_10) fun t18_11 h_12 =>
 bnd2 (env 153 [x5, t18_11] h_12) fun t19_13 h_14 =>
 bnd (bin .add x10 (.int .i64 1)) fun t20_15 =>
 J 0 [x1, t19_13, x8, x9, t20_15] h_14
noncomputable def compile_body.c4 (env : Env) (J : JT) (x1 x5 x8 x9 x10 : V) (h : H) : Ans :=
 bnd (indexA (.slc (some 130)) x8 x10) fun t12_3 =>
 bnd (ld (some 130) h t12_3) fun t13_4 =>
 bnd2 (al (some (some 130)) (zeroV Tryz.prog 131) h) fun t7_5 h_6 =>
 bnd (st (some 130) h_6 t7_5 t13_4) fun h_7 =>
 compile_body.c5 env J x1 x5 t7_5 x8 x9 x10 h_7
noncomputable def compile_body.c6 (env : Env) (J : JT) (x5 : V) (h : H) : Ans :=
 bnd (build (zeroV Tryz.prog 225) [(0, (.int .i64 7))]) fun t22_16 =>
 bnd2 (bslc (some (225, (some 224), 56)) (zeroV Tryz.prog 225) 1 [(0, t22_16)] h) fun t23_17 h_18 =>
 bnd2 (env 153 [x5, t23_17] h_18) fun t24_19 h_20 =>
 some (t24_19, h_20)
noncomputable def compile_body.c3 (env : Env) (J : JT) (x1 x5 x8 x9 x10 x11 : V) (h : H) : Ans :=
 cnd x11 (
 compile_body.c4 env J x1 x5 x8 x9 x10 h) (
 compile_body.c6 env J x5 h)
noncomputable def compile_body.p0 (env : Env) (J : JT) (x1 x5 x8 x9 x10 : V) (h : H) : Ans :=
 bnd (bin .lss x10 x9) fun t11_2 =>
 compile_body.c3 env J x1 x5 x8 x9 x10 t11_2 h
theorem compile_body.p0_eq (env : Env) (J : JT) (x1 x5 x8 x9 x10 : V) (h : H) : evP Tryz.prog env J 151 compile_body.an 0 [x1, x5, x8, x9, x10] h = compile_body.p0 env J x1 x5 x8 x9 x10 h := by kernel_rfl
theorem compile_body.eq {tb : Nat → Option Fa} (ht : tb 151 = some (.plain compile_body.an)) (x0 x1 : V) (h : H) : Ei Tryz.prog tb 151 [x0, x1] h = compile_body.fs (Ei Tryz.prog tb) (Ji Tryz.prog tb 151 compile_body.an) x0 x1 h := (Ei_eq (an := compile_body.an) ht _ h).trans (compile_body.fe_eq _ _ x0 x1 h)
theorem compile_body.J0_eq {tb : Nat → Option Fa} (x1 x5 x8 x9 x10 : V) (h : H) : Ji Tryz.prog tb 151 compile_body.an 0 [x1, x5, x8, x9, x10] h = compile_body.p0 (Ei Tryz.prog tb) (Ji Tryz.prog tb 151 compile_body.an) x1 x5 x8 x9 x10 h := (Ji_eq _ _ h).trans (compile_body.p0_eq _ _ x1 x5 x8 x9 x10 h)
noncomputable def compile_body.sf : Sf := ⟨fun env J vs h => match vs with | [x0, x1] => compile_body.fs env J x0 x1 h | _ => none, fun env J id vs h => bif Nat.beq id 0 then (match vs with | [x1, x5, x8, x9, x10] => compile_body.p0 env J x1 x5 x8 x9 x10 h | _ => none) else (none)⟩
theorem compile_body.sfok {tb : Nat → Option Fa} (ht : tb 151 = some (.plain compile_body.an)) : SfOk Tryz.prog tb 151 compile_body.sf := SfOk.plain (an := compile_body.an) ht (fun env J vs h r he => by
  simp only [compile_body.sf] at he; split at he
  · rw [compile_body.fe_eq]; exact he
  · cases he) (fun env J id vs h r he => by
  simp only [compile_body.sf] at he
  cases hb : Nat.beq id 0
  case true =>
    rw [hb] at he; rw [Nat.eq_of_beq_eq_true hb]; simp only [cond_true] at he; split at he
    · rw [compile_body.p0_eq]; exact he
    · cases he
  rw [hb] at he; simp only [cond_false] at he; clear hb
  cases he)
/- 152 bytes.Equal -/
noncomputable def bytes_Equal.c0 (env : Env) (J : JT) (x0 x1 : V) (h : H) : Ans :=
 bnd2 (conv .b2s h x0) fun t6_1 h_2 =>
 bnd2 (conv .b2s h_2 x1) fun t8_3 h_4 =>
 bnd (binE false .str t6_1 t8_3) fun t9_5 =>
 some (t9_5, h_4)
noncomputable def bytes_Equal.fs (env : Env) (J : JT) (x0 x1 : V) (h : H) : Ans :=
 bytes_Equal.c0 env J x0 x1 h
theorem bytes_Equal.fe_eq (env : Env) (J : JT) (x0 x1 : V) (h : H) : evF Tryz.prog env J 152 bytes_Equal.an [x0, x1] h = bytes_Equal.fs env J x0 x1 h := by kernel_rfl
theorem bytes_Equal.eq {tb : Nat → Option Fa} (ht : tb 152 = some (.plain bytes_Equal.an)) (x0 x1 : V) (h : H) : Ei Tryz.prog tb 152 [x0, x1] h = bytes_Equal.fs (Ei Tryz.prog tb) (Ji Tryz.prog tb 152 bytes_Equal.an) x0 x1 h := (Ei_eq (an := bytes_Equal.an) ht _ h).trans (bytes_Equal.fe_eq _ _ x0 x1 h)
noncomputable def bytes_Equal.sf : Sf := ⟨fun env J vs h => match vs with | [x0, x1] => bytes_Equal.fs env J x0 x1 h | _ => none, fun env J id vs h => none⟩
theorem bytes_Equal.sfok {tb : Nat → Option Fa} (ht : tb 152 = some (.plain bytes_Equal.an)) : SfOk Tryz.prog tb 152 bytes_Equal.sf := SfOk.plain (an := bytes_Equal.an) ht (fun env J vs h r he => by
  simp only [bytes_Equal.sf] at he; split at he
  · rw [bytes_Equal.fe_eq]; exact he
  · cases he) (fun env J id vs h r he => by simp only [bytes_Equal.sf] at he; cases he)
/- 153 busbar/compile.lay -/
noncomputable def compile_lay.c1 (env : Env) (J : JT) (x0 x9 x10 x11 : V) (h : H) : Ans :=
 J 0 [x0, x9, x10, x11] h
noncomputable def compile_lay.c0 (env : Env) (J : JT) (x0 x1 : V) (h : H) : Ans :=
 bnd (lenV .slc h x1) fun t10_1 =>
 compile_lay.c1 env J x0 x1 t10_1 (.int .i64 0) h
noncomputable def compile_lay.fs (env : Env) (J : JT) (x0 x1 : V) (h : H) : Ans :=
 compile_lay.c0 env J x0 x1 h
theorem compile_lay.fe_eq (env : Env) (J : JT) (x0 x1 : V) (h : H) : evF Tryz.prog env J 153 compile_lay.an [x0, x1] h = compile_lay.fs env J x0 x1 h := by kernel_rfl
noncomputable def compile_lay.c4 (env : Env) (J : JT) (x0 x6 x9 x10 x11 : V) (h : H) : Ans :=
 bnd (ld (some 224) h x6) fun t16_8 =>
 bnd2 (env 215 [t16_8] h) fun t17_9 h_10 =>
 bnd (ext t17_9 0) fun t18_11 =>
 bnd (ext t17_9 1) fun t19_12 =>
 bnd2 (app (some (5, none, 1)) h_10 x0 t18_11) fun t22_13 h_14 =>
 bnd (bin .add x11 (.int .i64 1)) fun t23_15 =>
 J 0 [t22_13, x9, x10, t23_15] h_14
noncomputable def compile_lay.c3 (env : Env) (J : JT) (x0 x9 x10 x11 : V) (h : H) : Ans :=
 bnd (indexA (.slc (some 224)) x9 x11) fun t13_3 =>
 bnd (ld (some 224) h t13_3) fun t14_4 =>
 bnd2 (al (some (some 224)) (zeroV Tryz.prog 225) h) fun t6_5 h_6 =>
 bnd (st (some 224) h_6 t6_5 t14_4) fun h_7 =>
 compile_lay.c4 env J x0 t6_5 x9 x10 x11 h_7
noncomputable def compile_lay.c2 (env : Env) (J : JT) (x0 x9 x10 x11 x12 : V) (h : H) : Ans :=
 cnd x12 (
 compile_lay.c3 env J x0 x9 x10 x11 h) (
 some (x0, h))
noncomputable def compile_lay.p0 (env : Env) (J : JT) (x0 x9 x10 x11 : V) (h : H) : Ans :=
 bnd (bin .lss x11 x10) fun t12_2 =>
 compile_lay.c2 env J x0 x9 x10 x11 t12_2 h
theorem compile_lay.p0_eq (env : Env) (J : JT) (x0 x9 x10 x11 : V) (h : H) : evP Tryz.prog env J 153 compile_lay.an 0 [x0, x9, x10, x11] h = compile_lay.p0 env J x0 x9 x10 x11 h := by kernel_rfl
theorem compile_lay.eq {tb : Nat → Option Fa} (ht : tb 153 = some (.plain compile_lay.an)) (x0 x1 : V) (h : H) : Ei Tryz.prog tb 153 [x0, x1] h = compile_lay.fs (Ei Tryz.prog tb) (Ji Tryz.prog tb 153 compile_lay.an) x0 x1 h := (Ei_eq (an := compile_lay.an) ht _ h).trans (compile_lay.fe_eq _ _ x0 x1 h)
theorem compile_lay.J0_eq {tb : Nat → Option Fa} (x0 x9 x10 x11 : V) (h : H) : Ji Tryz.prog tb 153 compile_lay.an 0 [x0, x9, x10, x11] h = compile_lay.p0 (Ei Tryz.prog tb) (Ji Tryz.prog tb 153 compile_lay.an) x0 x9 x10 x11 h := (Ji_eq _ _ h).trans (compile_lay.p0_eq _ _ x0 x9 x10 x11 h)
noncomputable def compile_lay.sf : Sf := ⟨fun env J vs h => match vs with | [x0, x1] => compile_lay.fs env J x0 x1 h | _ => none, fun env J id vs h => bif Nat.beq id 0 then (match vs with | [x0, x9, x10, x11] => compile_lay.p0 env J x0 x9 x10 x11 h | _ => none) else (none)⟩
theorem compile_lay.sfok {tb : Nat → Option Fa} (ht : tb 153 = some (.plain compile_lay.an)) : SfOk Tryz.prog tb 153 compile_lay.sf := SfOk.plain (an := compile_lay.an) ht (fun env J vs h r he => by
  simp only [compile_lay.sf] at he; split at he
  · rw [compile_lay.fe_eq]; exact he
  · cases he) (fun env J id vs h r he => by
  simp only [compile_lay.sf] at he
  cases hb : Nat.beq id 0
  case true =>
    rw [hb] at he; rw [Nat.eq_of_beq_eq_true hb]; simp only [cond_true] at he; split at he
    · rw [compile_lay.p0_eq]; exact he
    · cases he
  rw [hb] at he; simp only [cond_false] at he; clear hb
  cases he)
/- 154 slices.Concat[[]byte,byte] -/
noncomputable def slices_Concat.c2 (env : Env) (J : JT) (x0 x3 x9 x10 x11 : V) (h : H) : Ans :=
 J 0 [x0, x3, x9, x10, x11] h
noncomputable def slices_Concat.c1 (env : Env) (J : JT) (x0 x3 : V) (h : H) : Ans :=
 bnd (lenV .slc h x0) fun t10_1 =>
 slices_Concat.c2 env J x0 x3 x0 t10_1 (.int .i64 0) h
noncomputable def slices_Concat.c0 (env : Env) (J : JT) (x0 : V) (h : H) : Ans :=
 slices_Concat.c1 env J x0 (.int .i64 0) h
noncomputable def slices_Concat.fs (env : Env) (J : JT) (x0 : V) (h : H) : Ans :=
 slices_Concat.c0 env J x0 h
theorem slices_Concat.fe_eq (env : Env) (J : JT) (x0 : V) (h : H) : evF Tryz.prog env J 154 slices_Concat.an [x0] h = slices_Concat.fs env J x0 h := by kernel_rfl
noncomputable def slices_Concat.c7 (env : Env) (J : JT) (x0 x3 x9 x10 x11 x20 : V) (h : H) : Ans :=
 cnd x20 (
 none) (
 bnd (bin .add x11 (.int .i64 1)) fun t22_8 =>
 J 0 [x0, x3, x9, x10, t22_8] h)
noncomputable def slices_Concat.c6 (env : Env) (J : JT) (x0 x3 x9 x10 x11 : V) (h : H) : Ans :=
 bnd (bin .lss x3 (.int .i64 0)) fun t20_7 =>
 slices_Concat.c7 env J x0 x3 x9 x10 x11 t20_7 h
noncomputable def slices_Concat.c5 (env : Env) (J : JT) (x0 x3 x5 x9 x10 x11 : V) (h : H) : Ans :=
 bnd (lenV .slc h x5) fun t17_5 =>
 bnd (bin .add x3 t17_5) fun t18_6 =>
 slices_Concat.c6 env J x0 t18_6 x9 x10 x11 h
noncomputable def slices_Concat.c4 (env : Env) (J : JT) (x0 x3 x9 x10 x11 : V) (h : H) : Ans :=
 bnd (indexA (.slc none) x9 x11) fun t13_3 =>
 bnd (ld none h t13_3) fun t14_4 =>
 slices_Concat.c5 env J x0 x3 t14_4 x9 x10 x11 h
noncomputable def slices_Concat.c3 (env : Env) (J : JT) (x0 x3 x9 x10 x11 x12 : V) (h : H) : Ans :=
 cnd x12 (
 slices_Concat.c4 env J x0 x3 x9 x10 x11 h) (
 J 2 [x0, x3] h)
noncomputable def slices_Concat.p0 (env : Env) (J : JT) (x0 x3 x9 x10 x11 : V) (h : H) : Ans :=
 bnd (bin .lss x11 x10) fun t12_2 =>
 slices_Concat.c3 env J x0 x3 x9 x10 x11 t12_2 h
theorem slices_Concat.p0_eq (env : Env) (J : JT) (x0 x3 x9 x10 x11 : V) (h : H) : evP Tryz.prog env J 154 slices_Concat.an 0 [x0, x3, x9, x10, x11] h = slices_Concat.p0 env J x0 x3 x9 x10 x11 h := by kernel_rfl
noncomputable def slices_Concat.c9 (env : Env) (J : JT) (x6 x25 x26 x27 : V) (h : H) : Ans :=
 J 1 [x6, x25, x26, x27] h
noncomputable def slices_Concat.c8 (env : Env) (J : JT) (x0 x6 : V) (h : H) : Ans :=
 bnd (lenV .slc h x0) fun t26_11 =>
 slices_Concat.c9 env J x6 x0 t26_11 (.int .i64 0) h
noncomputable def slices_Concat.p2 (env : Env) (J : JT) (x0 x3 : V) (h : H) : Ans :=
 bnd2 (env 216 [.nils, x3] h) fun t24_9 h_10 =>
 slices_Concat.c8 env J x0 t24_9 h_10
theorem slices_Concat.p2_eq (env : Env) (J : JT) (x0 x3 : V) (h : H) : evP Tryz.prog env J 154 slices_Concat.an 2 [x0, x3] h = slices_Concat.p2 env J x0 x3 h := by kernel_rfl
noncomputable def slices_Concat.c11 (env : Env) (J : JT) (x6 x25 x26 x27 : V) (h : H) : Ans :=
 bnd (indexA (.slc none) x25 x27) fun t29_13 =>
 bnd (ld none h t29_13) fun t30_14 =>
 bnd2 (app (some (5, none, 1)) h x6 t30_14) fun t33_15 h_16 =>
 bnd (bin .add x27 (.int .i64 1)) fun t34_17 =>
 J 1 [t33_15, x25, x26, t34_17] h_16
noncomputable def slices_Concat.c10 (env : Env) (J : JT) (x6 x25 x26 x27 x28 : V) (h : H) : Ans :=
 cnd x28 (
 slices_Concat.c11 env J x6 x25 x26 x27 h) (
 some (x6, h))
noncomputable def slices_Concat.p1 (env : Env) (J : JT) (x6 x25 x26 x27 : V) (h : H) : Ans :=
 bnd (bin .lss x27 x26) fun t28_12 =>
 slices_Concat.c10 env J x6 x25 x26 x27 t28_12 h
theorem slices_Concat.p1_eq (env : Env) (J : JT) (x6 x25 x26 x27 : V) (h : H) : evP Tryz.prog env J 154 slices_Concat.an 1 [x6, x25, x26, x27] h = slices_Concat.p1 env J x6 x25 x26 x27 h := by kernel_rfl
theorem slices_Concat.eq {tb : Nat → Option Fa} (ht : tb 154 = some (.plain slices_Concat.an)) (x0 : V) (h : H) : Ei Tryz.prog tb 154 [x0] h = slices_Concat.fs (Ei Tryz.prog tb) (Ji Tryz.prog tb 154 slices_Concat.an) x0 h := (Ei_eq (an := slices_Concat.an) ht _ h).trans (slices_Concat.fe_eq _ _ x0 h)
theorem slices_Concat.J0_eq {tb : Nat → Option Fa} (x0 x3 x9 x10 x11 : V) (h : H) : Ji Tryz.prog tb 154 slices_Concat.an 0 [x0, x3, x9, x10, x11] h = slices_Concat.p0 (Ei Tryz.prog tb) (Ji Tryz.prog tb 154 slices_Concat.an) x0 x3 x9 x10 x11 h := (Ji_eq _ _ h).trans (slices_Concat.p0_eq _ _ x0 x3 x9 x10 x11 h)
theorem slices_Concat.J2_eq {tb : Nat → Option Fa} (x0 x3 : V) (h : H) : Ji Tryz.prog tb 154 slices_Concat.an 2 [x0, x3] h = slices_Concat.p2 (Ei Tryz.prog tb) (Ji Tryz.prog tb 154 slices_Concat.an) x0 x3 h := (Ji_eq _ _ h).trans (slices_Concat.p2_eq _ _ x0 x3 h)
theorem slices_Concat.J1_eq {tb : Nat → Option Fa} (x6 x25 x26 x27 : V) (h : H) : Ji Tryz.prog tb 154 slices_Concat.an 1 [x6, x25, x26, x27] h = slices_Concat.p1 (Ei Tryz.prog tb) (Ji Tryz.prog tb 154 slices_Concat.an) x6 x25 x26 x27 h := (Ji_eq _ _ h).trans (slices_Concat.p1_eq _ _ x6 x25 x26 x27 h)
noncomputable def slices_Concat.sf : Sf := ⟨fun env J vs h => match vs with | [x0] => slices_Concat.fs env J x0 h | _ => none, fun env J id vs h => bif Nat.beq id 0 then (match vs with | [x0, x3, x9, x10, x11] => slices_Concat.p0 env J x0 x3 x9 x10 x11 h | _ => none) else (bif Nat.beq id 2 then (match vs with | [x0, x3] => slices_Concat.p2 env J x0 x3 h | _ => none) else (bif Nat.beq id 1 then (match vs with | [x6, x25, x26, x27] => slices_Concat.p1 env J x6 x25 x26 x27 h | _ => none) else (none)))⟩
theorem slices_Concat.sfok {tb : Nat → Option Fa} (ht : tb 154 = some (.plain slices_Concat.an)) : SfOk Tryz.prog tb 154 slices_Concat.sf := SfOk.plain (an := slices_Concat.an) ht (fun env J vs h r he => by
  simp only [slices_Concat.sf] at he; split at he
  · rw [slices_Concat.fe_eq]; exact he
  · cases he) (fun env J id vs h r he => by
  simp only [slices_Concat.sf] at he
  cases hb : Nat.beq id 0
  case true =>
    rw [hb] at he; rw [Nat.eq_of_beq_eq_true hb]; simp only [cond_true] at he; split at he
    · rw [slices_Concat.p0_eq]; exact he
    · cases he
  rw [hb] at he; simp only [cond_false] at he; clear hb
  cases hb : Nat.beq id 2
  case true =>
    rw [hb] at he; rw [Nat.eq_of_beq_eq_true hb]; simp only [cond_true] at he; split at he
    · rw [slices_Concat.p2_eq]; exact he
    · cases he
  rw [hb] at he; simp only [cond_false] at he; clear hb
  cases hb : Nat.beq id 1
  case true =>
    rw [hb] at he; rw [Nat.eq_of_beq_eq_true hb]; simp only [cond_true] at he; split at he
    · rw [slices_Concat.p1_eq]; exact he
    · cases he
  rw [hb] at he; simp only [cond_false] at he; clear hb
  cases he)
end Go.Proofs.YtbgdidfegkmafaaGreat
