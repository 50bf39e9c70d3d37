import Derived.Test.YtbgdidfegkmafaaGreatTb
import Derived.Test.YtbgdidfegkmafaaGreatAmD
namespace Go.Proofs.YtbgdidfegkmafaaGreat
open Go Go.AM Go.Proofs
set_option linter.unusedVariables false
set_option maxRecDepth 100000
set_option maxHeartbeats 4000000
/- 25 (*busbar/biu.Biu).Version -/
noncomputable def biu_Biu_Version.c1 (env : Env) (J : JT) (x0 : V) (h : H) : Ans :=
 bnd (nilChk x0) fun t7_4 =>
 bnd (fieldA (some (some 84, none)) t7_4 7) fun t8_5 =>
 bnd (ld none h t8_5) fun t9_6 =>
 some (t9_6, h)
noncomputable def biu_Biu_Version.c0 (env : Env) (J : JT) (x0 : V) (h : H) : Ans :=
 bnd2 (env 87 [x0] h) fun t4_1 h_2 =>
 bnd (un .not t4_1) fun t5_3 =>
 cnd t5_3 (
 some ((.int .i64 0), h_2)) (
 biu_Biu_Version.c1 env J x0 h_2)
noncomputable def biu_Biu_Version.fs (env : Env) (J : JT) (x0 : V) (h : H) : Ans :=
 biu_Biu_Version.c0 env J x0 h
theorem biu_Biu_Version.fe_eq (env : Env) (J : JT) (x0 : V) (h : H) : evF Tryz.prog env J 25 biu_Biu_Version.an [x0] h = biu_Biu_Version.fs env J x0 h := by kernel_rfl
theorem biu_Biu_Version.eq {tb : Nat → Option Fa} (ht : tb 25 = some (.plain biu_Biu_Version.an)) (x0 : V) (h : H) : Ei Tryz.prog tb 25 [x0] h = biu_Biu_Version.fs (Ei Tryz.prog tb) (Ji Tryz.prog tb 25 biu_Biu_Version.an) x0 h := (Ei_eq (an := biu_Biu_Version.an) ht _ h).trans (biu_Biu_Version.fe_eq _ _ x0 h)
noncomputable def biu_Biu_Version.sf : Sf := ⟨fun env J vs h => match vs with | [x0] => biu_Biu_Version.fs env J x0 h | _ => none, fun env J id vs h => none⟩
theorem biu_Biu_Version.sfok {tb : Nat → Option Fa} (ht : tb 25 = some (.plain biu_Biu_Version.an)) : SfOk Tryz.prog tb 25 biu_Biu_Version.sf := SfOk.plain (an := biu_Biu_Version.an) ht (fun env J vs h r he => by
  simp only [biu_Biu_Version.sf] at he; split at he
  · rw [biu_Biu_Version.fe_eq]; exact he
  · cases he) (fun env J id vs h r he => by simp only [biu_Biu_Version.sf] at he; cases he)
/- 26 (*busbar/biu.Biu).Slot -/
noncomputable def biu_Biu_Slot.c2 (env : Env) (J : JT) (x0 x2 : V) (h : H) : Ans :=
 bnd (nilChk x0) fun t9_9 =>
 bnd (fieldA (some (some 84, none)) t9_9 7) fun t10_10 =>
 bnd (ld none h t10_10) fun t11_11 =>
 bnd (nilChk x0) fun t12_12 =>
 bnd (fieldA (some (some 84, (some 38))) t12_12 2) fun t13_13 =>
 bnd (fieldA (some (some 38, (some 37))) t13_13 1) fun t14_14 =>
 bnd (indexA (.arr (some 37) 2 none) t14_14 t11_11) fun t15_15 =>
 bnd (ld none h t15_15) fun t16_16 =>
 bnd (nilChk x0) fun t18_17 =>
 bnd (fieldA (some (some 84, none)) t18_17 8) fun t19_18 =>
 bnd (ld none h t19_18) fun t20_19 =>
 bnd (indexA (.slc (some 58)) t16_16 t20_19) fun t21_20 =>
 bnd (ld (some 58) h t21_20) fun t22_21 =>
 bnd (st (some 58) h x2 t22_21) fun h_22 =>
 bnd (ld (some 58) h_22 x2) fun r_23 =>
 some (r_23, h_22)
noncomputable def biu_Biu_Slot.c1 (env : Env) (J : JT) (x0 x2 x5 : V) (h : H) : Ans :=
 cnd x5 (
 bnd (build (zeroV Tryz.prog 59) []) fun t6_6 =>
 bnd (st (some 58) h x2 t6_6) fun h_7 =>
 bnd (ld (some 58) h_7 x2) fun r_8 =>
 some (r_8, h_7)) (
 biu_Biu_Slot.c2 env J x0 x2 h)
noncomputable def biu_Biu_Slot.c0 (env : Env) (J : JT) (x0 x2 : V) (h : H) : Ans :=
 bnd2 (env 87 [x0] h) fun t4_3 h_4 =>
 bnd (un .not t4_3) fun t5_5 =>
 biu_Biu_Slot.c1 env J x0 x2 t5_5 h_4
noncomputable def biu_Biu_Slot.fs (env : Env) (J : JT) (x0 : V) (h : H) : Ans :=
 bnd2 (al (some (some 58)) (zeroV Tryz.prog 59) h) fun t2_1 h_2 =>
 biu_Biu_Slot.c0 env J x0 t2_1 h_2
theorem biu_Biu_Slot.fe_eq (env : Env) (J : JT) (x0 : V) (h : H) : evF Tryz.prog env J 26 biu_Biu_Slot.an [x0] h = biu_Biu_Slot.fs env J x0 h := by kernel_rfl
theorem biu_Biu_Slot.eq {tb : Nat → Option Fa} (ht : tb 26 = some (.plain biu_Biu_Slot.an)) (x0 : V) (h : H) : Ei Tryz.prog tb 26 [x0] h = biu_Biu_Slot.fs (Ei Tryz.prog tb) (Ji Tryz.prog tb 26 biu_Biu_Slot.an) x0 h := (Ei_eq (an := biu_Biu_Slot.an) ht _ h).trans (biu_Biu_Slot.fe_eq _ _ x0 h)
noncomputable def biu_Biu_Slot.sf : Sf := ⟨fun env J vs h => match vs with | [x0] => biu_Biu_Slot.fs env J x0 h | _ => none, fun env J id vs h => none⟩
theorem biu_Biu_Slot.sfok {tb : Nat → Option Fa} (ht : tb 26 = some (.plain biu_Biu_Slot.an)) : SfOk Tryz.prog tb 26 biu_Biu_Slot.sf := SfOk.plain (an := biu_Biu_Slot.an) ht (fun env J vs h r he => by
  simp only [biu_Biu_Slot.sf] at he; split at he
  · rw [biu_Biu_Slot.fe_eq]; exact he
  · cases he) (fun env J id vs h r he => by simp only [biu_Biu_Slot.sf] at he; cases he)
/- 27 (*busbar/biu.Biu).Entered -/
noncomputable def biu_Biu_Entered.c2 (env : Env) (J : JT) (x0 x3 : V) (h : H) : Ans :=
 bnd (nilChk x0) fun t12_7 =>
 bnd (fieldA (some (some 84, none)) t12_7 9) fun t13_8 =>
 bnd (st none h t13_8 (.bool false)) fun h_9 =>
 some (x3, h_9)
noncomputable def biu_Biu_Entered.c1 (env : Env) (J : JT) (x0 : V) (h : H) : Ans :=
 bnd (nilChk x0) fun t8_4 =>
 bnd (fieldA (some (some 84, none)) t8_4 9) fun t9_5 =>
 bnd (ld none h t9_5) fun t10_6 =>
 biu_Biu_Entered.c2 env J x0 t10_6 h
noncomputable def biu_Biu_Entered.c0 (env : Env) (J : JT) (x0 : V) (h : H) : Ans :=
 bnd2 (env 87 [x0] h) fun t5_1 h_2 =>
 bnd (un .not t5_1) fun t6_3 =>
 cnd t6_3 (
 some ((.bool false), h_2)) (
 biu_Biu_Entered.c1 env J x0 h_2)
noncomputable def biu_Biu_Entered.fs (env : Env) (J : JT) (x0 : V) (h : H) : Ans :=
 biu_Biu_Entered.c0 env J x0 h
theorem biu_Biu_Entered.fe_eq (env : Env) (J : JT) (x0 : V) (h : H) : evF Tryz.prog env J 27 biu_Biu_Entered.an [x0] h = biu_Biu_Entered.fs env J x0 h := by kernel_rfl
theorem biu_Biu_Entered.eq {tb : Nat → Option Fa} (ht : tb 27 = some (.plain biu_Biu_Entered.an)) (x0 : V) (h : H) : Ei Tryz.prog tb 27 [x0] h = biu_Biu_Entered.fs (Ei Tryz.prog tb) (Ji Tryz.prog tb 27 biu_Biu_Entered.an) x0 h := (Ei_eq (an := biu_Biu_Entered.an) ht _ h).trans (biu_Biu_Entered.fe_eq _ _ x0 h)
noncomputable def biu_Biu_Entered.sf : Sf := ⟨fun env J vs h => match vs with | [x0] => biu_Biu_Entered.fs env J x0 h | _ => none, fun env J id vs h => none⟩
theorem biu_Biu_Entered.sfok {tb : Nat → Option Fa} (ht : tb 27 = some (.plain biu_Biu_Entered.an)) : SfOk Tryz.prog tb 27 biu_Biu_Entered.sf := SfOk.plain (an := biu_Biu_Entered.an) ht (fun env J vs h r he => by
  simp only [biu_Biu_Entered.sf] at he; split at he
  · rw [biu_Biu_Entered.fe_eq]; exact he
  · cases he) (fun env J id vs h r he => by simp only [biu_Biu_Entered.sf] at he; cases he)
/- 28 (*busbar/biu.Biu).Now -/
noncomputable def biu_Biu_Now.c4 (env : Env) (J : JT) (x0 x2 x3 x49 : V) (h : H) : Ans :=
 cnd x49 (
 bnd (nilChk x0) fun t52_75 =>
 bnd (fieldA (some (some 84, (some 80))) t52_75 10) fun t53_76 =>
 bnd (fieldA (some (some 80, none)) t53_76 2) fun t54_77 =>
 bnd (ld none h t54_77) fun t55_78 =>
 bnd (fieldA (some (some 43, none)) x3 2) fun t56_79 =>
 bnd (ld none h t56_79) fun t57_80 =>
 bnd (indexA (.slc none) t55_78 t57_80) fun t58_81 =>
 bnd (ld none h t58_81) fun t59_82 =>
 bnd2 (env 97 [t59_82] h) fun t60_83 h_84 =>
 bnd (ext t60_83 0) fun t61_85 =>
 bnd (ext t60_83 1) fun t62_86 =>
 bnd (fieldA (some (some 43, none)) x3 3) fun t63_87 =>
 bnd (st none h_84 t63_87 t61_85) fun h_88 =>
 bnd (fieldA (some (some 43, none)) x3 4) fun t64_89 =>
 bnd (st none h_88 t64_89 t62_86) fun h_90 =>
 bnd (ld (some 43) h_90 x3) fun t65_91 =>
 bnd (st (some 43) h_90 x2 t65_91) fun h_92 =>
 bnd (ld (some 43) h_92 x2) fun r_93 =>
 some (r_93, h_92)) (
 bnd (ld (some 43) h x3) fun t65_94 =>
 bnd (st (some 43) h x2 t65_94) fun h_95 =>
 bnd (ld (some 43) h_95 x2) fun r_96 =>
 some (r_96, h_95))
noncomputable def biu_Biu_Now.c3 (env : Env) (J : JT) (x0 x2 x3 : V) (h : H) : Ans :=
 bnd (fieldA (some (some 43, none)) x3 2) fun t36_45 =>
 bnd (ld none h t36_45) fun t37_46 =>
 bnd (bin .geq t37_46 (.int .i64 0)) fun t38_47 =>
 bnd2 (gd t38_47 true (bnd (fieldA (some (some 43, none)) x3 2) fun t40_48 =>
 some (t40_48, h)) h) fun t40_49 h_50 =>
 bnd2 (gd t38_47 true (bnd (ld none h_50 t40_49) fun t41_51 =>
 some (t41_51, h_50)) h_50) fun t41_52 h_53 =>
 bnd2 (gd t38_47 true (some (x0, h_53)) h_53) fun t42_54 h_55 =>
 bnd2 (gd t38_47 true (bnd (nilChk t42_54) fun t43_56 =>
 some (t43_56, h_55)) h_55) fun t43_57 h_58 =>
 bnd2 (gd t38_47 true (bnd (fieldA (some (some 84, (some 80))) t43_57 10) fun t44_59 =>
 some (t44_59, h_58)) h_58) fun t44_60 h_61 =>
 bnd2 (gd t38_47 true (bnd (fieldA (some (some 80, none)) t44_60 2) fun t45_62 =>
 some (t45_62, h_61)) h_61) fun t45_63 h_64 =>
 bnd2 (gd t38_47 true (bnd (ld none h_64 t45_63) fun t46_65 =>
 some (t46_65, h_64)) h_64) fun t46_66 h_67 =>
 bnd2 (gd t38_47 true (bnd (lenV .slc h_67 t46_66) fun t47_68 =>
 some (t47_68, h_67)) h_67) fun t47_69 h_70 =>
 bnd2 (gd t38_47 true (bnd (bin .lss t41_52 t47_69) fun t48_71 =>
 some (t48_71, h_70)) h_70) fun t48_72 h_73 =>
 bnd (pick t38_47 t48_72 (.bool false)) fun t49_74 =>
 biu_Biu_Now.c4 env J x0 x2 x3 t49_74 h_73
noncomputable def biu_Biu_Now.c2 (env : Env) (J : JT) (x0 x2 : V) (h : H) : Ans :=
 bnd (nilChk x0) fun t9_9 =>
 bnd (fieldA (some (some 84, none)) t9_9 8) fun t10_10 =>
 bnd (ld none h t10_10) fun t11_11 =>
 bnd (nilChk x0) fun t13_12 =>
 bnd (fieldA (some (some 84, (some 80))) t13_12 10) fun t14_13 =>
 bnd (fieldA (some (some 80, none)) t14_13 4) fun t15_14 =>
 bnd (ld none h t15_14) fun t16_15 =>
 bnd2 (gd t16_15 true (some (x0, h)) h) fun t18_16 h_17 =>
 bnd2 (gd t16_15 true (bnd (nilChk t18_16) fun t19_18 =>
 some (t19_18, h_17)) h_17) fun t19_19 h_20 =>
 bnd2 (gd t16_15 true (bnd (fieldA (some (some 84, none)) t19_19 6) fun t20_21 =>
 some (t20_21, h_20)) h_20) fun t20_22 h_23 =>
 bnd2 (gd t16_15 true (bnd (ld none h_23 t20_22) fun t21_24 =>
 some (t21_24, h_23)) h_23) fun t21_25 h_26 =>
 bnd2 (gd t16_15 true (bnd (binE false .int t21_25 (.int .i64 3)) fun t22_27 =>
 some (t22_27, h_26)) h_26) fun t22_28 h_29 =>
 bnd (pick t16_15 t22_28 (.bool false)) fun t23_30 =>
 bnd (nilChk x0) fun t25_31 =>
 bnd (fieldA (some (some 84, (some 80))) t25_31 10) fun t26_32 =>
 bnd (fieldA (some (some 80, none)) t26_32 1) fun t27_33 =>
 bnd (ld none h_29 t27_33) fun t28_34 =>
 bnd (nilChk x0) fun t31_35 =>
 bnd (fieldA (some (some 84, (some 80))) t31_35 10) fun t32_36 =>
 bnd (fieldA (some (some 80, none)) t32_36 5) fun t33_37 =>
 bnd (ld none h_29 t33_37) fun t34_38 =>
 bnd2 (env 96 [t28_34] h_29) fun t29_39 h_40 =>
 bnd (ld none h_40 t10_10) fun t11_99 =>
 chkS t11_99 t11_11 (
 gchk t16_15 true (
 bnd (ld none h_40 t20_22) fun t21_98 =>
 chkS t21_98 t21_25 (
 bnd (ld none h_40 t33_37) fun t34_97 =>
 chkS t34_97 t34_38 (
 bnd (build (zeroV Tryz.prog 44) [(0, t11_11), (1, t23_30), (2, t29_39), (5, t34_38)]) fun t35_41 =>
 bnd2 (al (some (some 43)) (zeroV Tryz.prog 44) h_40) fun t3_42 h_43 =>
 bnd (st (some 43) h_43 t3_42 t35_41) fun h_44 =>
 biu_Biu_Now.c3 env J x0 x2 t3_42 h_44))) (
 bnd (ld none h_40 t33_37) fun t34_97 =>
 chkS t34_97 t34_38 (
 bnd (build (zeroV Tryz.prog 44) [(0, t11_11), (1, t23_30), (2, t29_39), (5, t34_38)]) fun t35_41 =>
 bnd2 (al (some (some 43)) (zeroV Tryz.prog 44) h_40) fun t3_42 h_43 =>
 bnd (st (some 43) h_43 t3_42 t35_41) fun h_44 =>
 biu_Biu_Now.c3 env J x0 x2 t3_42 h_44)))
noncomputable def biu_Biu_Now.c1 (env : Env) (J : JT) (x0 x2 x6 : V) (h : H) : Ans :=
 cnd x6 (
 bnd (build (zeroV Tryz.prog 44) [(0, (.int .i64 (-1))), (2, (.int .i64 (-1)))]) fun t7_6 =>
 bnd (st (some 43) h x2 t7_6) fun h_7 =>
 bnd (ld (some 43) h_7 x2) fun r_8 =>
 some (r_8, h_7)) (
 biu_Biu_Now.c2 env J x0 x2 h)
noncomputable def biu_Biu_Now.c0 (env : Env) (J : JT) (x0 x2 : V) (h : H) : Ans :=
 bnd2 (env 87 [x0] h) fun t5_3 h_4 =>
 bnd (un .not t5_3) fun t6_5 =>
 biu_Biu_Now.c1 env J x0 x2 t6_5 h_4
noncomputable def biu_Biu_Now.fs (env : Env) (J : JT) (x0 : V) (h : H) : Ans :=
 bnd2 (al (some (some 43)) (zeroV Tryz.prog 44) h) fun t2_1 h_2 =>
 biu_Biu_Now.c0 env J x0 t2_1 h_2
theorem biu_Biu_Now.fe_eq (env : Env) (J : JT) (x0 : V) (h : H) : evF Tryz.prog env J 28 biu_Biu_Now.an [x0] h = biu_Biu_Now.fs env J x0 h := by kernel_rfl
theorem biu_Biu_Now.eq {tb : Nat → Option Fa} (ht : tb 28 = some (.plain biu_Biu_Now.an)) (x0 : V) (h : H) : Ei Tryz.prog tb 28 [x0] h = biu_Biu_Now.fs (Ei Tryz.prog tb) (Ji Tryz.prog tb 28 biu_Biu_Now.an) x0 h := (Ei_eq (an := biu_Biu_Now.an) ht _ h).trans (biu_Biu_Now.fe_eq _ _ x0 h)
noncomputable def biu_Biu_Now.sf : Sf := ⟨fun env J vs h => match vs with | [x0] => biu_Biu_Now.fs env J x0 h | _ => none, fun env J id vs h => none⟩
theorem biu_Biu_Now.sfok {tb : Nat → Option Fa} (ht : tb 28 = some (.plain biu_Biu_Now.an)) : SfOk Tryz.prog tb 28 biu_Biu_Now.sf := SfOk.plain (an := biu_Biu_Now.an) ht (fun env J vs h r he => by
  simp only [biu_Biu_Now.sf] at he; split at he
  · rw [biu_Biu_Now.fe_eq]; exact he
  · cases he) (fun env J id vs h r he => by simp only [biu_Biu_Now.sf] at he; cases he)
/- 30 (*busbar/biu.Biu).Play -/
noncomputable def biu_Biu_Play.c1 (env : Env) (J : JT) (x0 x3 x5 : V) (h : H) : Ans :=
 cnd x5 (
 bnd (ld (some 64) h x3) fun t7_5 =>
 bnd (nilChk x0) fun t8_6 =>
 bnd (fieldA (some (some 84, (some 80))) t8_6 10) fun t9_7 =>
 bnd (fieldA (some (some 80, (some 64))) t9_7 0) fun t10_8 =>
 bnd (st (some 64) h t10_8 t7_5) fun h_9 =>
 some (.tup [], h_9)) (
 some (.tup [], h))
noncomputable def biu_Biu_Play.c0 (env : Env) (J : JT) (x0 x3 : V) (h : H) : Ans :=
 bnd2 (env 87 [x0] h) fun t5_3 h_4 =>
 biu_Biu_Play.c1 env J x0 x3 t5_3 h_4
noncomputable def biu_Biu_Play.fs (env : Env) (J : JT) (x0 x1 : V) (h : H) : Ans :=
 bnd2 (box (some (some 64)) h x1) fun t3_1 h_2 =>
 biu_Biu_Play.c0 env J x0 t3_1 h_2
theorem biu_Biu_Play.fe_eq (env : Env) (J : JT) (x0 x1 : V) (h : H) : evF Tryz.prog env J 30 biu_Biu_Play.an [x0, x1] h = biu_Biu_Play.fs env J x0 x1 h := by kernel_rfl
theorem biu_Biu_Play.eq {tb : Nat → Option Fa} (ht : tb 30 = some (.plain biu_Biu_Play.an)) (x0 x1 : V) (h : H) : Ei Tryz.prog tb 30 [x0, x1] h = biu_Biu_Play.fs (Ei Tryz.prog tb) (Ji Tryz.prog tb 30 biu_Biu_Play.an) x0 x1 h := (Ei_eq (an := biu_Biu_Play.an) ht _ h).trans (biu_Biu_Play.fe_eq _ _ x0 x1 h)
noncomputable def biu_Biu_Play.sf : Sf := ⟨fun env J vs h => match vs with | [x0, x1] => biu_Biu_Play.fs env J x0 x1 h | _ => none, fun env J id vs h => none⟩
theorem biu_Biu_Play.sfok {tb : Nat → Option Fa} (ht : tb 30 = some (.plain biu_Biu_Play.an)) : SfOk Tryz.prog tb 30 biu_Biu_Play.sf := SfOk.plain (an := biu_Biu_Play.an) ht (fun env J vs h r he => by
  simp only [biu_Biu_Play.sf] at he; split at he
  · rw [biu_Biu_Play.fe_eq]; exact he
  · cases he) (fun env J id vs h r he => by simp only [biu_Biu_Play.sf] at he; cases he)
/- 31 busbar/plan.Frame -/
noncomputable def plan_Frame.c3 (env : Env) (J : JT) (x5 x17 x18 x19 : V) (h : H) : Ans :=
 J 0 [x5, x17, x18, x19] h
noncomputable def plan_Frame.c2 (env : Env) (J : JT) (x1 x2 x5 : V) (h : H) : Ans :=
 bnd (fieldA (some (some 24, (some 23))) x2 1) fun t15_9 =>
 bnd (indexA (.arr (some 23) 2 none) t15_9 x1) fun t16_10 =>
 bnd (ld none h t16_10) fun t17_11 =>
 bnd (lenV .slc h t17_11) fun t18_12 =>
 plan_Frame.c3 env J x5 t17_11 t18_12 (.int .i64 0) h
noncomputable def plan_Frame.c1 (env : Env) (J : JT) (x1 x2 : V) (h : H) : Ans :=
 bnd2 (env 100 [x1] h) fun t12_6 h_7 =>
 bnd (bin .add t12_6 (.int .i64 120)) fun t13_8 =>
 plan_Frame.c2 env J x1 x2 t13_8 h_7
noncomputable def plan_Frame.c0 (env : Env) (J : JT) (x1 x2 : V) (h : H) : Ans :=
 bnd2 (env 99 [x1] h) fun t9_3 h_4 =>
 bnd (un .not t9_3) fun t10_5 =>
 cnd t10_5 (
 some ((.int .i64 0), h_4)) (
 plan_Frame.c1 env J x1 x2 h_4)
noncomputable def plan_Frame.fs (env : Env) (J : JT) (x0 x1 : V) (h : H) : Ans :=
 bnd2 (box (some (some 24)) h x0) fun t2_1 h_2 =>
 plan_Frame.c0 env J x1 t2_1 h_2
theorem plan_Frame.fe_eq (env : Env) (J : JT) (x0 x1 : V) (h : H) : evF Tryz.prog env J 31 plan_Frame.an [x0, x1] h = plan_Frame.fs env J x0 x1 h := by kernel_rfl
noncomputable def plan_Frame.c6 (env : Env) (J : JT) (x5 x7 x17 x18 x19 : V) (h : H) : Ans :=
 bnd (ld (some 130) h x7) fun t24_19 =>
 bnd2 (env 101 [t24_19] h) fun t25_20 h_21 =>
 bnd (bin .add x5 t25_20) fun t26_22 =>
 bnd (bin .add x19 (.int .i64 1)) fun t27_23 =>
 J 0 [t26_22, x17, x18, t27_23] h_21
noncomputable def plan_Frame.c5 (env : Env) (J : JT) (x5 x17 x18 x19 : V) (h : H) : Ans :=
 bnd (indexA (.slc (some 130)) x17 x19) fun t21_14 =>
 bnd (ld (some 130) h t21_14) fun t22_15 =>
 bnd2 (al (some (some 130)) (zeroV Tryz.prog 131) h) fun t7_16 h_17 =>
 bnd (st (some 130) h_17 t7_16 t22_15) fun h_18 =>
 plan_Frame.c6 env J x5 t7_16 x17 x18 x19 h_18
noncomputable def plan_Frame.c4 (env : Env) (J : JT) (x5 x17 x18 x19 x20 : V) (h : H) : Ans :=
 cnd x20 (
 plan_Frame.c5 env J x5 x17 x18 x19 h) (
 some (x5, h))
noncomputable def plan_Frame.p0 (env : Env) (J : JT) (x5 x17 x18 x19 : V) (h : H) : Ans :=
 bnd (bin .lss x19 x18) fun t20_13 =>
 plan_Frame.c4 env J x5 x17 x18 x19 t20_13 h
theorem plan_Frame.p0_eq (env : Env) (J : JT) (x5 x17 x18 x19 : V) (h : H) : evP Tryz.prog env J 31 plan_Frame.an 0 [x5, x17, x18, x19] h = plan_Frame.p0 env J x5 x17 x18 x19 h := by kernel_rfl
theorem plan_Frame.eq {tb : Nat → Option Fa} (ht : tb 31 = some (.plain plan_Frame.an)) (x0 x1 : V) (h : H) : Ei Tryz.prog tb 31 [x0, x1] h = plan_Frame.fs (Ei Tryz.prog tb) (Ji Tryz.prog tb 31 plan_Frame.an) x0 x1 h := (Ei_eq (an := plan_Frame.an) ht _ h).trans (plan_Frame.fe_eq _ _ x0 x1 h)
theorem plan_Frame.J0_eq {tb : Nat → Option Fa} (x5 x17 x18 x19 : V) (h : H) : Ji Tryz.prog tb 31 plan_Frame.an 0 [x5, x17, x18, x19] h = plan_Frame.p0 (Ei Tryz.prog tb) (Ji Tryz.prog tb 31 plan_Frame.an) x5 x17 x18 x19 h := (Ji_eq _ _ h).trans (plan_Frame.p0_eq _ _ x5 x17 x18 x19 h)
noncomputable def plan_Frame.sf : Sf := ⟨fun env J vs h => match vs with | [x0, x1] => plan_Frame.fs env J x0 x1 h | _ => none, fun env J id vs h => bif Nat.beq id 0 then (match vs with | [x5, x17, x18, x19] => plan_Frame.p0 env J x5 x17 x18 x19 h | _ => none) else (none)⟩
theorem plan_Frame.sfok {tb : Nat → Option Fa} (ht : tb 31 = some (.plain plan_Frame.an)) : SfOk Tryz.prog tb 31 plan_Frame.sf := SfOk.plain (an := plan_Frame.an) ht (fun env J vs h r he => by
  simp only [plan_Frame.sf] at he; split at he
  · rw [plan_Frame.fe_eq]; exact he
  · cases he) (fun env J id vs h r he => by
  simp only [plan_Frame.sf] at he
  cases hb : Nat.beq id 0
  case true =>
    rw [hb] at he; rw [Nat.eq_of_beq_eq_true hb]; simp only [cond_true] at he; split at he
    · rw [plan_Frame.p0_eq]; exact he
    · cases he
  rw [hb] at he; simp only [cond_false] at he; clear hb
  cases he)
/- 33 busbar/wires.Or -/
noncomputable def wires_Or.c2 (env : Env) (J : JT) (x3 x6 x7 x8 : V) (h : H) : Ans :=
 J 0 [x3, x6, x7, x8] h
noncomputable def wires_Or.c1 (env : Env) (J : JT) (x0 x3 : V) (h : H) : Ans :=
 bnd (lenV .slc h x0) fun t7_1 =>
 wires_Or.c2 env J x3 x0 t7_1 (.int .i64 0) h
noncomputable def wires_Or.c0 (env : Env) (J : JT) (x0 : V) (h : H) : Ans :=
 wires_Or.c1 env J x0 (.int .u8 0) h
noncomputable def wires_Or.fs (env : Env) (J : JT) (x0 : V) (h : H) : Ans :=
 wires_Or.c0 env J x0 h
theorem wires_Or.fe_eq (env : Env) (J : JT) (x0 : V) (h : H) : evF Tryz.prog env J 33 wires_Or.an [x0] h = wires_Or.fs env J x0 h := by kernel_rfl
noncomputable def wires_Or.c4 (env : Env) (J : JT) (x3 x6 x7 x8 : V) (h : H) : Ans :=
 bnd (indexA (.slc none) x6 x8) fun t10_3 =>
 bnd (ld none h t10_3) fun t11_4 =>
 bnd (bin .or x3 t11_4) fun t14_5 =>
 bnd (bin .add x8 (.int .i64 1)) fun t15_6 =>
 J 0 [t14_5, x6, x7, t15_6] h
noncomputable def wires_Or.c3 (env : Env) (J : JT) (x3 x6 x7 x8 x9 : V) (h : H) : Ans :=
 cnd x9 (
 wires_Or.c4 env J x3 x6 x7 x8 h) (
 some (x3, h))
noncomputable def wires_Or.p0 (env : Env) (J : JT) (x3 x6 x7 x8 : V) (h : H) : Ans :=
 bnd (bin .lss x8 x7) fun t9_2 =>
 wires_Or.c3 env J x3 x6 x7 x8 t9_2 h
theorem wires_Or.p0_eq (env : Env) (J : JT) (x3 x6 x7 x8 : V) (h : H) : evP Tryz.prog env J 33 wires_Or.an 0 [x3, x6, x7, x8] h = wires_Or.p0 env J x3 x6 x7 x8 h := by kernel_rfl
theorem wires_Or.eq {tb : Nat → Option Fa} (ht : tb 33 = some (.plain wires_Or.an)) (x0 : V) (h : H) : Ei Tryz.prog tb 33 [x0] h = wires_Or.fs (Ei Tryz.prog tb) (Ji Tryz.prog tb 33 wires_Or.an) x0 h := (Ei_eq (an := wires_Or.an) ht _ h).trans (wires_Or.fe_eq _ _ x0 h)
theorem wires_Or.J0_eq {tb : Nat → Option Fa} (x3 x6 x7 x8 : V) (h : H) : Ji Tryz.prog tb 33 wires_Or.an 0 [x3, x6, x7, x8] h = wires_Or.p0 (Ei Tryz.prog tb) (Ji Tryz.prog tb 33 wires_Or.an) x3 x6 x7 x8 h := (Ji_eq _ _ h).trans (wires_Or.p0_eq _ _ x3 x6 x7 x8 h)
noncomputable def wires_Or.sf : Sf := ⟨fun env J vs h => match vs with | [x0] => wires_Or.fs env J x0 h | _ => none, fun env J id vs h => bif Nat.beq id 0 then (match vs with | [x3, x6, x7, x8] => wires_Or.p0 env J x3 x6 x7 x8 h | _ => none) else (none)⟩
theorem wires_Or.sfok {tb : Nat → Option Fa} (ht : tb 33 = some (.plain wires_Or.an)) : SfOk Tryz.prog tb 33 wires_Or.sf := SfOk.plain (an := wires_Or.an) ht (fun env J vs h r he => by
  simp only [wires_Or.sf] at he; split at he
  · rw [wires_Or.fe_eq]; exact he
  · cases he) (fun env J id vs h r he => by
  simp only [wires_Or.sf] at he
  cases hb : Nat.beq id 0
  case true =>
    rw [hb] at he; rw [Nat.eq_of_beq_eq_true hb]; simp only [cond_true] at he; split at he
    · rw [wires_Or.p0_eq]; exact he
    · cases he
  rw [hb] at he; simp only [cond_false] at he; clear hb
  cases he)
/- 35 (*busbar/biu.Biu).Clear -/
noncomputable def biu_Biu_Clear.c0 (env : Env) (J : JT) (x0 : V) (h : H) : Ans :=
 bnd2 (env 20 [x0] h) fun t4_1 h_2 =>
 bnd (binE false .int t4_1 (.int .i64 3)) fun t5_3 =>
 bnd2 (gd t5_3 true (some (x0, h_2)) h_2) fun t7_4 h_5 =>
 bnd2 (gd t5_3 true (bnd (nilChk t7_4) fun t8_6 =>
 some (t8_6, h_5)) h_5) fun t8_7 h_8 =>
 bnd2 (gd t5_3 true (bnd (fieldA (some (some 84, (some 80))) t8_7 10) fun t9_9 =>
 some (t9_9, h_8)) h_8) fun t9_10 h_11 =>
 bnd2 (gd t5_3 true (bnd (fieldA (some (some 80, none)) t9_10 1) fun t10_12 =>
 some (t10_12, h_11)) h_11) fun t10_13 h_14 =>
 bnd2 (gd t5_3 true (bnd (ld none h_14 t10_13) fun t11_15 =>
 some (t11_15, h_14)) h_14) fun t11_16 h_17 =>
 bnd2 (gd t5_3 true (bnd2 (env 102 [t11_16] h_17) fun t12_18 h_19 =>
 some (t12_18, h_19)) h_17) fun t12_20 h_21 =>
 bnd (pick t5_3 t12_20 (.bool false)) fun t13_22 =>
 some (t13_22, h_21)
noncomputable def biu_Biu_Clear.fs (env : Env) (J : JT) (x0 : V) (h : H) : Ans :=
 biu_Biu_Clear.c0 env J x0 h
theorem biu_Biu_Clear.fe_eq (env : Env) (J : JT) (x0 : V) (h : H) : evF Tryz.prog env J 35 biu_Biu_Clear.an [x0] h = biu_Biu_Clear.fs env J x0 h := by kernel_rfl
theorem biu_Biu_Clear.eq {tb : Nat → Option Fa} (ht : tb 35 = some (.plain biu_Biu_Clear.an)) (x0 : V) (h : H) : Ei Tryz.prog tb 35 [x0] h = biu_Biu_Clear.fs (Ei Tryz.prog tb) (Ji Tryz.prog tb 35 biu_Biu_Clear.an) x0 h := (Ei_eq (an := biu_Biu_Clear.an) ht _ h).trans (biu_Biu_Clear.fe_eq _ _ x0 h)
noncomputable def biu_Biu_Clear.sf : Sf := ⟨fun env J vs h => match vs with | [x0] => biu_Biu_Clear.fs env J x0 h | _ => none, fun env J id vs h => none⟩
theorem biu_Biu_Clear.sfok {tb : Nat → Option Fa} (ht : tb 35 = some (.plain biu_Biu_Clear.an)) : SfOk Tryz.prog tb 35 biu_Biu_Clear.sf := SfOk.plain (an := biu_Biu_Clear.an) ht (fun env J vs h r he => by
  simp only [biu_Biu_Clear.sf] at he; split at he
  · rw [biu_Biu_Clear.fe_eq]; exact he
  · cases he) (fun env J id vs h r he => by simp only [biu_Biu_Clear.sf] at he; cases he)
/- 36 (*busbar/biu.Biu).Passed -/
noncomputable def biu_Biu_Passed.c0 (env : Env) (J : JT) (x0 x1 : V) (h : H) : Ans :=
 bnd2 (env 87 [x0] h) fun t6_1 h_2 =>
 bnd2 (gd t6_1 true (some (x1, h_2)) h_2) fun t8_3 h_4 =>
 bnd2 (gd t6_1 true (bnd (bin .geq t8_3 (.int .i64 0)) fun t9_5 =>
 some (t9_5, h_4)) h_4) fun t9_6 h_7 =>
 bnd (pick t6_1 t9_6 (.bool false)) fun t10_8 =>
 bnd2 (gd t10_8 true (some (x1, h_7)) h_7) fun t12_9 h_10 =>
 bnd2 (gd t10_8 true (some (x0, h_10)) h_10) fun t13_11 h_12 =>
 bnd2 (gd t10_8 true (bnd2 (env 26 [t13_11] h_12) fun t14_13 h_14 =>
 some (t14_13, h_14)) h_12) fun t14_15 h_16 =>
 bnd2 (gd t10_8 true (bnd (fieldV (some (some 58, none)) t14_15 2) fun t15_17 =>
 some (t15_17, h_16)) h_16) fun t15_18 h_19 =>
 bnd2 (gd t10_8 true (bnd (bin .lss t12_9 t15_18) fun t16_20 =>
 some (t16_20, h_19)) h_19) fun t16_21 h_22 =>
 bnd (pick t10_8 t16_21 (.bool false)) fun t17_23 =>
 bnd2 (gd t17_23 true (some (x0, h_22)) h_22) fun t19_24 h_25 =>
 bnd2 (gd t17_23 true (bnd (nilChk t19_24) fun t20_26 =>
 some (t20_26, h_25)) h_25) fun t20_27 h_28 =>
 bnd2 (gd t17_23 true (bnd (fieldA (some (some 84, none)) t20_27 5) fun t21_29 =>
 some (t21_29, h_28)) h_28) fun t21_30 h_31 =>
 bnd2 (gd t17_23 true (bnd (ld none h_31 t21_30) fun t22_32 =>
 some (t22_32, h_31)) h_31) fun t22_33 h_34 =>
 bnd2 (gd t17_23 true (some (x0, h_34)) h_34) fun t23_35 h_36 =>
 bnd2 (gd t17_23 true (some (x1, h_36)) h_36) fun t26_37 h_38 =>
 bnd2 (gd t17_23 true (bnd2 (env 26 [t23_35] h_38) fun t24_39 h_40 =>
 some (t24_39, h_40)) h_38) fun t24_41 h_42 =>
 gchk t17_23 true (
 bnd (ld none h_42 t21_30) fun t22_54 =>
 chkS t22_54 t22_33 (
 bnd2 (gd t17_23 true (bnd (fieldV (some (some 58, none)) t24_41 1) fun t25_43 =>
 some (t25_43, h_42)) h_42) fun t25_44 h_45 =>
 bnd2 (gd t17_23 true (bnd (bin .add t25_44 t26_37) fun t27_46 =>
 some (t27_46, h_45)) h_45) fun t27_47 h_48 =>
 bnd2 (gd t17_23 true (bnd2 (env 103 [t22_33, t27_47] h_48) fun t28_49 h_50 =>
 some (t28_49, h_50)) h_48) fun t28_51 h_52 =>
 bnd (pick t17_23 t28_51 (.bool false)) fun t29_53 =>
 some (t29_53, h_52))) (
 bnd2 (gd t17_23 true (bnd (fieldV (some (some 58, none)) t24_41 1) fun t25_43 =>
 some (t25_43, h_42)) h_42) fun t25_44 h_45 =>
 bnd2 (gd t17_23 true (bnd (bin .add t25_44 t26_37) fun t27_46 =>
 some (t27_46, h_45)) h_45) fun t27_47 h_48 =>
 bnd2 (gd t17_23 true (bnd2 (env 103 [t22_33, t27_47] h_48) fun t28_49 h_50 =>
 some (t28_49, h_50)) h_48) fun t28_51 h_52 =>
 bnd (pick t17_23 t28_51 (.bool false)) fun t29_53 =>
 some (t29_53, h_52))
noncomputable def biu_Biu_Passed.fs (env : Env) (J : JT) (x0 x1 : V) (h : H) : Ans :=
 biu_Biu_Passed.c0 env J x0 x1 h
theorem biu_Biu_Passed.fe_eq (env : Env) (J : JT) (x0 x1 : V) (h : H) : evF Tryz.prog env J 36 biu_Biu_Passed.an [x0, x1] h = biu_Biu_Passed.fs env J x0 x1 h := by kernel_rfl
theorem biu_Biu_Passed.eq {tb : Nat → Option Fa} (ht : tb 36 = some (.plain biu_Biu_Passed.an)) (x0 x1 : V) (h : H) : Ei Tryz.prog tb 36 [x0, x1] h = biu_Biu_Passed.fs (Ei Tryz.prog tb) (Ji Tryz.prog tb 36 biu_Biu_Passed.an) x0 x1 h := (Ei_eq (an := biu_Biu_Passed.an) ht _ h).trans (biu_Biu_Passed.fe_eq _ _ x0 x1 h)
noncomputable def biu_Biu_Passed.sf : Sf := ⟨fun env J vs h => match vs with | [x0, x1] => biu_Biu_Passed.fs env J x0 x1 h | _ => none, fun env J id vs h => none⟩
theorem biu_Biu_Passed.sfok {tb : Nat → Option Fa} (ht : tb 36 = some (.plain biu_Biu_Passed.an)) : SfOk Tryz.prog tb 36 biu_Biu_Passed.sf := SfOk.plain (an := biu_Biu_Passed.an) ht (fun env J vs h r he => by
  simp only [biu_Biu_Passed.sf] at he; split at he
  · rw [biu_Biu_Passed.fe_eq]; exact he
  · cases he) (fun env J id vs h r he => by simp only [biu_Biu_Passed.sf] at he; cases he)
/- 37 (*busbar/biu.Biu).Role -/
noncomputable def biu_Biu_Role.c2 (env : Env) (J : JT) (x0 x2 : V) (h : H) : Ans :=
 bnd (nilChk x0) fun t8_9 =>
 bnd (fieldA (some (some 84, (some 80))) t8_9 10) fun t9_10 =>
 bnd (fieldA (some (some 80, (some 64))) t9_10 0) fun t10_11 =>
 bnd (ld (some 64) h t10_11) fun t11_12 =>
 bnd (st (some 64) h x2 t11_12) fun h_13 =>
 bnd (ld (some 64) h_13 x2) fun r_14 =>
 some (r_14, h_13)
noncomputable def biu_Biu_Role.c1 (env : Env) (J : JT) (x0 x2 x5 : V) (h : H) : Ans :=
 cnd x5 (
 bnd (build (zeroV Tryz.prog 65) []) fun t6_6 =>
 bnd (st (some 64) h x2 t6_6) fun h_7 =>
 bnd (ld (some 64) h_7 x2) fun r_8 =>
 some (r_8, h_7)) (
 biu_Biu_Role.c2 env J x0 x2 h)
noncomputable def biu_Biu_Role.c0 (env : Env) (J : JT) (x0 x2 : V) (h : H) : Ans :=
 bnd2 (env 87 [x0] h) fun t4_3 h_4 =>
 bnd (un .not t4_3) fun t5_5 =>
 biu_Biu_Role.c1 env J x0 x2 t5_5 h_4
noncomputable def biu_Biu_Role.fs (env : Env) (J : JT) (x0 : V) (h : H) : Ans :=
 bnd2 (al (some (some 64)) (zeroV Tryz.prog 65) h) fun t2_1 h_2 =>
 biu_Biu_Role.c0 env J x0 t2_1 h_2
theorem biu_Biu_Role.fe_eq (env : Env) (J : JT) (x0 : V) (h : H) : evF Tryz.prog env J 37 biu_Biu_Role.an [x0] h = biu_Biu_Role.fs env J x0 h := by kernel_rfl
theorem biu_Biu_Role.eq {tb : Nat → Option Fa} (ht : tb 37 = some (.plain biu_Biu_Role.an)) (x0 : V) (h : H) : Ei Tryz.prog tb 37 [x0] h = biu_Biu_Role.fs (Ei Tryz.prog tb) (Ji Tryz.prog tb 37 biu_Biu_Role.an) x0 h := (Ei_eq (an := biu_Biu_Role.an) ht _ h).trans (biu_Biu_Role.fe_eq _ _ x0 h)
noncomputable def biu_Biu_Role.sf : Sf := ⟨fun env J vs h => match vs with | [x0] => biu_Biu_Role.fs env J x0 h | _ => none, fun env J id vs h => none⟩
theorem biu_Biu_Role.sfok {tb : Nat → Option Fa} (ht : tb 37 = some (.plain biu_Biu_Role.an)) : SfOk Tryz.prog tb 37 biu_Biu_Role.sf := SfOk.plain (an := biu_Biu_Role.an) ht (fun env J vs h r he => by
  simp only [biu_Biu_Role.sf] at he; split at he
  · rw [biu_Biu_Role.fe_eq]; exact he
  · cases he) (fun env J id vs h r he => by simp only [biu_Biu_Role.sf] at he; cases he)
/- 38 busbar/busbarlaw22.Plain -/
noncomputable def busbarlaw22_Plain.c1 (env : Env) (J : JT) (x0 x1 : V) (h : H) : Ans :=
 bnd (build (zeroV Tryz.prog 23) [(0, x1), (1, x1)]) fun t9_11 =>
 bnd (build (zeroV Tryz.prog 25) [(0, (.int .i64 2)), (1, t9_11)]) fun t10_12 =>
 bnd (st (some 24) h x0 t10_12) fun h_13 =>
 bnd (ld (some 24) h_13 x0) fun r_14 =>
 some (r_14, h_13)
noncomputable def busbarlaw22_Plain.c0 (env : Env) (J : JT) (x0 : V) (h : H) : Ans :=
 bnd (build (zeroV Tryz.prog 131) [(0, (.int .i64 2))]) fun t2_3 =>
 bnd2 (bslc (some (3, none, 8)) (zeroV Tryz.prog 3) 1 [(0, (.int .i64 0))] h) fun t3_4 h_5 =>
 bnd2 (bslc (some (3, none, 8)) (zeroV Tryz.prog 3) 1 [(0, (.int .i64 1))] h_5) fun t4_6 h_7 =>
 bnd (build (zeroV Tryz.prog 131) [(0, (.int .i64 0)), (2, (.int .i64 1)), (3, (.int .i64 3)), (4, t3_4), (5, t4_6)]) fun t5_8 =>
 bnd2 (bslc (some (131, (some 130), 80)) (zeroV Tryz.prog 131) 2 [(0, t2_3), (1, t5_8)] h_7) fun t6_9 h_10 =>
 busbarlaw22_Plain.c1 env J x0 t6_9 h_10
noncomputable def busbarlaw22_Plain.fs (env : Env) (J : JT) (h : H) : Ans :=
 bnd2 (al (some (some 24)) (zeroV Tryz.prog 25) h) fun t0_1 h_2 =>
 busbarlaw22_Plain.c0 env J t0_1 h_2
theorem busbarlaw22_Plain.fe_eq (env : Env) (J : JT) (h : H) : evF Tryz.prog env J 38 busbarlaw22_Plain.an [] h = busbarlaw22_Plain.fs env J  h := by kernel_rfl
theorem busbarlaw22_Plain.eq {tb : Nat → Option Fa} (ht : tb 38 = some (.plain busbarlaw22_Plain.an)) (h : H) : Ei Tryz.prog tb 38 [] h = busbarlaw22_Plain.fs (Ei Tryz.prog tb) (Ji Tryz.prog tb 38 busbarlaw22_Plain.an)  h := (Ei_eq (an := busbarlaw22_Plain.an) ht _ h).trans (busbarlaw22_Plain.fe_eq _ _  h)
noncomputable def busbarlaw22_Plain.sf : Sf := ⟨fun env J vs h => match vs with | [] => busbarlaw22_Plain.fs env J  h | _ => none, fun env J id vs h => none⟩
theorem busbarlaw22_Plain.sfok {tb : Nat → Option Fa} (ht : tb 38 = some (.plain busbarlaw22_Plain.an)) : SfOk Tryz.prog tb 38 busbarlaw22_Plain.sf := SfOk.plain (an := busbarlaw22_Plain.an) ht (fun env J vs h r he => by
  simp only [busbarlaw22_Plain.sf] at he; split at he
  · rw [busbarlaw22_Plain.fe_eq]; exact he
  · cases he) (fun env J id vs h r he => by simp only [busbarlaw22_Plain.sf] at he; cases he)
/- 39 busbar/busbarlaw23.one -/
noncomputable def busbarlaw23_one.c7 (env : Env) (J : JT) (x1 x2 x3 x4 x5 : V) (h : H) : Ans :=
 bnd2 (env 53 [x2] h) fun t54_73 h_74 =>
 bnd2 (gd t54_73 true (some (x3, h_74)) h_74) fun t56_75 h_76 =>
 bnd2 (gd t54_73 true (bnd (binE false .int t56_75 (.int .u8 0)) fun t57_77 =>
 some (t57_77, h_76)) h_76) fun t57_78 h_79 =>
 bnd (pick t54_73 t57_78 (.bool false)) fun t58_80 =>
 bnd2 (gd t58_80 true (some (x4, h_79)) h_79) fun t60_81 h_82 =>
 bnd2 (gd t58_80 true (bnd (binE false .int t60_81 (.int .i64 0)) fun t61_83 =>
 some (t61_83, h_82)) h_82) fun t61_84 h_85 =>
 bnd (pick t58_80 t61_84 (.bool false)) fun t62_86 =>
 bnd2 (gd t62_86 true (some (x5, h_85)) h_85) fun t64_87 h_88 =>
 bnd2 (gd t62_86 true (bnd (binE false .int t64_87 (.int .i64 1)) fun t65_89 =>
 some (t65_89, h_88)) h_88) fun t65_90 h_91 =>
 bnd (pick t62_86 t65_90 (.bool false)) fun t66_92 =>
 bnd2 (gd t66_92 true (some (x1, h_91)) h_91) fun t68_93 h_94 =>
 bnd2 (gd t66_92 true (bnd2 (env 45 [t68_93, (.bool true)] h_94) fun t69_95 h_96 =>
 some (t69_95, h_96)) h_94) fun t69_97 h_98 =>
 bnd2 (gd t66_92 true (bnd (binE false .ptr t69_97 .nilp) fun t70_99 =>
 some (t70_99, h_98)) h_98) fun t70_100 h_101 =>
 bnd (pick t66_92 t70_100 (.bool false)) fun t71_102 =>
 bnd (pick t71_102 (.bool true) (.bool false)) fun t73_103 =>
 some (t73_103, h_101)
noncomputable def busbarlaw23_one.c6 (env : Env) (J : JT) (x1 x2 x3 : V) (h : H) : Ans :=
 bnd2 (env 45 [x2, (.bool true)] h) fun t49_67 h_68 =>
 bnd2 (env 23 [t49_67] h_68) fun t50_69 h_70 =>
 bnd (ext t50_69 0) fun t51_71 =>
 bnd (ext t50_69 1) fun t52_72 =>
 busbarlaw23_one.c7 env J x1 x2 x3 t51_71 t52_72 h_70
noncomputable def busbarlaw23_one.c5 (env : Env) (J : JT) (x1 x2 x3 : V) (h : H) : Ans :=
 bnd (build (zeroV Tryz.prog 68) []) fun t45_64 =>
 bnd2 (env 47 [x2, x3, (.int .i64 0), t45_64] h) fun t46_65 h_66 =>
 busbarlaw23_one.c6 env J x1 x2 x3 h_66
noncomputable def busbarlaw23_one.c4 (env : Env) (J : JT) (x1 x2 : V) (h : H) : Ans :=
 bnd (build (zeroV Tryz.prog 91) []) fun t41_61 =>
 bnd2 (env 44 [x2, t41_61, (.int .i64 0)] h) fun t42_62 h_63 =>
 busbarlaw23_one.c5 env J x1 x2 t42_62 h_63
noncomputable def busbarlaw23_one.c3 (env : Env) (J : JT) (x1 x2 : V) (h : H) : Ans :=
 bnd2 (env 43 [x2, (.int .i64 0)] h) fun t39_59 h_60 =>
 busbarlaw23_one.c4 env J x1 x2 h_60
noncomputable def busbarlaw23_one.c2 (env : Env) (J : JT) (x1 x2 : V) (h : H) : Ans :=
 bnd (binE false .ptr x1 .nilp) fun t14_13 =>
 bnd2 (gd t14_13 false (some (x1, h)) h) fun t16_14 h_15 =>
 bnd2 (gd t14_13 false (bnd2 (env 48 [t16_14] h_15) fun t17_16 h_17 =>
 some (t17_16, h_17)) h_15) fun t17_18 h_19 =>
 bnd2 (gd t14_13 false (bnd (binE true .int t17_18 (.int .i64 (-1))) fun t18_20 =>
 some (t18_20, h_19)) h_19) fun t18_21 h_22 =>
 bnd (pick t14_13 (.bool true) t18_21) fun t19_23 =>
 bnd2 (gd t19_23 false (some (x2, h_22)) h_22) fun t21_24 h_25 =>
 bnd2 (gd t19_23 false (bnd2 (env 48 [t21_24] h_25) fun t22_26 h_27 =>
 some (t22_26, h_27)) h_25) fun t22_28 h_29 =>
 bnd2 (gd t19_23 false (bnd (binE true .int t22_28 (.int .i64 1)) fun t23_30 =>
 some (t23_30, h_29)) h_29) fun t23_31 h_32 =>
 bnd (pick t19_23 (.bool true) t23_31) fun t24_33 =>
 bnd2 (gd t24_33 false (some (x2, h_32)) h_32) fun t26_34 h_35 =>
 bnd2 (gd t24_33 false (bnd2 (env 53 [t26_34] h_35) fun t27_36 h_37 =>
 some (t27_36, h_37)) h_35) fun t27_38 h_39 =>
 bnd (pick t24_33 (.bool true) t27_38) fun t28_40 =>
 bnd2 (gd t28_40 false (some (x2, h_39)) h_39) fun t30_41 h_42 =>
 bnd2 (gd t28_40 false (bnd2 (env 42 [t30_41, (.int .i64 0)] h_42) fun t31_43 h_44 =>
 some (t31_43, h_44)) h_42) fun t31_45 h_46 =>
 bnd2 (gd t28_40 false (bnd (binE true .int t31_45 (.int .i64 0)) fun t32_47 =>
 some (t32_47, h_46)) h_46) fun t32_48 h_49 =>
 bnd (pick t28_40 (.bool true) t32_48) fun t33_50 =>
 bnd2 (gd t33_50 false (bnd2 (env 104 [(.int .i64 0), (.int .i64 50)] h_49) fun t35_51 h_52 =>
 some (t35_51, h_52)) h_49) fun t35_53 h_54 =>
 bnd2 (gd t33_50 false (bnd (un .not t35_53) fun t36_55 =>
 some (t36_55, h_54)) h_54) fun t36_56 h_57 =>
 bnd (pick t33_50 (.bool true) t36_56) fun t37_58 =>
 cnd t37_58 (
 some ((.bool false), h_57)) (
 busbarlaw23_one.c3 env J x1 x2 h_57)
noncomputable def busbarlaw23_one.c1 (env : Env) (J : JT) (x1 : V) (h : H) : Ans :=
 bnd2 (env 38 [] h) fun t9_6 h_7 =>
 bnd2 (env 41 [t9_6, (.int .i64 1)] h_7) fun t10_8 h_9 =>
 bnd (build (zeroV Tryz.prog 68) [(0, (.int .i64 0)), (1, (.int .i64 1))]) fun t11_10 =>
 bnd2 (env 40 [t10_8, t11_10] h_9) fun t12_11 h_12 =>
 busbarlaw23_one.c2 env J x1 t12_11 h_12
noncomputable def busbarlaw23_one.c0 (env : Env) (J : JT) (h : H) : Ans :=
 bnd2 (bslc (some (5, none, 1)) (zeroV Tryz.prog 5) 1 [(0, (.int .u8 1))] h) fun t6_1 h_2 =>
 bnd (build (zeroV Tryz.prog 68) []) fun t7_3 =>
 bnd2 (env 40 [t6_1, t7_3] h_2) fun t8_4 h_5 =>
 busbarlaw23_one.c1 env J t8_4 h_5
noncomputable def busbarlaw23_one.fs (env : Env) (J : JT) (h : H) : Ans :=
 busbarlaw23_one.c0 env J  h
theorem busbarlaw23_one.fe_eq (env : Env) (J : JT) (h : H) : evF Tryz.prog env J 39 busbarlaw23_one.an [] h = busbarlaw23_one.fs env J  h := by kernel_rfl
theorem busbarlaw23_one.eq {tb : Nat → Option Fa} (ht : tb 39 = some (.plain busbarlaw23_one.an)) (h : H) : Ei Tryz.prog tb 39 [] h = busbarlaw23_one.fs (Ei Tryz.prog tb) (Ji Tryz.prog tb 39 busbarlaw23_one.an)  h := (Ei_eq (an := busbarlaw23_one.an) ht _ h).trans (busbarlaw23_one.fe_eq _ _  h)
noncomputable def busbarlaw23_one.sf : Sf := ⟨fun env J vs h => match vs with | [] => busbarlaw23_one.fs env J  h | _ => none, fun env J id vs h => none⟩
theorem busbarlaw23_one.sfok {tb : Nat → Option Fa} (ht : tb 39 = some (.plain busbarlaw23_one.an)) : SfOk Tryz.prog tb 39 busbarlaw23_one.sf := SfOk.plain (an := busbarlaw23_one.an) ht (fun env J vs h r he => by
  simp only [busbarlaw23_one.sf] at he; split at he
  · rw [busbarlaw23_one.fe_eq]; exact he
  · cases he) (fun env J id vs h r he => by simp only [busbarlaw23_one.sf] at he; cases he)
/- 40 busbar/pair.New -/
noncomputable def pair_New.c5 (env : Env) (J : JT) (x3 x5 x6 x24 : V) (h : H) : Ans :=
 J 0 [x3, x5, x6, x24] h
noncomputable def pair_New.c4 (env : Env) (J : JT) (x3 x5 x6 : V) (h : H) : Ans :=
 pair_New.c5 env J x3 x5 x6 (.int .i64 0) h
noncomputable def pair_New.c3 (env : Env) (J : JT) (x3 x5 x6 : V) (h : H) : Ans :=
 bnd (ld (some 38) h x6) fun t21_16 =>
 bnd (nilChk x5) fun t22_17 =>
 bnd (fieldA (some (some 162, (some 38))) t22_17 0) fun t23_18 =>
 bnd (st (some 38) h t23_18 t21_16) fun h_19 =>
 pair_New.c4 env J x3 x5 x6 h_19
noncomputable def pair_New.c2 (env : Env) (J : JT) (x3 x5 x6 x7 : V) (h : H) : Ans :=
 bnd (binE true .int x7 (.int .i64 0)) fun t18_15 =>
 cnd t18_15 (
 some (x5, h)) (
 pair_New.c3 env J x3 x5 x6 h)
noncomputable def pair_New.c1 (env : Env) (J : JT) (x0 x3 x5 : V) (h : H) : Ans :=
 bnd2 (env 56 [x0] h) fun t14_8 h_9 =>
 bnd (ext t14_8 0) fun t15_10 =>
 bnd (ext t14_8 1) fun t16_11 =>
 bnd2 (al (some (some 38)) (zeroV Tryz.prog 39) h_9) fun t6_12 h_13 =>
 bnd (st (some 38) h_13 t6_12 t15_10) fun h_14 =>
 pair_New.c2 env J x3 x5 t6_12 t16_11 h_14
noncomputable def pair_New.c0 (env : Env) (J : JT) (x0 x3 : V) (h : H) : Ans :=
 bnd2 (env 105 [] h) fun t9_3 h_4 =>
 bnd (build (zeroV Tryz.prog 163) [(2, t9_3), (3, (.bool true))]) fun t10_5 =>
 bnd2 (box (some (some 162)) h_4 t10_5) fun t11_6 h_7 =>
 pair_New.c1 env J x0 x3 t11_6 h_7
noncomputable def pair_New.fs (env : Env) (J : JT) (x0 x1 : V) (h : H) : Ans :=
 bnd2 (box (some (some 68)) h x1) fun t3_1 h_2 =>
 pair_New.c0 env J x0 t3_1 h_2
theorem pair_New.fe_eq (env : Env) (J : JT) (x0 x1 : V) (h : H) : evF Tryz.prog env J 40 pair_New.an [x0, x1] h = pair_New.fs env J x0 x1 h := by kernel_rfl
noncomputable def pair_New.c8 (env : Env) (J : JT) (x3 x5 x6 x8 x24 : V) (h : H) : Ans :=
 bnd (binE false .int x8 (.int .i64 1)) fun t31_21 =>
 bnd (ld (some 38) h x6) fun t32_22 =>
 bnd (indexA (.arr (some 68) 2 none) x3 x8) fun t34_23 =>
 bnd (ld none h t34_23) fun t35_24 =>
 bnd (mns [t35_24, (.int .i64 15)]) fun t36_25 =>
 bnd (mxs [(.int .i64 0), t36_25]) fun t37_26 =>
 bnd (nilChk x5) fun t41_27 =>
 bnd (fieldA (some (some 162, (some 155))) t41_27 1) fun t42_28 =>
 bnd2 (env 16 [t31_21, t32_22, t37_26] h) fun t38_29 h_30 =>
 bnd (ext t38_29 0) fun t39_31 =>
 bnd (ext t38_29 1) fun t40_32 =>
 bnd (indexA (.arr (some 155) 2 none) t42_28 x8) fun t43_33 =>
 bnd (st none h_30 t43_33 t39_31) fun h_34 =>
 bnd (bin .add x24 (.int .i64 1)) fun t44_35 =>
 J 0 [x3, x5, x6, t44_35] h_34
noncomputable def pair_New.c7 (env : Env) (J : JT) (x3 x5 x6 x24 : V) (h : H) : Ans :=
 pair_New.c8 env J x3 x5 x6 x24 x24 h
noncomputable def pair_New.c6 (env : Env) (J : JT) (x3 x5 x6 x24 x25 : V) (h : H) : Ans :=
 cnd x25 (
 pair_New.c7 env J x3 x5 x6 x24 h) (
 some (x5, h))
noncomputable def pair_New.p0 (env : Env) (J : JT) (x3 x5 x6 x24 : V) (h : H) : Ans :=
 bnd (bin .lss x24 (.int .i64 2)) fun t25_20 =>
 pair_New.c6 env J x3 x5 x6 x24 t25_20 h
theorem pair_New.p0_eq (env : Env) (J : JT) (x3 x5 x6 x24 : V) (h : H) : evP Tryz.prog env J 40 pair_New.an 0 [x3, x5, x6, x24] h = pair_New.p0 env J x3 x5 x6 x24 h := by kernel_rfl
theorem pair_New.eq {tb : Nat → Option Fa} (ht : tb 40 = some (.plain pair_New.an)) (x0 x1 : V) (h : H) : Ei Tryz.prog tb 40 [x0, x1] h = pair_New.fs (Ei Tryz.prog tb) (Ji Tryz.prog tb 40 pair_New.an) x0 x1 h := (Ei_eq (an := pair_New.an) ht _ h).trans (pair_New.fe_eq _ _ x0 x1 h)
theorem pair_New.J0_eq {tb : Nat → Option Fa} (x3 x5 x6 x24 : V) (h : H) : Ji Tryz.prog tb 40 pair_New.an 0 [x3, x5, x6, x24] h = pair_New.p0 (Ei Tryz.prog tb) (Ji Tryz.prog tb 40 pair_New.an) x3 x5 x6 x24 h := (Ji_eq _ _ h).trans (pair_New.p0_eq _ _ x3 x5 x6 x24 h)
noncomputable def pair_New.sf : Sf := ⟨fun env J vs h => match vs with | [x0, x1] => pair_New.fs env J x0 x1 h | _ => none, fun env J id vs h => bif Nat.beq id 0 then (match vs with | [x3, x5, x6, x24] => pair_New.p0 env J x3 x5 x6 x24 h | _ => none) else (none)⟩
theorem pair_New.sfok {tb : Nat → Option Fa} (ht : tb 40 = some (.plain pair_New.an)) : SfOk Tryz.prog tb 40 pair_New.sf := SfOk.plain (an := pair_New.an) ht (fun env J vs h r he => by
  simp only [pair_New.sf] at he; split at he
  · rw [pair_New.fe_eq]; exact he
  · cases he) (fun env J id vs h r he => by
  simp only [pair_New.sf] at he
  cases hb : Nat.beq id 0
  case true =>
    rw [hb] at he; rw [Nat.eq_of_beq_eq_true hb]; simp only [cond_true] at he; split at he
    · rw [pair_New.p0_eq]; exact he
    · cases he
  rw [hb] at he; simp only [cond_false] at he; clear hb
  cases he)
end Go.Proofs.YtbgdidfegkmafaaGreat
