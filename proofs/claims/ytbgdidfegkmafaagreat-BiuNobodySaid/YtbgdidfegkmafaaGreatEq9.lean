import Derived.Test.YtbgdidfegkmafaaGreatTb
import Derived.Test.YtbgdidfegkmafaaGreatAmD
namespace Go.Proofs.YtbgdidfegkmafaaGreat
open Go Go.AM Go.Proofs
set_option linter.unusedVariables false
set_option maxRecDepth 100000
set_option maxHeartbeats 4000000
/- 246 busbar/walk.window -/
noncomputable def walk_window.c7 (env : Env) (J : JT) (x4 x6 x42 : V) (h : H) : Ans :=
 cnd x42 (
 bnd (ld (some 130) h x6) fun t44_50 =>
 bnd (st (some 130) h x4 t44_50) fun h_51 =>
 bnd (ld (some 130) h_51 x4) fun r_52 =>
 retV h_51 [r_52,(.bool true)]) (
 bnd (build (zeroV Tryz.prog 131) []) fun t45_53 =>
 bnd (st (some 130) h x4 t45_53) fun h_54 =>
 bnd (ld (some 130) h_54 x4) fun r_55 =>
 retV h_54 [r_55,(.bool false)])
noncomputable def walk_window.c6 (env : Env) (J : JT) (x1 x4 x6 x17 x36 : V) (h : H) : Ans :=
 cnd x36 (
 bnd2 (bslc (some (3, none, 8)) (zeroV Tryz.prog 3) 1 [(0, x1)] h) fun t39_42 h_43 =>
 bnd (fieldA (some (some 130, none)) x6 5) fun t40_44 =>
 bnd (st none h_43 t40_44 t39_42) fun h_45 =>
 bnd (ld (some 130) h_45 x6) fun t41_46 =>
 bnd (st (some 130) h_45 x4 t41_46) fun h_47 =>
 bnd (ld (some 130) h_47 x4) fun r_48 =>
 retV h_47 [r_48,(.bool true)]) (
 bnd (binE false .int x17 (.int .i64 3)) fun t43_49 =>
 walk_window.c7 env J x4 x6 t43_49 h)
noncomputable def walk_window.c5 (env : Env) (J : JT) (x1 x2 x4 x6 x17 x26 : V) (h : H) : Ans :=
 cnd x26 (
 bnd (fieldA (some (some 224, none)) x2 4) fun t28_30 =>
 bnd (ld none h t28_30) fun t29_31 =>
 bnd (fieldA (some (some 224, none)) x2 3) fun t30_32 =>
 bnd (ld none h t30_32) fun t31_33 =>
 bnd2 (env 265 [t29_31, t31_33, x1] h) fun t33_34 h_35 =>
 bnd (fieldA (some (some 130, none)) x6 4) fun t34_36 =>
 bnd (st none h_35 t34_36 t33_34) fun h_37 =>
 bnd (ld (some 130) h_37 x6) fun t35_38 =>
 bnd (st (some 130) h_37 x4 t35_38) fun h_39 =>
 bnd (ld (some 130) h_39 x4) fun r_40 =>
 retV h_39 [r_40,(.bool true)]) (
 bnd (binE false .int x17 (.int .i64 2)) fun t37_41 =>
 walk_window.c6 env J x1 x4 x6 x17 t37_41 h)
noncomputable def walk_window.c4 (env : Env) (J : JT) (x1 x2 x4 x6 x17 x23 : V) (h : H) : Ans :=
 cnd x23 (
 bnd (build (zeroV Tryz.prog 131) [(0, (.int .i64 2))]) fun t25_26 =>
 bnd (st (some 130) h x4 t25_26) fun h_27 =>
 bnd (ld (some 130) h_27 x4) fun r_28 =>
 retV h_27 [r_28,(.bool true)]) (
 bnd (binE false .int x17 (.int .i64 1)) fun t27_29 =>
 walk_window.c5 env J x1 x2 x4 x6 x17 t27_29 h)
noncomputable def walk_window.c3 (env : Env) (J : JT) (x1 x2 x4 x6 x17 x18 : V) (h : H) : Ans :=
 cnd x18 (
 bnd (fieldA (some (some 224, none)) x2 5) fun t20_20 =>
 bnd (ld none h t20_20) fun t21_21 =>
 bnd (build (zeroV Tryz.prog 131) [(0, (.int .i64 1)), (1, t21_21)]) fun t22_22 =>
 bnd (st (some 130) h x4 t22_22) fun h_23 =>
 bnd (ld (some 130) h_23 x4) fun r_24 =>
 retV h_23 [r_24,(.bool true)]) (
 bnd (binE false .int x17 (.int .i64 5)) fun t24_25 =>
 walk_window.c4 env J x1 x2 x4 x6 x17 t24_25 h)
noncomputable def walk_window.c2 (env : Env) (J : JT) (x1 x2 x4 x6 x17 : V) (h : H) : Ans :=
 bnd (binE false .int x17 (.int .i64 4)) fun t19_19 =>
 walk_window.c3 env J x1 x2 x4 x6 x17 t19_19 h
noncomputable def walk_window.c1 (env : Env) (J : JT) (x1 x2 x4 x6 : V) (h : H) : Ans :=
 bnd (fieldA (some (some 224, none)) x2 0) fun t16_17 =>
 bnd (ld none h t16_17) fun t17_18 =>
 walk_window.c2 env J x1 x2 x4 x6 t17_18 h
noncomputable def walk_window.c0 (env : Env) (J : JT) (x1 x2 x4 : V) (h : H) : Ans :=
 bnd (fieldA (some (some 224, none)) x2 2) fun t7_5 =>
 bnd (ld none h t7_5) fun t8_6 =>
 bnd (fieldA (some (some 224, none)) x2 1) fun t9_7 =>
 bnd (ld none h t9_7) fun t10_8 =>
 bnd (fieldA (some (some 224, none)) x2 4) fun t11_9 =>
 bnd (ld none h t11_9) fun t12_10 =>
 bnd2 (env 265 [t12_10, (.int .i64 (-1)), x1] h) fun t14_11 h_12 =>
 bnd (ld none h_12 t7_5) fun t8_57 =>
 chkS t8_57 t8_6 (
 bnd (ld none h_12 t9_7) fun t10_56 =>
 chkS t10_56 t10_8 (
 bnd (build (zeroV Tryz.prog 131) [(2, t8_6), (3, t10_8), (4, t14_11)]) fun t15_13 =>
 bnd2 (al (some (some 130)) (zeroV Tryz.prog 131) h_12) fun t6_14 h_15 =>
 bnd (st (some 130) h_15 t6_14 t15_13) fun h_16 =>
 walk_window.c1 env J x1 x2 x4 t6_14 h_16))
noncomputable def walk_window.fs (env : Env) (J : JT) (x0 x1 : V) (h : H) : Ans :=
 bnd2 (box (some (some 224)) h x0) fun t2_1 h_2 =>
 bnd2 (al (some (some 130)) (zeroV Tryz.prog 131) h_2) fun t4_3 h_4 =>
 walk_window.c0 env J x1 t2_1 t4_3 h_4
theorem walk_window.fe_eq (env : Env) (J : JT) (x0 x1 : V) (h : H) : evF Tryz.prog env J 246 walk_window.an [x0, x1] h = walk_window.fs env J x0 x1 h := by kernel_rfl
theorem walk_window.eq {tb : Nat → Option Fa} (ht : tb 246 = some (.plain walk_window.an)) (x0 x1 : V) (h : H) : Ei Tryz.prog tb 246 [x0, x1] h = walk_window.fs (Ei Tryz.prog tb) (Ji Tryz.prog tb 246 walk_window.an) x0 x1 h := (Ei_eq (an := walk_window.an) ht _ h).trans (walk_window.fe_eq _ _ x0 x1 h)
noncomputable def walk_window.sf : Sf := ⟨fun env J vs h => match vs with | [x0, x1] => walk_window.fs env J x0 x1 h | _ => none, fun env J id vs h => none⟩
theorem walk_window.sfok {tb : Nat → Option Fa} (ht : tb 246 = some (.plain walk_window.an)) : SfOk Tryz.prog tb 246 walk_window.sf := SfOk.plain (an := walk_window.an) ht (fun env J vs h r he => by
  simp only [walk_window.sf] at he; split at he
  · rw [walk_window.fe_eq]; exact he
  · cases he) (fun env J id vs h r he => by simp only [walk_window.sf] at he; cases he)
/- 247 (busbar/plan.Window).slot -/
noncomputable def plan_Window_slot.c4 (env : Env) (J : JT) (x2 x3 x6 x7 : V) (h : H) : Ans :=
 bnd (fieldA (some (some 130, none)) x3 5) fun t37_43 =>
 bnd (ld none h t37_43) fun t38_44 =>
 bnd2 (env 253 [t38_44, x2] h) fun t40_45 h_46 =>
 bnd (fieldA (some (some 58, none)) x7 7) fun t41_47 =>
 bnd (st none h_46 t41_47 t40_45) fun h_48 =>
 bnd (ld (some 58) h_48 x7) fun t42_49 =>
 bnd (st (some 58) h_48 x6 t42_49) fun h_50 =>
 bnd (ld (some 58) h_50 x6) fun r_51 =>
 some (r_51, h_50)
noncomputable def plan_Window_slot.c3 (env : Env) (J : JT) (x2 x3 x6 x7 : V) (h : H) : Ans :=
 bnd (fieldA (some (some 130, none)) x3 4) fun t27_32 =>
 bnd (ld none h t27_32) fun t28_33 =>
 bnd (fieldA (some (some 130, none)) x3 4) fun t29_34 =>
 bnd (ld none h t29_34) fun t30_35 =>
 bnd (lenV .slc h t30_35) fun t31_36 =>
 bnd (mns [t31_36, (.int .i64 4)]) fun t32_37 =>
 bnd (slcV (.slc none) t28_33 none (some t32_37) none) fun t33_38 =>
 bnd2 (env 252 [t33_38, x2] h) fun t35_39 h_40 =>
 bnd (fieldA (some (some 58, none)) x7 6) fun t36_41 =>
 bnd (st none h_40 t36_41 t35_39) fun h_42 =>
 plan_Window_slot.c4 env J x2 x3 x6 x7 h_42
noncomputable def plan_Window_slot.c2 (env : Env) (J : JT) (x2 x3 x6 x7 x16 : V) (h : H) : Ans :=
 cnd x16 (
 bnd (fieldA (some (some 130, none)) x3 2) fun t17_17 =>
 bnd (ld none h t17_17) fun t18_18 =>
 bnd (fieldA (some (some 130, none)) x3 3) fun t20_19 =>
 bnd (ld none h t20_19) fun t21_20 =>
 bnd (ld (some 130) h x3) fun t22_21 =>
 bnd2 (env 240 [t18_18, (.int .i64 8)] h) fun t19_22 h_23 =>
 bnd (ld none h_23 t20_19) fun t21_55 =>
 chkS t21_55 t21_20 (
 bnd (ld (some 130) h_23 x3) fun t22_54 =>
 chkS t22_54 t22_21 (
 bnd2 (env 241 [t22_21] h_23) fun t23_24 h_25 =>
 bnd (ld none h_25 t20_19) fun t21_53 =>
 chkS t21_53 t21_20 (
 bnd (fieldA (some (some 58, none)) x7 3) fun t24_26 =>
 bnd (st none h_25 t24_26 t19_22) fun h_27 =>
 bnd (ld none h_27 t20_19) fun t21_52 =>
 chkS t21_52 t21_20 (
 bnd (fieldA (some (some 58, none)) x7 4) fun t25_28 =>
 bnd (st none h_27 t25_28 t21_20) fun h_29 =>
 bnd (fieldA (some (some 58, none)) x7 5) fun t26_30 =>
 bnd (st none h_29 t26_30 t23_24) fun h_31 =>
 plan_Window_slot.c3 env J x2 x3 x6 x7 h_31))))) (
 bnd (ld (some 58) h x7) fun t42_56 =>
 bnd (st (some 58) h x6 t42_56) fun h_57 =>
 bnd (ld (some 58) h_57 x6) fun r_58 =>
 some (r_58, h_57))
noncomputable def plan_Window_slot.c1 (env : Env) (J : JT) (x2 x3 x6 x7 : V) (h : H) : Ans :=
 bnd (fieldA (some (some 130, none)) x3 0) fun t14_14 =>
 bnd (ld none h t14_14) fun t15_15 =>
 bnd (binE false .int t15_15 (.int .i64 0)) fun t16_16 =>
 plan_Window_slot.c2 env J x2 x3 x6 x7 t16_16 h
noncomputable def plan_Window_slot.c0 (env : Env) (J : JT) (x1 x2 x3 x6 : V) (h : H) : Ans :=
 bnd (fieldA (some (some 130, none)) x3 0) fun t8_5 =>
 bnd (ld none h t8_5) fun t9_6 =>
 bnd (ld (some 130) h x3) fun t11_7 =>
 bnd2 (env 101 [t11_7] h) fun t12_8 h_9 =>
 bnd (ld none h_9 t8_5) fun t9_59 =>
 chkS t9_59 t9_6 (
 bnd (build (zeroV Tryz.prog 59) [(0, t9_6), (1, x1), (2, t12_8), (6, (.int .i64 (-1)))]) fun t13_10 =>
 bnd2 (al (some (some 58)) (zeroV Tryz.prog 59) h_9) fun t7_11 h_12 =>
 bnd (st (some 58) h_12 t7_11 t13_10) fun h_13 =>
 plan_Window_slot.c1 env J x2 x3 x6 t7_11 h_13)
noncomputable def plan_Window_slot.fs (env : Env) (J : JT) (x0 x1 x2 : V) (h : H) : Ans :=
 bnd2 (box (some (some 130)) h x0) fun t3_1 h_2 =>
 bnd2 (al (some (some 58)) (zeroV Tryz.prog 59) h_2) fun t6_3 h_4 =>
 plan_Window_slot.c0 env J x1 x2 t3_1 t6_3 h_4
theorem plan_Window_slot.fe_eq (env : Env) (J : JT) (x0 x1 x2 : V) (h : H) : evF Tryz.prog env J 247 plan_Window_slot.an [x0, x1, x2] h = plan_Window_slot.fs env J x0 x1 x2 h := by kernel_rfl
theorem plan_Window_slot.eq {tb : Nat → Option Fa} (ht : tb 247 = some (.plain plan_Window_slot.an)) (x0 x1 x2 : V) (h : H) : Ei Tryz.prog tb 247 [x0, x1, x2] h = plan_Window_slot.fs (Ei Tryz.prog tb) (Ji Tryz.prog tb 247 plan_Window_slot.an) x0 x1 x2 h := (Ei_eq (an := plan_Window_slot.an) ht _ h).trans (plan_Window_slot.fe_eq _ _ x0 x1 x2 h)
noncomputable def plan_Window_slot.sf : Sf := ⟨fun env J vs h => match vs with | [x0, x1, x2] => plan_Window_slot.fs env J x0 x1 x2 h | _ => none, fun env J id vs h => none⟩
theorem plan_Window_slot.sfok {tb : Nat → Option Fa} (ht : tb 247 = some (.plain plan_Window_slot.an)) : SfOk Tryz.prog tb 247 plan_Window_slot.sf := SfOk.plain (an := plan_Window_slot.an) ht (fun env J vs h r he => by
  simp only [plan_Window_slot.sf] at he; split at he
  · rw [plan_Window_slot.fe_eq]; exact he
  · cases he) (fun env J id vs h r he => by simp only [plan_Window_slot.sf] at he; cases he)
/- 248 slices.IndexFunc[[]int,int] -/
noncomputable def slices_IndexFunc.c1 (env : Env) (J : JT) (x0 x1 x7 x8 : V) (h : H) : Ans :=
 J 0 [x0, x1, x7, x8] h
noncomputable def slices_IndexFunc.c0 (env : Env) (J : JT) (x0 x1 : V) (h : H) : Ans :=
 bnd (lenV .slc h x0) fun t7_1 =>
 slices_IndexFunc.c1 env J x0 x1 t7_1 (.int .i64 0) h
noncomputable def slices_IndexFunc.fs (env : Env) (J : JT) (x0 x1 : V) (h : H) : Ans :=
 slices_IndexFunc.c0 env J x0 x1 h
theorem slices_IndexFunc.fe_eq (env : Env) (J : JT) (x0 x1 : V) (h : H) : evF Tryz.prog env J 248 slices_IndexFunc.an [x0, x1] h = slices_IndexFunc.fs env J x0 x1 h := by kernel_rfl
noncomputable def slices_IndexFunc.c4 (env : Env) (J : JT) (x0 x1 x5 x7 x8 : V) (h : H) : Ans :=
 bnd (indexA (.slc none) x0 x5) fun t14_3 =>
 bnd (ld none h t14_3) fun t15_4 =>
 bnd2 (callV env x1 [t15_4] h) fun t16_5 h_6 =>
 cnd t16_5 (
 some (x5, h_6)) (
 bnd (bin .add x8 (.int .i64 1)) fun t18_7 =>
 J 0 [x0, x1, x7, t18_7] h_6)
noncomputable def slices_IndexFunc.c3 (env : Env) (J : JT) (x0 x1 x7 x8 : V) (h : H) : Ans :=
 slices_IndexFunc.c4 env J x0 x1 x8 x7 x8 h
noncomputable def slices_IndexFunc.c2 (env : Env) (J : JT) (x0 x1 x7 x8 x9 : V) (h : H) : Ans :=
 cnd x9 (
 slices_IndexFunc.c3 env J x0 x1 x7 x8 h) (
 some ((.int .i64 (-1)), h))
noncomputable def slices_IndexFunc.p0 (env : Env) (J : JT) (x0 x1 x7 x8 : V) (h : H) : Ans :=
 bnd (bin .lss x8 x7) fun t9_2 =>
 slices_IndexFunc.c2 env J x0 x1 x7 x8 t9_2 h
theorem slices_IndexFunc.p0_eq (env : Env) (J : JT) (x0 x1 x7 x8 : V) (h : H) : evP Tryz.prog env J 248 slices_IndexFunc.an 0 [x0, x1, x7, x8] h = slices_IndexFunc.p0 env J x0 x1 x7 x8 h := by kernel_rfl
theorem slices_IndexFunc.eq {tb : Nat → Option Fa} (ht : tb 248 = some (.plain slices_IndexFunc.an)) (x0 x1 : V) (h : H) : Ei Tryz.prog tb 248 [x0, x1] h = slices_IndexFunc.fs (Ei Tryz.prog tb) (Ji Tryz.prog tb 248 slices_IndexFunc.an) x0 x1 h := (Ei_eq (an := slices_IndexFunc.an) ht _ h).trans (slices_IndexFunc.fe_eq _ _ x0 x1 h)
theorem slices_IndexFunc.J0_eq {tb : Nat → Option Fa} (x0 x1 x7 x8 : V) (h : H) : Ji Tryz.prog tb 248 slices_IndexFunc.an 0 [x0, x1, x7, x8] h = slices_IndexFunc.p0 (Ei Tryz.prog tb) (Ji Tryz.prog tb 248 slices_IndexFunc.an) x0 x1 x7 x8 h := (Ji_eq _ _ h).trans (slices_IndexFunc.p0_eq _ _ x0 x1 x7 x8 h)
noncomputable def slices_IndexFunc.sf : Sf := ⟨fun env J vs h => match vs with | [x0, x1] => slices_IndexFunc.fs env J x0 x1 h | _ => none, fun env J id vs h => bif Nat.beq id 0 then (match vs with | [x0, x1, x7, x8] => slices_IndexFunc.p0 env J x0 x1 x7 x8 h | _ => none) else (none)⟩
theorem slices_IndexFunc.sfok {tb : Nat → Option Fa} (ht : tb 248 = some (.plain slices_IndexFunc.an)) : SfOk Tryz.prog tb 248 slices_IndexFunc.sf := SfOk.plain (an := slices_IndexFunc.an) ht (fun env J vs h r he => by
  simp only [slices_IndexFunc.sf] at he; split at he
  · rw [slices_IndexFunc.fe_eq]; exact he
  · cases he) (fun env J id vs h r he => by
  simp only [slices_IndexFunc.sf] at he
  cases hb : Nat.beq id 0
  case true =>
    rw [hb] at he; rw [Nat.eq_of_beq_eq_true hb]; simp only [cond_true] at he; split at he
    · rw [slices_IndexFunc.p0_eq]; exact he
    · cases he
  rw [hb] at he; simp only [cond_false] at he; clear hb
  cases he)
/- 250 busbar/valid.named -/
noncomputable def valid_named.c0 (env : Env) (J : JT) (x0 x3 : V) (h : H) : Ans :=
 bnd (lenV .slc h x0) fun t6_3 =>
 bnd (binE false .int t6_3 (.int .i64 0)) fun t7_4 =>
 bnd2 (gd t7_4 false (some (x0, h)) h) fun t9_5 h_6 =>
 bnd2 (gd t7_4 false (bnd (mkFn (.func 266) [] [x3]) fun t10_7 =>
 some (t10_7, h_6)) h_6) fun t10_8 h_9 =>
 bnd2 (gd t7_4 false (bnd2 (env 208 [t9_5, t10_8] h_9) fun t11_10 h_11 =>
 some (t11_10, h_11)) h_9) fun t11_12 h_13 =>
 bnd (pick t7_4 (.bool true) t11_12) fun t12_14 =>
 cnd t12_14 (
 some ((.int .i64 2), h_13)) (
 some ((.int .i64 0), h_13))
noncomputable def valid_named.fs (env : Env) (J : JT) (x0 x1 : V) (h : H) : Ans :=
 bnd2 (box (some none) h x1) fun t3_1 h_2 =>
 valid_named.c0 env J x0 t3_1 h_2
theorem valid_named.fe_eq (env : Env) (J : JT) (x0 x1 : V) (h : H) : evF Tryz.prog env J 250 valid_named.an [x0, x1] h = valid_named.fs env J x0 x1 h := by kernel_rfl
theorem valid_named.eq {tb : Nat → Option Fa} (ht : tb 250 = some (.plain valid_named.an)) (x0 x1 : V) (h : H) : Ei Tryz.prog tb 250 [x0, x1] h = valid_named.fs (Ei Tryz.prog tb) (Ji Tryz.prog tb 250 valid_named.an) x0 x1 h := (Ei_eq (an := valid_named.an) ht _ h).trans (valid_named.fe_eq _ _ x0 x1 h)
noncomputable def valid_named.sf : Sf := ⟨fun env J vs h => match vs with | [x0, x1] => valid_named.fs env J x0 x1 h | _ => none, fun env J id vs h => none⟩
theorem valid_named.sfok {tb : Nat → Option Fa} (ht : tb 250 = some (.plain valid_named.an)) : SfOk Tryz.prog tb 250 valid_named.sf := SfOk.plain (an := valid_named.an) ht (fun env J vs h r he => by
  simp only [valid_named.sf] at he; split at he
  · rw [valid_named.fe_eq]; exact he
  · cases he) (fun env J id vs h r he => by simp only [valid_named.sf] at he; cases he)
/- 251 busbar/valid.twice -/
noncomputable def valid_twice.c1 (env : Env) (J : JT) (x0 x7 x8 x9 : V) (h : H) : Ans :=
 J 0 [x0, x7, x8, x9] h
noncomputable def valid_twice.c0 (env : Env) (J : JT) (x0 x1 : V) (h : H) : Ans :=
 bnd (lenV .slc h x1) fun t8_1 =>
 valid_twice.c1 env J x0 x1 t8_1 (.int .i64 0) h
noncomputable def valid_twice.fs (env : Env) (J : JT) (x0 x1 : V) (h : H) : Ans :=
 valid_twice.c0 env J x0 x1 h
theorem valid_twice.fe_eq (env : Env) (J : JT) (x0 x1 : V) (h : H) : evF Tryz.prog env J 251 valid_twice.an [x0, x1] h = valid_twice.fs env J x0 x1 h := by kernel_rfl
noncomputable def valid_twice.c4 (env : Env) (J : JT) (x0 x6 x7 x8 x9 : V) (h : H) : Ans :=
 bnd (mlook .int (zeroV Tryz.prog 4) h x0 x6 false) fun t15_5 =>
 cnd t15_5 (
 some ((.bool true), h)) (
 bnd (upd .int h x0 x6 (.bool true)) fun h_6 =>
 bnd (bin .add x9 (.int .i64 1)) fun t18_7 =>
 J 0 [x0, x7, x8, t18_7] h_6)
noncomputable def valid_twice.c3 (env : Env) (J : JT) (x0 x7 x8 x9 : V) (h : H) : Ans :=
 bnd (indexA (.slc none) x7 x9) fun t11_3 =>
 bnd (ld none h t11_3) fun t12_4 =>
 valid_twice.c4 env J x0 t12_4 x7 x8 x9 h
noncomputable def valid_twice.c2 (env : Env) (J : JT) (x0 x7 x8 x9 x10 : V) (h : H) : Ans :=
 cnd x10 (
 valid_twice.c3 env J x0 x7 x8 x9 h) (
 some ((.bool false), h))
noncomputable def valid_twice.p0 (env : Env) (J : JT) (x0 x7 x8 x9 : V) (h : H) : Ans :=
 bnd (bin .lss x9 x8) fun t10_2 =>
 valid_twice.c2 env J x0 x7 x8 x9 t10_2 h
theorem valid_twice.p0_eq (env : Env) (J : JT) (x0 x7 x8 x9 : V) (h : H) : evP Tryz.prog env J 251 valid_twice.an 0 [x0, x7, x8, x9] h = valid_twice.p0 env J x0 x7 x8 x9 h := by kernel_rfl
theorem valid_twice.eq {tb : Nat → Option Fa} (ht : tb 251 = some (.plain valid_twice.an)) (x0 x1 : V) (h : H) : Ei Tryz.prog tb 251 [x0, x1] h = valid_twice.fs (Ei Tryz.prog tb) (Ji Tryz.prog tb 251 valid_twice.an) x0 x1 h := (Ei_eq (an := valid_twice.an) ht _ h).trans (valid_twice.fe_eq _ _ x0 x1 h)
theorem valid_twice.J0_eq {tb : Nat → Option Fa} (x0 x7 x8 x9 : V) (h : H) : Ji Tryz.prog tb 251 valid_twice.an 0 [x0, x7, x8, x9] h = valid_twice.p0 (Ei Tryz.prog tb) (Ji Tryz.prog tb 251 valid_twice.an) x0 x7 x8 x9 h := (Ji_eq _ _ h).trans (valid_twice.p0_eq _ _ x0 x7 x8 x9 h)
noncomputable def valid_twice.sf : Sf := ⟨fun env J vs h => match vs with | [x0, x1] => valid_twice.fs env J x0 x1 h | _ => none, fun env J id vs h => bif Nat.beq id 0 then (match vs with | [x0, x7, x8, x9] => valid_twice.p0 env J x0 x7 x8 x9 h | _ => none) else (none)⟩
theorem valid_twice.sfok {tb : Nat → Option Fa} (ht : tb 251 = some (.plain valid_twice.an)) : SfOk Tryz.prog tb 251 valid_twice.sf := SfOk.plain (an := valid_twice.an) ht (fun env J vs h r he => by
  simp only [valid_twice.sf] at he; split at he
  · rw [valid_twice.fe_eq]; exact he
  · cases he) (fun env J id vs h r he => by
  simp only [valid_twice.sf] at he
  cases hb : Nat.beq id 0
  case true =>
    rw [hb] at he; rw [Nat.eq_of_beq_eq_true hb]; simp only [cond_true] at he; split at he
    · rw [valid_twice.p0_eq]; exact he
    · cases he
  rw [hb] at he; simp only [cond_false] at he; clear hb
  cases he)
/- 252 slices.Index[[]int,int] -/
noncomputable def slices_Index.c1 (env : Env) (J : JT) (x0 x1 x7 x8 : V) (h : H) : Ans :=
 J 0 [x0, x1, x7, x8] h
noncomputable def slices_Index.c0 (env : Env) (J : JT) (x0 x1 : V) (h : H) : Ans :=
 bnd (lenV .slc h x0) fun t7_1 =>
 slices_Index.c1 env J x0 x1 t7_1 (.int .i64 0) h
noncomputable def slices_Index.fs (env : Env) (J : JT) (x0 x1 : V) (h : H) : Ans :=
 slices_Index.c0 env J x0 x1 h
theorem slices_Index.fe_eq (env : Env) (J : JT) (x0 x1 : V) (h : H) : evF Tryz.prog env J 252 slices_Index.an [x0, x1] h = slices_Index.fs env J x0 x1 h := by kernel_rfl
noncomputable def slices_Index.c4 (env : Env) (J : JT) (x0 x1 x5 x7 x8 : V) (h : H) : Ans :=
 bnd (indexA (.slc none) x0 x5) fun t14_3 =>
 bnd (ld none h t14_3) fun t15_4 =>
 bnd (binE false .int x1 t15_4) fun t16_5 =>
 cnd t16_5 (
 some (x5, h)) (
 bnd (bin .add x8 (.int .i64 1)) fun t18_6 =>
 J 0 [x0, x1, x7, t18_6] h)
noncomputable def slices_Index.c3 (env : Env) (J : JT) (x0 x1 x7 x8 : V) (h : H) : Ans :=
 slices_Index.c4 env J x0 x1 x8 x7 x8 h
noncomputable def slices_Index.c2 (env : Env) (J : JT) (x0 x1 x7 x8 x9 : V) (h : H) : Ans :=
 cnd x9 (
 slices_Index.c3 env J x0 x1 x7 x8 h) (
 some ((.int .i64 (-1)), h))
noncomputable def slices_Index.p0 (env : Env) (J : JT) (x0 x1 x7 x8 : V) (h : H) : Ans :=
 bnd (bin .lss x8 x7) fun t9_2 =>
 slices_Index.c2 env J x0 x1 x7 x8 t9_2 h
theorem slices_Index.p0_eq (env : Env) (J : JT) (x0 x1 x7 x8 : V) (h : H) : evP Tryz.prog env J 252 slices_Index.an 0 [x0, x1, x7, x8] h = slices_Index.p0 env J x0 x1 x7 x8 h := by kernel_rfl
theorem slices_Index.eq {tb : Nat → Option Fa} (ht : tb 252 = some (.plain slices_Index.an)) (x0 x1 : V) (h : H) : Ei Tryz.prog tb 252 [x0, x1] h = slices_Index.fs (Ei Tryz.prog tb) (Ji Tryz.prog tb 252 slices_Index.an) x0 x1 h := (Ei_eq (an := slices_Index.an) ht _ h).trans (slices_Index.fe_eq _ _ x0 x1 h)
theorem slices_Index.J0_eq {tb : Nat → Option Fa} (x0 x1 x7 x8 : V) (h : H) : Ji Tryz.prog tb 252 slices_Index.an 0 [x0, x1, x7, x8] h = slices_Index.p0 (Ei Tryz.prog tb) (Ji Tryz.prog tb 252 slices_Index.an) x0 x1 x7 x8 h := (Ji_eq _ _ h).trans (slices_Index.p0_eq _ _ x0 x1 x7 x8 h)
noncomputable def slices_Index.sf : Sf := ⟨fun env J vs h => match vs with | [x0, x1] => slices_Index.fs env J x0 x1 h | _ => none, fun env J id vs h => bif Nat.beq id 0 then (match vs with | [x0, x1, x7, x8] => slices_Index.p0 env J x0 x1 x7 x8 h | _ => none) else (none)⟩
theorem slices_Index.sfok {tb : Nat → Option Fa} (ht : tb 252 = some (.plain slices_Index.an)) : SfOk Tryz.prog tb 252 slices_Index.sf := SfOk.plain (an := slices_Index.an) ht (fun env J vs h r he => by
  simp only [slices_Index.sf] at he; split at he
  · rw [slices_Index.fe_eq]; exact he
  · cases he) (fun env J id vs h r he => by
  simp only [slices_Index.sf] at he
  cases hb : Nat.beq id 0
  case true =>
    rw [hb] at he; rw [Nat.eq_of_beq_eq_true hb]; simp only [cond_true] at he; split at he
    · rw [slices_Index.p0_eq]; exact he
    · cases he
  rw [hb] at he; simp only [cond_false] at he; clear hb
  cases he)
/- 253 slices.Contains[[]int,int] -/
noncomputable def slices_Contains.fs (env : Env) (J : JT) (x0 x1 : V) (h : H) : Ans :=
 bnd2 (env 252 [x0, x1] h) fun t7_1 h_2 =>
 bnd (bin .geq t7_1 (.int .i64 0)) fun t8_3 =>
 some (t8_3, h_2)
theorem slices_Contains.fe_eq (env : Env) (J : JT) (x0 x1 : V) (h : H) : evF Tryz.prog env J 253 slices_Contains.an [x0, x1] h = slices_Contains.fs env J x0 x1 h := by kernel_rfl
theorem slices_Contains.eq {tb : Nat → Option Fa} (ht : tb 253 = some (.plain slices_Contains.an)) (x0 x1 : V) (h : H) : Ei Tryz.prog tb 253 [x0, x1] h = slices_Contains.fs (Ei Tryz.prog tb) (Ji Tryz.prog tb 253 slices_Contains.an) x0 x1 h := (Ei_eq (an := slices_Contains.an) ht _ h).trans (slices_Contains.fe_eq _ _ x0 x1 h)
noncomputable def slices_Contains.sf : Sf := ⟨fun env J vs h => match vs with | [x0, x1] => slices_Contains.fs env J x0 x1 h | _ => none, fun env J id vs h => none⟩
theorem slices_Contains.sfok {tb : Nat → Option Fa} (ht : tb 253 = some (.plain slices_Contains.an)) : SfOk Tryz.prog tb 253 slices_Contains.sf := SfOk.plain (an := slices_Contains.an) ht (fun env J vs h r he => by
  simp only [slices_Contains.sf] at he; split at he
  · rw [slices_Contains.fe_eq]; exact he
  · cases he) (fun env J id vs h r he => by simp only [slices_Contains.sf] at he; cases he)
/- 254 (busbar/cmd.Command).Clean -/
noncomputable def cmd_Command_Clean.c3 (env : Env) (J : JT) (x1 x2 x3 x4 x11 x12 x13 : V) (h : H) : Ans :=
 J 0 [x1, x2, x3, x4, x11, x12, x13] h
noncomputable def cmd_Command_Clean.c2 (env : Env) (J : JT) (x1 x2 x3 x4 : V) (h : H) : Ans :=
 bnd2 (env 256 [x3] h) fun t11_13 h_14 =>
 bnd (lenV .slc h_14 t11_13) fun t12_15 =>
 cmd_Command_Clean.c3 env J x1 x2 x3 x4 t11_13 t12_15 (.int .i64 0) h_14
noncomputable def cmd_Command_Clean.c1 (env : Env) (J : JT) (x1 x2 x3 : V) (h : H) : Ans :=
 bnd2 (env 256 [x1] h) fun t10_11 h_12 =>
 cmd_Command_Clean.c2 env J x1 x2 x3 t10_11 h_12
noncomputable def cmd_Command_Clean.c0 (env : Env) (J : JT) (x1 x2 : V) (h : H) : Ans :=
 bnd (fieldA (some (some 224, none)) x1 0) fun t7_5 =>
 bnd (ld none h t7_5) fun t8_6 =>
 bnd (build (zeroV Tryz.prog 225) [(0, t8_6)]) fun t9_7 =>
 bnd2 (al (some (some 224)) (zeroV Tryz.prog 225) h) fun t3_8 h_9 =>
 bnd (st (some 224) h_9 t3_8 t9_7) fun h_10 =>
 cmd_Command_Clean.c1 env J x1 x2 t3_8 h_10
noncomputable def cmd_Command_Clean.fs (env : Env) (J : JT) (x0 : V) (h : H) : Ans :=
 bnd2 (box (some (some 224)) h x0) fun t1_1 h_2 =>
 bnd2 (al (some (some 224)) (zeroV Tryz.prog 225) h_2) fun t2_3 h_4 =>
 cmd_Command_Clean.c0 env J t1_1 t2_3 h_4
theorem cmd_Command_Clean.fe_eq (env : Env) (J : JT) (x0 : V) (h : H) : evF Tryz.prog env J 254 cmd_Command_Clean.an [x0] h = cmd_Command_Clean.fs env J x0 h := by kernel_rfl
noncomputable def cmd_Command_Clean.c6 (env : Env) (J : JT) (x1 x2 x3 x4 x5 x6 x11 x12 x13 : V) (h : H) : Ans :=
 bnd (indexA (.slc none) x4 x5) fun t21_19 =>
 bnd (ld none h t21_19) fun t22_20 =>
 bnd (nilChk t22_20) fun t23_21 =>
 bnd (ld none h t23_21) fun t24_22 =>
 bnd (nilChk x6) fun t25_23 =>
 bnd (st none h t25_23 t24_22) fun h_24 =>
 bnd (bin .add x13 (.int .i64 1)) fun t26_25 =>
 J 0 [x1, x2, x3, x4, x11, x12, t26_25] h_24
noncomputable def cmd_Command_Clean.c5 (env : Env) (J : JT) (x1 x2 x3 x4 x11 x12 x13 : V) (h : H) : Ans :=
 bnd (indexA (.slc none) x11 x13) fun t16_17 =>
 bnd (ld none h t16_17) fun t17_18 =>
 cmd_Command_Clean.c6 env J x1 x2 x3 x4 x13 t17_18 x11 x12 x13 h
noncomputable def cmd_Command_Clean.c4 (env : Env) (J : JT) (x1 x2 x3 x4 x11 x12 x13 x14 : V) (h : H) : Ans :=
 cnd x14 (
 cmd_Command_Clean.c5 env J x1 x2 x3 x4 x11 x12 x13 h) (
 J 1 [x1, x2, x3] h)
noncomputable def cmd_Command_Clean.p0 (env : Env) (J : JT) (x1 x2 x3 x4 x11 x12 x13 : V) (h : H) : Ans :=
 bnd (bin .lss x13 x12) fun t14_16 =>
 cmd_Command_Clean.c4 env J x1 x2 x3 x4 x11 x12 x13 t14_16 h
theorem cmd_Command_Clean.p0_eq (env : Env) (J : JT) (x1 x2 x3 x4 x11 x12 x13 : V) (h : H) : evP Tryz.prog env J 254 cmd_Command_Clean.an 0 [x1, x2, x3, x4, x11, x12, x13] h = cmd_Command_Clean.p0 env J x1 x2 x3 x4 x11 x12 x13 h := by kernel_rfl
noncomputable def cmd_Command_Clean.c7 (env : Env) (J : JT) (x1 x2 x3 x27 : V) (h : H) : Ans :=
 cnd x27 (
 bnd (fieldA (some (some 224, none)) x1 6) fun t28_28 =>
 bnd (ld none h t28_28) fun t29_29 =>
 bnd (fieldA (some (some 224, none)) x3 6) fun t30_30 =>
 bnd (st none h t30_30 t29_29) fun h_31 =>
 bnd (ld (some 224) h_31 x3) fun t31_32 =>
 bnd (st (some 224) h_31 x2 t31_32) fun h_33 =>
 bnd (ld (some 224) h_33 x2) fun r_34 =>
 some (r_34, h_33)) (
 bnd (ld (some 224) h x3) fun t31_35 =>
 bnd (st (some 224) h x2 t31_35) fun h_36 =>
 bnd (ld (some 224) h_36 x2) fun r_37 =>
 some (r_37, h_36))
noncomputable def cmd_Command_Clean.p1 (env : Env) (J : JT) (x1 x2 x3 : V) (h : H) : Ans :=
 bnd2 (env 257 [x1] h) fun t27_26 h_27 =>
 cmd_Command_Clean.c7 env J x1 x2 x3 t27_26 h_27
theorem cmd_Command_Clean.p1_eq (env : Env) (J : JT) (x1 x2 x3 : V) (h : H) : evP Tryz.prog env J 254 cmd_Command_Clean.an 1 [x1, x2, x3] h = cmd_Command_Clean.p1 env J x1 x2 x3 h := by kernel_rfl
theorem cmd_Command_Clean.eq {tb : Nat → Option Fa} (ht : tb 254 = some (.plain cmd_Command_Clean.an)) (x0 : V) (h : H) : Ei Tryz.prog tb 254 [x0] h = cmd_Command_Clean.fs (Ei Tryz.prog tb) (Ji Tryz.prog tb 254 cmd_Command_Clean.an) x0 h := (Ei_eq (an := cmd_Command_Clean.an) ht _ h).trans (cmd_Command_Clean.fe_eq _ _ x0 h)
theorem cmd_Command_Clean.J0_eq {tb : Nat → Option Fa} (x1 x2 x3 x4 x11 x12 x13 : V) (h : H) : Ji Tryz.prog tb 254 cmd_Command_Clean.an 0 [x1, x2, x3, x4, x11, x12, x13] h = cmd_Command_Clean.p0 (Ei Tryz.prog tb) (Ji Tryz.prog tb 254 cmd_Command_Clean.an) x1 x2 x3 x4 x11 x12 x13 h := (Ji_eq _ _ h).trans (cmd_Command_Clean.p0_eq _ _ x1 x2 x3 x4 x11 x12 x13 h)
theorem cmd_Command_Clean.J1_eq {tb : Nat → Option Fa} (x1 x2 x3 : V) (h : H) : Ji Tryz.prog tb 254 cmd_Command_Clean.an 1 [x1, x2, x3] h = cmd_Command_Clean.p1 (Ei Tryz.prog tb) (Ji Tryz.prog tb 254 cmd_Command_Clean.an) x1 x2 x3 h := (Ji_eq _ _ h).trans (cmd_Command_Clean.p1_eq _ _ x1 x2 x3 h)
noncomputable def cmd_Command_Clean.sf : Sf := ⟨fun env J vs h => match vs with | [x0] => cmd_Command_Clean.fs env J x0 h | _ => none, fun env J id vs h => bif Nat.beq id 0 then (match vs with | [x1, x2, x3, x4, x11, x12, x13] => cmd_Command_Clean.p0 env J x1 x2 x3 x4 x11 x12 x13 h | _ => none) else (bif Nat.beq id 1 then (match vs with | [x1, x2, x3] => cmd_Command_Clean.p1 env J x1 x2 x3 h | _ => none) else (none))⟩
theorem cmd_Command_Clean.sfok {tb : Nat → Option Fa} (ht : tb 254 = some (.plain cmd_Command_Clean.an)) : SfOk Tryz.prog tb 254 cmd_Command_Clean.sf := SfOk.plain (an := cmd_Command_Clean.an) ht (fun env J vs h r he => by
  simp only [cmd_Command_Clean.sf] at he; split at he
  · rw [cmd_Command_Clean.fe_eq]; exact he
  · cases he) (fun env J id vs h r he => by
  simp only [cmd_Command_Clean.sf] at he
  cases hb : Nat.beq id 0
  case true =>
    rw [hb] at he; rw [Nat.eq_of_beq_eq_true hb]; simp only [cond_true] at he; split at he
    · rw [cmd_Command_Clean.p0_eq]; exact he
    · cases he
  rw [hb] at he; simp only [cond_false] at he; clear hb
  cases hb : Nat.beq id 1
  case true =>
    rw [hb] at he; rw [Nat.eq_of_beq_eq_true hb]; simp only [cond_true] at he; split at he
    · rw [cmd_Command_Clean.p1_eq]; exact he
    · cases he
  rw [hb] at he; simp only [cond_false] at he; clear hb
  cases he)
/- 255 (busbar/cmd.Command).Right -/
noncomputable def cmd_Command_Right.c2 (env : Env) (J : JT) (x1 x4 x5 : V) (h : H) : Ans :=
 cnd x5 (
 J 2 [x1, x4, x5] h) (
 bnd (binE false .int x4 (.int .i64 5)) fun t7_6 =>
 cnd t7_6 (
 J 2 [x1, x4, t7_6] h) (
 bnd (binE false .int x4 (.int .i64 7)) fun t8_7 =>
 J 2 [x1, x4, t8_7] h))
noncomputable def cmd_Command_Right.c1 (env : Env) (J : JT) (x1 x4 : V) (h : H) : Ans :=
 bnd (binE false .int x4 (.int .i64 0)) fun t6_5 =>
 cmd_Command_Right.c2 env J x1 x4 t6_5 h
noncomputable def cmd_Command_Right.c0 (env : Env) (J : JT) (x1 : V) (h : H) : Ans :=
 bnd (fieldA (some (some 224, none)) x1 0) fun t3_3 =>
 bnd (ld none h t3_3) fun t4_4 =>
 cmd_Command_Right.c1 env J x1 t4_4 h
noncomputable def cmd_Command_Right.fs (env : Env) (J : JT) (x0 : V) (h : H) : Ans :=
 bnd2 (box (some (some 224)) h x0) fun t1_1 h_2 =>
 cmd_Command_Right.c0 env J t1_1 h_2
theorem cmd_Command_Right.fe_eq (env : Env) (J : JT) (x0 : V) (h : H) : evF Tryz.prog env J 255 cmd_Command_Right.an [x0] h = cmd_Command_Right.fs env J x0 h := by kernel_rfl
noncomputable def cmd_Command_Right.c3 (env : Env) (J : JT) (x1 x4 x9 : V) (h : H) : Ans :=
 cnd x9 (
 J 1 [x1, x4, x9] h) (
 bnd (binE false .int x4 (.int .i64 2)) fun t11_9 =>
 cnd t11_9 (
 J 1 [x1, x4, t11_9] h) (
 bnd (binE false .int x4 (.int .i64 3)) fun t12_10 =>
 J 1 [x1, x4, t12_10] h))
noncomputable def cmd_Command_Right.p2 (env : Env) (J : JT) (x1 x4 x5 : V) (h : H) : Ans :=
 cnd x5 (
 some ((.bool true), h)) (
 bnd (binE false .int x4 (.int .i64 1)) fun t10_8 =>
 cmd_Command_Right.c3 env J x1 x4 t10_8 h)
theorem cmd_Command_Right.p2_eq (env : Env) (J : JT) (x1 x4 x5 : V) (h : H) : evP Tryz.prog env J 255 cmd_Command_Right.an 2 [x1, x4, x5] h = cmd_Command_Right.p2 env J x1 x4 x5 h := by kernel_rfl
noncomputable def cmd_Command_Right.c4 (env : Env) (J : JT) (x1 x4 x15 : V) (h : H) : Ans :=
 cnd x15 (
 bnd (fieldA (some (some 224, none)) x1 5) fun t17_15 =>
 bnd (ld none h t17_15) fun t18_16 =>
 bnd2 (env 268 [t18_16, (.int .i64 1), (.int .i64 100)] h) fun t19_17 h_18 =>
 some (t19_17, h_18)) (
 bnd (binE false .int x4 (.int .i64 6)) fun t21_19 =>
 cnd t21_19 (
 J 0 [x1, t21_19] h) (
 bnd (binE false .int x4 (.int .i64 8)) fun t22_20 =>
 J 0 [x1, t22_20] h))
noncomputable def cmd_Command_Right.p1 (env : Env) (J : JT) (x1 x4 x9 : V) (h : H) : Ans :=
 cnd x9 (
 bnd (ld (some 224) h x1) fun t13_11 =>
 bnd2 (env 267 [t13_11] h) fun t14_12 h_13 =>
 some (t14_12, h_13)) (
 bnd (binE false .int x4 (.int .i64 4)) fun t16_14 =>
 cmd_Command_Right.c4 env J x1 x4 t16_14 h)
theorem cmd_Command_Right.p1_eq (env : Env) (J : JT) (x1 x4 x9 : V) (h : H) : evP Tryz.prog env J 255 cmd_Command_Right.an 1 [x1, x4, x9] h = cmd_Command_Right.p1 env J x1 x4 x9 h := by kernel_rfl
noncomputable def cmd_Command_Right.p0 (env : Env) (J : JT) (x1 x20 : V) (h : H) : Ans :=
 cnd x20 (
 bnd (fieldA (some (some 224, none)) x1 6) fun t23_21 =>
 bnd (ld none h t23_21) fun t24_22 =>
 bnd2 (env 268 [t24_22, (.int .i64 0), (.int .i64 1023)] h) fun t25_23 h_24 =>
 some (t25_23, h_24)) (
 some ((.bool false), h))
theorem cmd_Command_Right.p0_eq (env : Env) (J : JT) (x1 x20 : V) (h : H) : evP Tryz.prog env J 255 cmd_Command_Right.an 0 [x1, x20] h = cmd_Command_Right.p0 env J x1 x20 h := by kernel_rfl
theorem cmd_Command_Right.eq {tb : Nat → Option Fa} (ht : tb 255 = some (.plain cmd_Command_Right.an)) (x0 : V) (h : H) : Ei Tryz.prog tb 255 [x0] h = cmd_Command_Right.fs (Ei Tryz.prog tb) (Ji Tryz.prog tb 255 cmd_Command_Right.an) x0 h := (Ei_eq (an := cmd_Command_Right.an) ht _ h).trans (cmd_Command_Right.fe_eq _ _ x0 h)
theorem cmd_Command_Right.J2_eq {tb : Nat → Option Fa} (x1 x4 x5 : V) (h : H) : Ji Tryz.prog tb 255 cmd_Command_Right.an 2 [x1, x4, x5] h = cmd_Command_Right.p2 (Ei Tryz.prog tb) (Ji Tryz.prog tb 255 cmd_Command_Right.an) x1 x4 x5 h := (Ji_eq _ _ h).trans (cmd_Command_Right.p2_eq _ _ x1 x4 x5 h)
theorem cmd_Command_Right.J1_eq {tb : Nat → Option Fa} (x1 x4 x9 : V) (h : H) : Ji Tryz.prog tb 255 cmd_Command_Right.an 1 [x1, x4, x9] h = cmd_Command_Right.p1 (Ei Tryz.prog tb) (Ji Tryz.prog tb 255 cmd_Command_Right.an) x1 x4 x9 h := (Ji_eq _ _ h).trans (cmd_Command_Right.p1_eq _ _ x1 x4 x9 h)
theorem cmd_Command_Right.J0_eq {tb : Nat → Option Fa} (x1 x20 : V) (h : H) : Ji Tryz.prog tb 255 cmd_Command_Right.an 0 [x1, x20] h = cmd_Command_Right.p0 (Ei Tryz.prog tb) (Ji Tryz.prog tb 255 cmd_Command_Right.an) x1 x20 h := (Ji_eq _ _ h).trans (cmd_Command_Right.p0_eq _ _ x1 x20 h)
noncomputable def cmd_Command_Right.sf : Sf := ⟨fun env J vs h => match vs with | [x0] => cmd_Command_Right.fs env J x0 h | _ => none, fun env J id vs h => bif Nat.beq id 2 then (match vs with | [x1, x4, x5] => cmd_Command_Right.p2 env J x1 x4 x5 h | _ => none) else (bif Nat.beq id 1 then (match vs with | [x1, x4, x9] => cmd_Command_Right.p1 env J x1 x4 x9 h | _ => none) else (bif Nat.beq id 0 then (match vs with | [x1, x20] => cmd_Command_Right.p0 env J x1 x20 h | _ => none) else (none)))⟩
theorem cmd_Command_Right.sfok {tb : Nat → Option Fa} (ht : tb 255 = some (.plain cmd_Command_Right.an)) : SfOk Tryz.prog tb 255 cmd_Command_Right.sf := SfOk.plain (an := cmd_Command_Right.an) ht (fun env J vs h r he => by
  simp only [cmd_Command_Right.sf] at he; split at he
  · rw [cmd_Command_Right.fe_eq]; exact he
  · cases he) (fun env J id vs h r he => by
  simp only [cmd_Command_Right.sf] at he
  cases hb : Nat.beq id 2
  case true =>
    rw [hb] at he; rw [Nat.eq_of_beq_eq_true hb]; simp only [cond_true] at he; split at he
    · rw [cmd_Command_Right.p2_eq]; exact he
    · cases he
  rw [hb] at he; simp only [cond_false] at he; clear hb
  cases hb : Nat.beq id 1
  case true =>
    rw [hb] at he; rw [Nat.eq_of_beq_eq_true hb]; simp only [cond_true] at he; split at he
    · rw [cmd_Command_Right.p1_eq]; exact he
    · cases he
  rw [hb] at he; simp only [cond_false] at he; clear hb
  cases hb : Nat.beq id 0
  case true =>
    rw [hb] at he; rw [Nat.eq_of_beq_eq_true hb]; simp only [cond_true] at he; split at he
    · rw [cmd_Command_Right.p0_eq]; exact he
    · cases he
  rw [hb] at he; simp only [cond_false] at he; clear hb
  cases he)
/- 256 (*busbar/cmd.Command).bytes -/
noncomputable def cmd_Command_bytes.c5 (env : Env) (J : JT) (x0 x43 : V) (h : H) : Ans :=
 cnd x43 (
 bnd (nilChk x0) fun t46_32 =>
 bnd (fieldA (some (some 224, none)) t46_32 5) fun t47_33 =>
 bnd2 (bslc (some (318, none, 8)) (zeroV Tryz.prog 318) 1 [(0, t47_33)] h) fun t48_34 h_35 =>
 some (t48_34, h_35)) (
 some (.nils, h))
noncomputable def cmd_Command_bytes.c4 (env : Env) (J : JT) (x0 x6 x34 : V) (h : H) : Ans :=
 cnd x34 (
 bnd (nilChk x0) fun t37_25 =>
 bnd (fieldA (some (some 224, none)) t37_25 2) fun t38_26 =>
 bnd (nilChk x0) fun t40_27 =>
 bnd (fieldA (some (some 224, none)) t40_27 4) fun t41_28 =>
 bnd2 (bslc (some (318, none, 8)) (zeroV Tryz.prog 318) 2 [(0, t38_26), (1, t41_28)] h) fun t42_29 h_30 =>
 some (t42_29, h_30)) (
 bnd (binE false .int x6 (.int .i64 4)) fun t44_31 =>
 cmd_Command_bytes.c5 env J x0 t44_31 h)
noncomputable def cmd_Command_bytes.c3 (env : Env) (J : JT) (x0 x6 x22 : V) (h : H) : Ans :=
 cnd x22 (
 bnd (nilChk x0) fun t25_16 =>
 bnd (fieldA (some (some 224, none)) t25_16 1) fun t26_17 =>
 bnd (nilChk x0) fun t28_18 =>
 bnd (fieldA (some (some 224, none)) t28_18 2) fun t29_19 =>
 bnd (nilChk x0) fun t31_20 =>
 bnd (fieldA (some (some 224, none)) t31_20 4) fun t32_21 =>
 bnd2 (bslc (some (318, none, 8)) (zeroV Tryz.prog 318) 3 [(0, t26_17), (1, t29_19), (2, t32_21)] h) fun t33_22 h_23 =>
 some (t33_22, h_23)) (
 bnd (binE false .int x6 (.int .i64 3)) fun t35_24 =>
 cmd_Command_bytes.c4 env J x0 x6 t35_24 h)
noncomputable def cmd_Command_bytes.c2 (env : Env) (J : JT) (x0 x6 x7 : V) (h : H) : Ans :=
 cnd x7 (
 bnd (nilChk x0) fun t10_5 =>
 bnd (fieldA (some (some 224, none)) t10_5 1) fun t11_6 =>
 bnd (nilChk x0) fun t13_7 =>
 bnd (fieldA (some (some 224, none)) t13_7 2) fun t14_8 =>
 bnd (nilChk x0) fun t16_9 =>
 bnd (fieldA (some (some 224, none)) t16_9 3) fun t17_10 =>
 bnd (nilChk x0) fun t19_11 =>
 bnd (fieldA (some (some 224, none)) t19_11 4) fun t20_12 =>
 bnd2 (bslc (some (318, none, 8)) (zeroV Tryz.prog 318) 4 [(0, t11_6), (1, t14_8), (2, t17_10), (3, t20_12)] h) fun t21_13 h_14 =>
 some (t21_13, h_14)) (
 bnd (binE false .int x6 (.int .i64 2)) fun t23_15 =>
 cmd_Command_bytes.c3 env J x0 x6 t23_15 h)
noncomputable def cmd_Command_bytes.c1 (env : Env) (J : JT) (x0 x6 : V) (h : H) : Ans :=
 bnd (binE false .int x6 (.int .i64 1)) fun t8_4 =>
 cmd_Command_bytes.c2 env J x0 x6 t8_4 h
noncomputable def cmd_Command_bytes.c0 (env : Env) (J : JT) (x0 : V) (h : H) : Ans :=
 bnd (nilChk x0) fun t4_1 =>
 bnd (fieldA (some (some 224, none)) t4_1 0) fun t5_2 =>
 bnd (ld none h t5_2) fun t6_3 =>
 cmd_Command_bytes.c1 env J x0 t6_3 h
noncomputable def cmd_Command_bytes.fs (env : Env) (J : JT) (x0 : V) (h : H) : Ans :=
 cmd_Command_bytes.c0 env J x0 h
theorem cmd_Command_bytes.fe_eq (env : Env) (J : JT) (x0 : V) (h : H) : evF Tryz.prog env J 256 cmd_Command_bytes.an [x0] h = cmd_Command_bytes.fs env J x0 h := by kernel_rfl
theorem cmd_Command_bytes.eq {tb : Nat → Option Fa} (ht : tb 256 = some (.plain cmd_Command_bytes.an)) (x0 : V) (h : H) : Ei Tryz.prog tb 256 [x0] h = cmd_Command_bytes.fs (Ei Tryz.prog tb) (Ji Tryz.prog tb 256 cmd_Command_bytes.an) x0 h := (Ei_eq (an := cmd_Command_bytes.an) ht _ h).trans (cmd_Command_bytes.fe_eq _ _ x0 h)
noncomputable def cmd_Command_bytes.sf : Sf := ⟨fun env J vs h => match vs with | [x0] => cmd_Command_bytes.fs env J x0 h | _ => none, fun env J id vs h => none⟩
theorem cmd_Command_bytes.sfok {tb : Nat → Option Fa} (ht : tb 256 = some (.plain cmd_Command_bytes.an)) : SfOk Tryz.prog tb 256 cmd_Command_bytes.sf := SfOk.plain (an := cmd_Command_bytes.an) ht (fun env J vs h r he => by
  simp only [cmd_Command_bytes.sf] at he; split at he
  · rw [cmd_Command_bytes.fe_eq]; exact he
  · cases he) (fun env J id vs h r he => by simp only [cmd_Command_bytes.sf] at he; cases he)
/- 257 (*busbar/cmd.Command).goes -/
noncomputable def cmd_Command_goes.c0 (env : Env) (J : JT) (x0 : V) (h : H) : Ans :=
 bnd (nilChk x0) fun t4_1 =>
 bnd (fieldA (some (some 224, none)) t4_1 0) fun t5_2 =>
 bnd (ld none h t5_2) fun t6_3 =>
 bnd (binE false .int t6_3 (.int .i64 6)) fun t7_4 =>
 bnd2 (gd t7_4 false (some (x0, h)) h) fun t9_5 h_6 =>
 bnd2 (gd t7_4 false (bnd (nilChk t9_5) fun t10_7 =>
 some (t10_7, h_6)) h_6) fun t10_8 h_9 =>
 bnd2 (gd t7_4 false (bnd (fieldA (some (some 224, none)) t10_8 0) fun t11_10 =>
 some (t11_10, h_9)) h_9) fun t11_11 h_12 =>
 bnd2 (gd t7_4 false (bnd (ld none h_12 t11_11) fun t12_13 =>
 some (t12_13, h_12)) h_12) fun t12_14 h_15 =>
 bnd2 (gd t7_4 false (bnd (binE false .int t12_14 (.int .i64 8)) fun t13_16 =>
 some (t13_16, h_15)) h_15) fun t13_17 h_18 =>
 bnd (pick t7_4 (.bool true) t13_17) fun t14_19 =>
 some (t14_19, h_18)
noncomputable def cmd_Command_goes.fs (env : Env) (J : JT) (x0 : V) (h : H) : Ans :=
 cmd_Command_goes.c0 env J x0 h
theorem cmd_Command_goes.fe_eq (env : Env) (J : JT) (x0 : V) (h : H) : evF Tryz.prog env J 257 cmd_Command_goes.an [x0] h = cmd_Command_goes.fs env J x0 h := by kernel_rfl
theorem cmd_Command_goes.eq {tb : Nat → Option Fa} (ht : tb 257 = some (.plain cmd_Command_goes.an)) (x0 : V) (h : H) : Ei Tryz.prog tb 257 [x0] h = cmd_Command_goes.fs (Ei Tryz.prog tb) (Ji Tryz.prog tb 257 cmd_Command_goes.an) x0 h := (Ei_eq (an := cmd_Command_goes.an) ht _ h).trans (cmd_Command_goes.fe_eq _ _ x0 h)
noncomputable def cmd_Command_goes.sf : Sf := ⟨fun env J vs h => match vs with | [x0] => cmd_Command_goes.fs env J x0 h | _ => none, fun env J id vs h => none⟩
theorem cmd_Command_goes.sfok {tb : Nat → Option Fa} (ht : tb 257 = some (.plain cmd_Command_goes.an)) : SfOk Tryz.prog tb 257 cmd_Command_goes.sf := SfOk.plain (an := cmd_Command_goes.an) ht (fun env J vs h r he => by
  simp only [cmd_Command_goes.sf] at he; split at he
  · rw [cmd_Command_goes.fe_eq]; exact he
  · cases he) (fun env J id vs h r he => by simp only [cmd_Command_goes.sf] at he; cases he)
end Go.Proofs.YtbgdidfegkmafaaGreat
