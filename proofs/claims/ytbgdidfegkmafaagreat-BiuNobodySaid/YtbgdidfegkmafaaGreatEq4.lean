import Derived.Test.YtbgdidfegkmafaaGreatTb
import Derived.Test.YtbgdidfegkmafaaGreatAmD
namespace Go.Proofs.YtbgdidfegkmafaaGreat
open Go Go.AM Go.Proofs
set_option linter.unusedVariables false
set_option maxRecDepth 100000
set_option maxHeartbeats 4000000
/- 93 busbar/gate.Drives -/
noncomputable def gate_Drives.c2 (env : Env) (J : JT) (x2 x3 x4 x5 x9 x11 : V) (h : H) : Ans :=
 cnd x11 (
 bnd (ld (some 58) h x4) fun t12_7 =>
 bnd (fieldA (some (some 64, none)) x5 1) fun t13_8 =>
 bnd (ld none h t13_8) fun t14_9 =>
 bnd (fieldA (some (some 64, none)) x5 2) fun t15_10 =>
 bnd (ld none h t15_10) fun t16_11 =>
 bnd2 (env 178 [t12_7, t14_9, t16_11, x2, x3] h) fun t19_12 h_13 =>
 J 0 [x2, x3, x4, x5, t19_12] h_13) (
 J 0 [x2, x3, x4, x5, x9] h)
noncomputable def gate_Drives.c1 (env : Env) (J : JT) (x2 x3 x4 x5 x9 : V) (h : H) : Ans :=
 bnd (fieldA (some (some 64, none)) x5 0) fun t10_5 =>
 bnd (ld none h t10_5) fun t11_6 =>
 gate_Drives.c2 env J x2 x3 x4 x5 x9 t11_6 h
noncomputable def gate_Drives.c0 (env : Env) (J : JT) (x2 x3 x4 x5 : V) (h : H) : Ans :=
 gate_Drives.c1 env J x2 x3 x4 x5 (.int .u8 0) h
noncomputable def gate_Drives.fs (env : Env) (J : JT) (x0 x1 x2 x3 : V) (h : H) : Ans :=
 bnd2 (box (some (some 58)) h x0) fun t4_1 h_2 =>
 bnd2 (box (some (some 64)) h_2 x1) fun t5_3 h_4 =>
 gate_Drives.c0 env J x2 x3 t4_1 t5_3 h_4
theorem gate_Drives.fe_eq (env : Env) (J : JT) (x0 x1 x2 x3 : V) (h : H) : evF Tryz.prog env J 93 gate_Drives.an [x0, x1, x2, x3] h = gate_Drives.fs env J x0 x1 x2 x3 h := by kernel_rfl
noncomputable def gate_Drives.c3 (env : Env) (J : JT) (x2 x3 x4 x9 x21 : V) (h : H) : Ans :=
 cnd x21 (
 bnd (ld (some 58) h x4) fun t23_16 =>
 bnd2 (env 179 [t23_16, x2, x3] h) fun t26_17 h_18 =>
 bnd2 (bslc (some (47, none, 1)) (zeroV Tryz.prog 47) 2 [(0, x9), (1, t26_17)] h_18) fun t27_19 h_20 =>
 bnd2 (env 33 [t27_19] h_20) fun t28_21 h_22 =>
 some (t28_21, h_22)) (
 some (x9, h))
noncomputable def gate_Drives.p0 (env : Env) (J : JT) (x2 x3 x4 x5 x9 : V) (h : H) : Ans :=
 bnd (fieldA (some (some 64, none)) x5 3) fun t20_14 =>
 bnd (ld none h t20_14) fun t21_15 =>
 gate_Drives.c3 env J x2 x3 x4 x9 t21_15 h
theorem gate_Drives.p0_eq (env : Env) (J : JT) (x2 x3 x4 x5 x9 : V) (h : H) : evP Tryz.prog env J 93 gate_Drives.an 0 [x2, x3, x4, x5, x9] h = gate_Drives.p0 env J x2 x3 x4 x5 x9 h := by kernel_rfl
theorem gate_Drives.eq {tb : Nat → Option Fa} (ht : tb 93 = some (.plain gate_Drives.an)) (x0 x1 x2 x3 : V) (h : H) : Ei Tryz.prog tb 93 [x0, x1, x2, x3] h = gate_Drives.fs (Ei Tryz.prog tb) (Ji Tryz.prog tb 93 gate_Drives.an) x0 x1 x2 x3 h := (Ei_eq (an := gate_Drives.an) ht _ h).trans (gate_Drives.fe_eq _ _ x0 x1 x2 x3 h)
theorem gate_Drives.J0_eq {tb : Nat → Option Fa} (x2 x3 x4 x5 x9 : V) (h : H) : Ji Tryz.prog tb 93 gate_Drives.an 0 [x2, x3, x4, x5, x9] h = gate_Drives.p0 (Ei Tryz.prog tb) (Ji Tryz.prog tb 93 gate_Drives.an) x2 x3 x4 x5 x9 h := (Ji_eq _ _ h).trans (gate_Drives.p0_eq _ _ x2 x3 x4 x5 x9 h)
noncomputable def gate_Drives.sf : Sf := ⟨fun env J vs h => match vs with | [x0, x1, x2, x3] => gate_Drives.fs env J x0 x1 x2 x3 h | _ => none, fun env J id vs h => bif Nat.beq id 0 then (match vs with | [x2, x3, x4, x5, x9] => gate_Drives.p0 env J x2 x3 x4 x5 x9 h | _ => none) else (none)⟩
theorem gate_Drives.sfok {tb : Nat → Option Fa} (ht : tb 93 = some (.plain gate_Drives.an)) : SfOk Tryz.prog tb 93 gate_Drives.sf := SfOk.plain (an := gate_Drives.an) ht (fun env J vs h r he => by
  simp only [gate_Drives.sf] at he; split at he
  · rw [gate_Drives.fe_eq]; exact he
  · cases he) (fun env J id vs h r he => by
  simp only [gate_Drives.sf] at he
  cases hb : Nat.beq id 0
  case true =>
    rw [hb] at he; rw [Nat.eq_of_beq_eq_true hb]; simp only [cond_true] at he; split at he
    · rw [gate_Drives.p0_eq]; exact he
    · cases he
  rw [hb] at he; simp only [cond_false] at he; clear hb
  cases he)
/- 94 busbar/gate.Opens -/
noncomputable def gate_Opens.c3 (env : Env) (J : JT) (x3 x4 x7 : V) (h : H) : Ans :=
 bnd (fieldA (some (some 64, none)) x4 3) fun t31_48 =>
 bnd (ld none h t31_48) fun t32_49 =>
 bnd2 (gd t32_49 true (some (x7, h)) h) fun t34_50 h_51 =>
 bnd2 (gd t32_49 true (bnd (ld (some 58) h_51 x3) fun t35_52 =>
 some (t35_52, h_51)) h_51) fun t35_53 h_54 =>
 bnd2 (gd t32_49 true (bnd2 (env 46 [t35_53] h_54) fun t36_55 h_56 =>
 some (t36_55, h_56)) h_54) fun t36_57 h_58 =>
 bnd2 (gd t32_49 true (bnd (ext t36_57 0) fun t37_59 =>
 some (t37_59, h_58)) h_58) fun t37_60 h_61 =>
 bnd2 (gd t32_49 true (bnd (ext t36_57 1) fun t38_62 =>
 some (t38_62, h_61)) h_61) fun t38_63 h_64 =>
 bnd2 (gd t32_49 true (bnd2 (callV env t34_50 [t37_60, t38_63] h_64) fun t39_65 h_66 =>
 some (t39_65, h_66)) h_64) fun t39_67 h_68 =>
 bnd (pick t32_49 t39_67 (.bool false)) fun t40_69 =>
 some (t40_69, h_68)
noncomputable def gate_Opens.c2 (env : Env) (J : JT) (x3 x4 x7 x8 : V) (h : H) : Ans :=
 bnd (fieldA (some (some 64, none)) x4 0) fun t14_13 =>
 bnd (ld none h t14_13) fun t15_14 =>
 bnd2 (gd t15_14 true (some (x8, h)) h) fun t17_15 h_16 =>
 bnd2 (gd t15_14 true (bnd (bin .gtr t17_15 (.int .i64 0)) fun t18_17 =>
 some (t18_17, h_16)) h_16) fun t18_18 h_19 =>
 bnd (pick t15_14 t18_18 (.bool false)) fun t19_20 =>
 bnd2 (gd t19_20 true (some (x7, h_19)) h_19) fun t21_21 h_22 =>
 bnd2 (gd t19_20 true (some (x8, h_22)) h_22) fun t22_23 h_24 =>
 bnd2 (gd t19_20 true (some (x8, h_24)) h_24) fun t23_25 h_26 =>
 bnd2 (gd t19_20 true (bnd (fieldA (some (some 58, none)) x3 3) fun t24_27 =>
 some (t24_27, h_26)) h_26) fun t24_28 h_29 =>
 bnd2 (gd t19_20 true (bnd (ld none h_29 t24_28) fun t25_30 =>
 some (t25_30, h_29)) h_29) fun t25_31 h_32 =>
 bnd2 (gd t19_20 true (bnd2 (env 181 [t25_31] h_32) fun t26_33 h_34 =>
 some (t26_33, h_34)) h_32) fun t26_35 h_36 =>
 bnd2 (gd t19_20 true (bnd (bin .mul (.int .i64 20) t26_35) fun t27_37 =>
 some (t27_37, h_36)) h_36) fun t27_38 h_39 =>
 bnd2 (gd t19_20 true (bnd (bin .add t23_25 t27_38) fun t28_40 =>
 some (t28_40, h_39)) h_39) fun t28_41 h_42 =>
 bnd2 (gd t19_20 true (bnd2 (callV env t21_21 [t22_23, t28_41] h_42) fun t29_43 h_44 =>
 some (t29_43, h_44)) h_42) fun t29_45 h_46 =>
 bnd (pick t19_20 t29_45 (.bool false)) fun t30_47 =>
 cnd t30_47 (
 some ((.bool true), h_46)) (
 gate_Opens.c3 env J x3 x4 x7 h_46)
noncomputable def gate_Opens.c1 (env : Env) (J : JT) (x3 x4 x7 : V) (h : H) : Ans :=
 bnd (ld (some 58) h x3) fun t10_8 =>
 bnd (fieldA (some (some 64, none)) x4 1) fun t11_9 =>
 bnd (ld none h t11_9) fun t12_10 =>
 bnd2 (env 52 [t10_8, t12_10] h) fun t13_11 h_12 =>
 gate_Opens.c2 env J x3 x4 x7 t13_11 h_12
noncomputable def gate_Opens.c0 (env : Env) (J : JT) (x3 x4 x5 : V) (h : H) : Ans :=
 bnd (mkFn (.func 180) [] [x5]) fun t9_7 =>
 gate_Opens.c1 env J x3 x4 t9_7 h
noncomputable def gate_Opens.fs (env : Env) (J : JT) (x0 x1 x2 : V) (h : H) : Ans :=
 bnd2 (box (some (some 58)) h x0) fun t3_1 h_2 =>
 bnd2 (box (some (some 64)) h_2 x1) fun t4_3 h_4 =>
 bnd2 (box (some none) h_4 x2) fun t5_5 h_6 =>
 gate_Opens.c0 env J t3_1 t4_3 t5_5 h_6
theorem gate_Opens.fe_eq (env : Env) (J : JT) (x0 x1 x2 : V) (h : H) : evF Tryz.prog env J 94 gate_Opens.an [x0, x1, x2] h = gate_Opens.fs env J x0 x1 x2 h := by kernel_rfl
theorem gate_Opens.eq {tb : Nat → Option Fa} (ht : tb 94 = some (.plain gate_Opens.an)) (x0 x1 x2 : V) (h : H) : Ei Tryz.prog tb 94 [x0, x1, x2] h = gate_Opens.fs (Ei Tryz.prog tb) (Ji Tryz.prog tb 94 gate_Opens.an) x0 x1 x2 h := (Ei_eq (an := gate_Opens.an) ht _ h).trans (gate_Opens.fe_eq _ _ x0 x1 x2 h)
noncomputable def gate_Opens.sf : Sf := ⟨fun env J vs h => match vs with | [x0, x1, x2] => gate_Opens.fs env J x0 x1 x2 h | _ => none, fun env J id vs h => none⟩
theorem gate_Opens.sfok {tb : Nat → Option Fa} (ht : tb 94 = some (.plain gate_Opens.an)) : SfOk Tryz.prog tb 94 gate_Opens.sf := SfOk.plain (an := gate_Opens.an) ht (fun env J vs h r he => by
  simp only [gate_Opens.sf] at he; split at he
  · rw [gate_Opens.fe_eq]; exact he
  · cases he) (fun env J id vs h r he => by simp only [gate_Opens.sf] at he; cases he)
/- 95 (*busbar/clock.Clock).Pos -/
noncomputable def clock_Clock_Pos.c1 (env : Env) (J : JT) (x0 : V) (h : H) : Ans :=
 bnd (nilChk x0) fun t6_3 =>
 bnd (fieldA (some (some 240, (some 238))) t6_3 0) fun t7_4 =>
 bnd (fieldA (some (some 238, none)) t7_4 0) fun t8_5 =>
 bnd (ld none h t8_5) fun t9_6 =>
 some (t9_6, h)
noncomputable def clock_Clock_Pos.c0 (env : Env) (J : JT) (x0 : V) (h : H) : Ans :=
 bnd2 (env 182 [x0] h) fun t4_1 h_2 =>
 cnd t4_1 (
 some ((.int .i64 0), h_2)) (
 clock_Clock_Pos.c1 env J x0 h_2)
noncomputable def clock_Clock_Pos.fs (env : Env) (J : JT) (x0 : V) (h : H) : Ans :=
 clock_Clock_Pos.c0 env J x0 h
theorem clock_Clock_Pos.fe_eq (env : Env) (J : JT) (x0 : V) (h : H) : evF Tryz.prog env J 95 clock_Clock_Pos.an [x0] h = clock_Clock_Pos.fs env J x0 h := by kernel_rfl
theorem clock_Clock_Pos.eq {tb : Nat → Option Fa} (ht : tb 95 = some (.plain clock_Clock_Pos.an)) (x0 : V) (h : H) : Ei Tryz.prog tb 95 [x0] h = clock_Clock_Pos.fs (Ei Tryz.prog tb) (Ji Tryz.prog tb 95 clock_Clock_Pos.an) x0 h := (Ei_eq (an := clock_Clock_Pos.an) ht _ h).trans (clock_Clock_Pos.fe_eq _ _ x0 h)
noncomputable def clock_Clock_Pos.sf : Sf := ⟨fun env J vs h => match vs with | [x0] => clock_Clock_Pos.fs env J x0 h | _ => none, fun env J id vs h => none⟩
theorem clock_Clock_Pos.sfok {tb : Nat → Option Fa} (ht : tb 95 = some (.plain clock_Clock_Pos.an)) : SfOk Tryz.prog tb 95 clock_Clock_Pos.sf := SfOk.plain (an := clock_Clock_Pos.an) ht (fun env J vs h r he => by
  simp only [clock_Clock_Pos.sf] at he; split at he
  · rw [clock_Clock_Pos.fe_eq]; exact he
  · cases he) (fun env J id vs h r he => by simp only [clock_Clock_Pos.sf] at he; cases he)
/- 99 busbar/plan.is -/
noncomputable def plan_is.c0 (env : Env) (J : JT) (x0 : V) (h : H) : Ans :=
 bnd (bin .geq x0 (.int .i64 0)) fun t4_1 =>
 bnd2 (gd t4_1 true (some (x0, h)) h) fun t6_2 h_3 =>
 bnd2 (gd t4_1 true (bnd (bin .lss t6_2 (.int .i64 2)) fun t7_4 =>
 some (t7_4, h_3)) h_3) fun t7_5 h_6 =>
 bnd (pick t4_1 t7_5 (.bool false)) fun t8_7 =>
 some (t8_7, h_6)
noncomputable def plan_is.fs (env : Env) (J : JT) (x0 : V) (h : H) : Ans :=
 plan_is.c0 env J x0 h
theorem plan_is.fe_eq (env : Env) (J : JT) (x0 : V) (h : H) : evF Tryz.prog env J 99 plan_is.an [x0] h = plan_is.fs env J x0 h := by kernel_rfl
theorem plan_is.eq {tb : Nat → Option Fa} (ht : tb 99 = some (.plain plan_is.an)) (x0 : V) (h : H) : Ei Tryz.prog tb 99 [x0] h = plan_is.fs (Ei Tryz.prog tb) (Ji Tryz.prog tb 99 plan_is.an) x0 h := (Ei_eq (an := plan_is.an) ht _ h).trans (plan_is.fe_eq _ _ x0 h)
noncomputable def plan_is.sf : Sf := ⟨fun env J vs h => match vs with | [x0] => plan_is.fs env J x0 h | _ => none, fun env J id vs h => none⟩
theorem plan_is.sfok {tb : Nat → Option Fa} (ht : tb 99 = some (.plain plan_is.an)) : SfOk Tryz.prog tb 99 plan_is.sf := SfOk.plain (an := plan_is.an) ht (fun env J vs h r he => by
  simp only [plan_is.sf] at he; split at he
  · rw [plan_is.fe_eq]; exact he
  · cases he) (fun env J id vs h r he => by simp only [plan_is.sf] at he; cases he)
/- 100 busbar/plan.start -/
noncomputable def plan_start.c0 (env : Env) (J : JT) (x0 : V) (h : H) : Ans :=
 bnd (bin .mul (.int .i64 2) x0) fun t4_1 =>
 bnd (bin .add (.int .i64 10) t4_1) fun t5_2 =>
 bnd (bin .mul t5_2 (.int .i64 20)) fun t6_3 =>
 some (t6_3, h)
noncomputable def plan_start.fs (env : Env) (J : JT) (x0 : V) (h : H) : Ans :=
 plan_start.c0 env J x0 h
theorem plan_start.fe_eq (env : Env) (J : JT) (x0 : V) (h : H) : evF Tryz.prog env J 100 plan_start.an [x0] h = plan_start.fs env J x0 h := by kernel_rfl
theorem plan_start.eq {tb : Nat → Option Fa} (ht : tb 100 = some (.plain plan_start.an)) (x0 : V) (h : H) : Ei Tryz.prog tb 100 [x0] h = plan_start.fs (Ei Tryz.prog tb) (Ji Tryz.prog tb 100 plan_start.an) x0 h := (Ei_eq (an := plan_start.an) ht _ h).trans (plan_start.fe_eq _ _ x0 h)
noncomputable def plan_start.sf : Sf := ⟨fun env J vs h => match vs with | [x0] => plan_start.fs env J x0 h | _ => none, fun env J id vs h => none⟩
theorem plan_start.sfok {tb : Nat → Option Fa} (ht : tb 100 = some (.plain plan_start.an)) : SfOk Tryz.prog tb 100 plan_start.sf := SfOk.plain (an := plan_start.an) ht (fun env J vs h r he => by
  simp only [plan_start.sf] at he; split at he
  · rw [plan_start.fe_eq]; exact he
  · cases he) (fun env J id vs h r he => by simp only [plan_start.sf] at he; cases he)
/- 101 busbar/plan.Ticks -/
noncomputable def plan_Ticks.c0 (env : Env) (J : JT) (x1 : V) (h : H) : Ans :=
 bnd (ld (some 130) h x1) fun t3_3 =>
 bnd2 (env 191 [t3_3] h) fun t4_4 h_5 =>
 bnd (bin .mul t4_4 (.int .i64 20)) fun t5_6 =>
 some (t5_6, h_5)
noncomputable def plan_Ticks.fs (env : Env) (J : JT) (x0 : V) (h : H) : Ans :=
 bnd2 (box (some (some 130)) h x0) fun t1_1 h_2 =>
 plan_Ticks.c0 env J t1_1 h_2
theorem plan_Ticks.fe_eq (env : Env) (J : JT) (x0 : V) (h : H) : evF Tryz.prog env J 101 plan_Ticks.an [x0] h = plan_Ticks.fs env J x0 h := by kernel_rfl
theorem plan_Ticks.eq {tb : Nat → Option Fa} (ht : tb 101 = some (.plain plan_Ticks.an)) (x0 : V) (h : H) : Ei Tryz.prog tb 101 [x0] h = plan_Ticks.fs (Ei Tryz.prog tb) (Ji Tryz.prog tb 101 plan_Ticks.an) x0 h := (Ei_eq (an := plan_Ticks.an) ht _ h).trans (plan_Ticks.fe_eq _ _ x0 h)
noncomputable def plan_Ticks.sf : Sf := ⟨fun env J vs h => match vs with | [x0] => plan_Ticks.fs env J x0 h | _ => none, fun env J id vs h => none⟩
theorem plan_Ticks.sfok {tb : Nat → Option Fa} (ht : tb 101 = some (.plain plan_Ticks.an)) : SfOk Tryz.prog tb 101 plan_Ticks.sf := SfOk.plain (an := plan_Ticks.an) ht (fun env J vs h r he => by
  simp only [plan_Ticks.sf] at he; split at he
  · rw [plan_Ticks.fe_eq]; exact he
  · cases he) (fun env J id vs h r he => by simp only [plan_Ticks.sf] at he; cases he)
/- 104 busbar/busbarref23.Stale -/
noncomputable def busbarref23_Stale.fs (env : Env) (J : JT) (x0 x1 : V) (h : H) : Ans :=
 bnd (bin .sub x1 x0) fun t7_1 =>
 bnd (bin .geq t7_1 (.int .i64 50)) fun t8_2 =>
 some (t8_2, h)
theorem busbarref23_Stale.fe_eq (env : Env) (J : JT) (x0 x1 : V) (h : H) : evF Tryz.prog env J 104 busbarref23_Stale.an [x0, x1] h = busbarref23_Stale.fs env J x0 x1 h := by kernel_rfl
theorem busbarref23_Stale.eq {tb : Nat → Option Fa} (ht : tb 104 = some (.plain busbarref23_Stale.an)) (x0 x1 : V) (h : H) : Ei Tryz.prog tb 104 [x0, x1] h = busbarref23_Stale.fs (Ei Tryz.prog tb) (Ji Tryz.prog tb 104 busbarref23_Stale.an) x0 x1 h := (Ei_eq (an := busbarref23_Stale.an) ht _ h).trans (busbarref23_Stale.fe_eq _ _ x0 x1 h)
noncomputable def busbarref23_Stale.sf : Sf := ⟨fun env J vs h => match vs with | [x0, x1] => busbarref23_Stale.fs env J x0 x1 h | _ => none, fun env J id vs h => none⟩
theorem busbarref23_Stale.sfok {tb : Nat → Option Fa} (ht : tb 104 = some (.plain busbarref23_Stale.an)) : SfOk Tryz.prog tb 104 busbarref23_Stale.sf := SfOk.plain (an := busbarref23_Stale.an) ht (fun env J vs h r he => by
  simp only [busbarref23_Stale.sf] at he; split at he
  · rw [busbarref23_Stale.fe_eq]; exact he
  · cases he) (fun env J id vs h r he => by simp only [busbarref23_Stale.sf] at he; cases he)
/- 105 busbar/store.New -/
noncomputable def store_New.fs (env : Env) (J : JT) (h : H) : Ans :=
 bnd (build (zeroV Tryz.prog 174) [(0, (.bool true))]) fun t1_1 =>
 bnd2 (box (some (some 173)) h t1_1) fun t2_2 h_3 =>
 some (t2_2, h_3)
theorem store_New.fe_eq (env : Env) (J : JT) (h : H) : evF Tryz.prog env J 105 store_New.an [] h = store_New.fs env J  h := by kernel_rfl
theorem store_New.eq {tb : Nat → Option Fa} (ht : tb 105 = some (.plain store_New.an)) (h : H) : Ei Tryz.prog tb 105 [] h = store_New.fs (Ei Tryz.prog tb) (Ji Tryz.prog tb 105 store_New.an)  h := (Ei_eq (an := store_New.an) ht _ h).trans (store_New.fe_eq _ _  h)
noncomputable def store_New.sf : Sf := ⟨fun env J vs h => match vs with | [] => store_New.fs env J  h | _ => none, fun env J id vs h => none⟩
theorem store_New.sfok {tb : Nat → Option Fa} (ht : tb 105 = some (.plain store_New.an)) : SfOk Tryz.prog tb 105 store_New.sf := SfOk.plain (an := store_New.an) ht (fun env J vs h r he => by
  simp only [store_New.sf] at he; split at he
  · rw [store_New.fe_eq]; exact he
  · cases he) (fun env J id vs h r he => by simp only [store_New.sf] at he; cases he)
/- 106 (*busbar/pair.Pair).each -/
noncomputable def pair_Pair_each.c1 (env : Env) (J : JT) (x1 x11 x12 : V) (h : H) : Ans :=
 J 0 [x1, x11, x12] h
noncomputable def pair_Pair_each.c0 (env : Env) (J : JT) (x0 x1 : V) (h : H) : Ans :=
 bnd (nilChk x0) fun t9_3 =>
 bnd (fieldA (some (some 162, (some 155))) t9_3 1) fun t10_4 =>
 bnd (ld (some 155) h t10_4) fun t11_5 =>
 pair_Pair_each.c1 env J x1 t11_5 (.int .i64 0) h
noncomputable def pair_Pair_each.fs (env : Env) (J : JT) (x0 x1 : V) (h : H) : Ans :=
 bnd2 (env 113 [x0] h) fun t7_1 h_2 =>
 cnd t7_1 (
 some (.tup [], h_2)) (
 pair_Pair_each.c0 env J x0 x1 h_2)
theorem pair_Pair_each.fe_eq (env : Env) (J : JT) (x0 x1 : V) (h : H) : evF Tryz.prog env J 106 pair_Pair_each.an [x0, x1] h = pair_Pair_each.fs env J x0 x1 h := by kernel_rfl
noncomputable def pair_Pair_each.c3 (env : Env) (J : JT) (x1 x11 x12 : V) (h : H) : Ans :=
 bnd (indexV (.arr (some 155) 2 none) x11 x12) fun t15_7 =>
 bnd2 (callV env x1 [x12, t15_7] h) fun t19_8 h_9 =>
 bnd (bin .add x12 (.int .i64 1)) fun t20_10 =>
 J 0 [x1, x11, t20_10] h_9
noncomputable def pair_Pair_each.c2 (env : Env) (J : JT) (x1 x11 x12 x13 : V) (h : H) : Ans :=
 cnd x13 (
 pair_Pair_each.c3 env J x1 x11 x12 h) (
 some (.tup [], h))
noncomputable def pair_Pair_each.p0 (env : Env) (J : JT) (x1 x11 x12 : V) (h : H) : Ans :=
 bnd (bin .lss x12 (.int .i64 2)) fun t13_6 =>
 pair_Pair_each.c2 env J x1 x11 x12 t13_6 h
theorem pair_Pair_each.p0_eq (env : Env) (J : JT) (x1 x11 x12 : V) (h : H) : evP Tryz.prog env J 106 pair_Pair_each.an 0 [x1, x11, x12] h = pair_Pair_each.p0 env J x1 x11 x12 h := by kernel_rfl
theorem pair_Pair_each.eq {tb : Nat → Option Fa} (ht : tb 106 = some (.plain pair_Pair_each.an)) (x0 x1 : V) (h : H) : Ei Tryz.prog tb 106 [x0, x1] h = pair_Pair_each.fs (Ei Tryz.prog tb) (Ji Tryz.prog tb 106 pair_Pair_each.an) x0 x1 h := (Ei_eq (an := pair_Pair_each.an) ht _ h).trans (pair_Pair_each.fe_eq _ _ x0 x1 h)
theorem pair_Pair_each.J0_eq {tb : Nat → Option Fa} (x1 x11 x12 : V) (h : H) : Ji Tryz.prog tb 106 pair_Pair_each.an 0 [x1, x11, x12] h = pair_Pair_each.p0 (Ei Tryz.prog tb) (Ji Tryz.prog tb 106 pair_Pair_each.an) x1 x11 x12 h := (Ji_eq _ _ h).trans (pair_Pair_each.p0_eq _ _ x1 x11 x12 h)
noncomputable def pair_Pair_each.sf : Sf := ⟨fun env J vs h => match vs with | [x0, x1] => pair_Pair_each.fs env J x0 x1 h | _ => none, fun env J id vs h => bif Nat.beq id 0 then (match vs with | [x1, x11, x12] => pair_Pair_each.p0 env J x1 x11 x12 h | _ => none) else (none)⟩
theorem pair_Pair_each.sfok {tb : Nat → Option Fa} (ht : tb 106 = some (.plain pair_Pair_each.an)) : SfOk Tryz.prog tb 106 pair_Pair_each.sf := SfOk.plain (an := pair_Pair_each.an) ht (fun env J vs h r he => by
  simp only [pair_Pair_each.sf] at he; split at he
  · rw [pair_Pair_each.fe_eq]; exact he
  · cases he) (fun env J id vs h r he => by
  simp only [pair_Pair_each.sf] at he
  cases hb : Nat.beq id 0
  case true =>
    rw [hb] at he; rw [Nat.eq_of_beq_eq_true hb]; simp only [cond_true] at he; split at he
    · rw [pair_Pair_each.p0_eq]; exact he
    · cases he
  rw [hb] at he; simp only [cond_false] at he; clear hb
  cases he)
/- 107 (*busbar/pair.Pair).Join$1 -/
noncomputable def pair_Pair_Join_1.c0 (env : Env) (J : JT) (x3 x6 : V) (h : H) : Ans :=
 bnd (binE true .int x6 (.int .i64 0)) fun t11_4 =>
 bnd2 (gd t11_4 false (bnd (ld none h x3) fun t13_5 =>
 some (t13_5, h)) h) fun t13_6 h_7 =>
 bnd2 (gd t11_4 false (bnd (binE false .int t13_6 (.int .i64 1)) fun t14_8 =>
 some (t14_8, h_7)) h_7) fun t14_9 h_10 =>
 bnd (pick t11_4 (.bool true) t14_9) fun t15_11 =>
 cnd t15_11 (
 bnd (st none h_10 x3 x6) fun h_12 =>
 some (.tup [], h_12)) (
 some (.tup [], h_10))
noncomputable def pair_Pair_Join_1.fs (env : Env) (J : JT) (x0 x1 x2 x3 : V) (h : H) : Ans :=
 bnd (ld none h x2) fun t8_1 =>
 bnd2 (env 18 [x1, t8_1] h) fun t9_2 h_3 =>
 pair_Pair_Join_1.c0 env J x3 t9_2 h_3
theorem pair_Pair_Join_1.fe_eq (env : Env) (J : JT) (x0 x1 x2 x3 : V) (h : H) : evF Tryz.prog env J 107 pair_Pair_Join_1.an [x0, x1, x2, x3] h = pair_Pair_Join_1.fs env J x0 x1 x2 x3 h := by kernel_rfl
theorem pair_Pair_Join_1.eq {tb : Nat → Option Fa} (ht : tb 107 = some (.plain pair_Pair_Join_1.an)) (x0 x1 x2 x3 : V) (h : H) : Ei Tryz.prog tb 107 [x0, x1, x2, x3] h = pair_Pair_Join_1.fs (Ei Tryz.prog tb) (Ji Tryz.prog tb 107 pair_Pair_Join_1.an) x0 x1 x2 x3 h := (Ei_eq (an := pair_Pair_Join_1.an) ht _ h).trans (pair_Pair_Join_1.fe_eq _ _ x0 x1 x2 x3 h)
noncomputable def pair_Pair_Join_1.sf : Sf := ⟨fun env J vs h => match vs with | [x0, x1, x2, x3] => pair_Pair_Join_1.fs env J x0 x1 x2 x3 h | _ => none, fun env J id vs h => none⟩
theorem pair_Pair_Join_1.sfok {tb : Nat → Option Fa} (ht : tb 107 = some (.plain pair_Pair_Join_1.an)) : SfOk Tryz.prog tb 107 pair_Pair_Join_1.sf := SfOk.plain (an := pair_Pair_Join_1.an) ht (fun env J vs h r he => by
  simp only [pair_Pair_Join_1.sf] at he; split at he
  · rw [pair_Pair_Join_1.fe_eq]; exact he
  · cases he) (fun env J id vs h r he => by simp only [pair_Pair_Join_1.sf] at he; cases he)
/- 108 (*busbar/pair.Pair).Ready$1 -/
noncomputable def pair_Pair_Ready_1.c0 (env : Env) (J : JT) (x0 x1 x2 x3 x7 : V) (h : H) : Ans :=
 cnd x7 (
 bnd (ld none h x2) fun t8_3 =>
 bnd (ld none h x3) fun t11_4 =>
 bnd2 (env 109 [t8_3, x0, x1, t11_4] h) fun t12_5 h_6 =>
 J 0 [x0, x1, x2, x3] h_6) (
 J 0 [x0, x1, x2, x3] h)
noncomputable def pair_Pair_Ready_1.fs (env : Env) (J : JT) (x0 x1 x2 x3 : V) (h : H) : Ans :=
 bnd2 (env 27 [x1] h) fun t7_1 h_2 =>
 pair_Pair_Ready_1.c0 env J x0 x1 x2 x3 t7_1 h_2
theorem pair_Pair_Ready_1.fe_eq (env : Env) (J : JT) (x0 x1 x2 x3 : V) (h : H) : evF Tryz.prog env J 108 pair_Pair_Ready_1.an [x0, x1, x2, x3] h = pair_Pair_Ready_1.fs env J x0 x1 x2 x3 h := by kernel_rfl
noncomputable def pair_Pair_Ready_1.c1 (env : Env) (J : JT) (x0 x1 x2 x3 x21 : V) (h : H) : Ans :=
 cnd x21 (
 bnd (ld none h x2) fun t22_23 =>
 bnd (ld none h x3) fun t25_24 =>
 bnd2 (env 110 [t22_23, x0, x1, t25_24] h) fun t26_25 h_26 =>
 some (.tup [], h_26)) (
 some (.tup [], h))
noncomputable def pair_Pair_Ready_1.p0 (env : Env) (J : JT) (x0 x1 x2 x3 : V) (h : H) : Ans :=
 bnd2 (env 20 [x1] h) fun t14_7 h_8 =>
 bnd (binE false .int t14_7 (.int .i64 3)) fun t15_9 =>
 bnd2 (gd t15_9 true (some (x1, h_8)) h_8) fun t17_10 h_11 =>
 bnd2 (gd t15_9 true (bnd2 (env 26 [t17_10] h_11) fun t18_12 h_13 =>
 some (t18_12, h_13)) h_11) fun t18_14 h_15 =>
 bnd2 (gd t15_9 true (bnd (fieldV (some (some 58, none)) t18_14 0) fun t19_16 =>
 some (t19_16, h_15)) h_15) fun t19_17 h_18 =>
 bnd2 (gd t15_9 true (bnd (binE false .int t19_17 (.int .i64 0)) fun t20_19 =>
 some (t20_19, h_18)) h_18) fun t20_20 h_21 =>
 bnd (pick t15_9 t20_20 (.bool false)) fun t21_22 =>
 pair_Pair_Ready_1.c1 env J x0 x1 x2 x3 t21_22 h_21
theorem pair_Pair_Ready_1.p0_eq (env : Env) (J : JT) (x0 x1 x2 x3 : V) (h : H) : evP Tryz.prog env J 108 pair_Pair_Ready_1.an 0 [x0, x1, x2, x3] h = pair_Pair_Ready_1.p0 env J x0 x1 x2 x3 h := by kernel_rfl
theorem pair_Pair_Ready_1.eq {tb : Nat → Option Fa} (ht : tb 108 = some (.plain pair_Pair_Ready_1.an)) (x0 x1 x2 x3 : V) (h : H) : Ei Tryz.prog tb 108 [x0, x1, x2, x3] h = pair_Pair_Ready_1.fs (Ei Tryz.prog tb) (Ji Tryz.prog tb 108 pair_Pair_Ready_1.an) x0 x1 x2 x3 h := (Ei_eq (an := pair_Pair_Ready_1.an) ht _ h).trans (pair_Pair_Ready_1.fe_eq _ _ x0 x1 x2 x3 h)
theorem pair_Pair_Ready_1.J0_eq {tb : Nat → Option Fa} (x0 x1 x2 x3 : V) (h : H) : Ji Tryz.prog tb 108 pair_Pair_Ready_1.an 0 [x0, x1, x2, x3] h = pair_Pair_Ready_1.p0 (Ei Tryz.prog tb) (Ji Tryz.prog tb 108 pair_Pair_Ready_1.an) x0 x1 x2 x3 h := (Ji_eq _ _ h).trans (pair_Pair_Ready_1.p0_eq _ _ x0 x1 x2 x3 h)
noncomputable def pair_Pair_Ready_1.sf : Sf := ⟨fun env J vs h => match vs with | [x0, x1, x2, x3] => pair_Pair_Ready_1.fs env J x0 x1 x2 x3 h | _ => none, fun env J id vs h => bif Nat.beq id 0 then (match vs with | [x0, x1, x2, x3] => pair_Pair_Ready_1.p0 env J x0 x1 x2 x3 h | _ => none) else (none)⟩
theorem pair_Pair_Ready_1.sfok {tb : Nat → Option Fa} (ht : tb 108 = some (.plain pair_Pair_Ready_1.an)) : SfOk Tryz.prog tb 108 pair_Pair_Ready_1.sf := SfOk.plain (an := pair_Pair_Ready_1.an) ht (fun env J vs h r he => by
  simp only [pair_Pair_Ready_1.sf] at he; split at he
  · rw [pair_Pair_Ready_1.fe_eq]; exact he
  · cases he) (fun env J id vs h r he => by
  simp only [pair_Pair_Ready_1.sf] at he
  cases hb : Nat.beq id 0
  case true =>
    rw [hb] at he; rw [Nat.eq_of_beq_eq_true hb]; simp only [cond_true] at he; split at he
    · rw [pair_Pair_Ready_1.p0_eq]; exact he
    · cases he
  rw [hb] at he; simp only [cond_false] at he; clear hb
  cases he)
/- 109 (*busbar/pair.Pair).begin -/
noncomputable def pair_Pair_begin.c4 (env : Env) (J : JT) (x0 x1 x2 x3 x10 x11 x51 : V) (h : H) : Ans :=
 cnd x51 (
 bnd (nilChk x0) fun t57_63 =>
 bnd (fieldA (some (some 162, none)) t57_63 3) fun t58_64 =>
 bnd (ld none h t58_64) fun t59_65 =>
 bnd (nilChk x0) fun t66_66 =>
 bnd (fieldA (some (some 162, none)) t66_66 4) fun t67_67 =>
 bnd (ld none h t67_67) fun t68_68 =>
 bnd2 (env 25 [x2] h) fun t55_69 h_70 =>
 bnd (ld none h_70 t58_64) fun t59_85 =>
 chkS t59_85 t59_65 (
 bnd (ld none h_70 t67_67) fun t68_84 =>
 chkS t68_84 t68_68 (
 bnd2 (gd t59_65 true (bnd (fieldA (some (some 58, none)) x10 6) fun t61_71 =>
 some (t61_71, h_70)) h_70) fun t61_72 h_73 =>
 bnd2 (gd t59_65 true (bnd (ld none h_73 t61_72) fun t62_74 =>
 some (t62_74, h_73)) h_73) fun t62_75 h_76 =>
 bnd2 (gd t59_65 true (bnd (bin .geq t62_75 (.int .i64 0)) fun t63_77 =>
 some (t63_77, h_76)) h_76) fun t63_78 h_79 =>
 bnd (pick t59_65 t63_78 (.bool false)) fun t64_80 =>
 bnd (build (zeroV Tryz.prog 159) [(0, x3), (8, t55_69), (5, t64_80), (6, t68_68)]) fun t69_81 =>
 bnd (nilChk x11) fun t70_82 =>
 bnd (st (some 158) h_79 t70_82 t69_81) fun h_83 =>
 J 0 [x1, x2, x10, x11] h_83))) (
 J 0 [x1, x2, x10, x11] h)
noncomputable def pair_Pair_begin.c3 (env : Env) (J : JT) (x0 x1 x2 x3 x10 x11 : V) (h : H) : Ans :=
 bnd (nilChk x11) fun t29_16 =>
 bnd (fieldA (some (some 158, (some 156))) t29_16 1) fun t30_17 =>
 bnd (indexA (.arr (some 156) 2 none) t30_17 x1) fun t31_18 =>
 bnd (ld none h t31_18) fun t32_19 =>
 bnd2 (gd t32_19 false (some (x11, h)) h) fun t34_20 h_21 =>
 bnd2 (gd t32_19 false (some (x1, h_21)) h_21) fun t35_22 h_23 =>
 bnd2 (gd t32_19 false (bnd (bin .sub (.int .i64 1) t35_22) fun t36_24 =>
 some (t36_24, h_23)) h_23) fun t36_25 h_26 =>
 bnd2 (gd t32_19 false (bnd (nilChk t34_20) fun t37_27 =>
 some (t37_27, h_26)) h_26) fun t37_28 h_29 =>
 bnd2 (gd t32_19 false (bnd (fieldA (some (some 158, (some 156))) t37_28 1) fun t38_30 =>
 some (t38_30, h_29)) h_29) fun t38_31 h_32 =>
 bnd2 (gd t32_19 false (bnd (indexA (.arr (some 156) 2 none) t38_31 t36_25) fun t39_33 =>
 some (t39_33, h_32)) h_32) fun t39_34 h_35 =>
 bnd2 (gd t32_19 false (bnd (ld none h_35 t39_34) fun t40_36 =>
 some (t40_36, h_35)) h_35) fun t40_37 h_38 =>
 bnd2 (gd t32_19 false (bnd (un .not t40_37) fun t41_39 =>
 some (t41_39, h_38)) h_38) fun t41_40 h_41 =>
 bnd (pick t32_19 (.bool true) t41_40) fun t42_42 =>
 bnd2 (gd t42_42 false (some (x3, h_41)) h_41) fun t44_43 h_44 =>
 bnd2 (gd t42_42 false (some (x11, h_44)) h_44) fun t45_45 h_46 =>
 bnd2 (gd t42_42 false (bnd (nilChk t45_45) fun t46_47 =>
 some (t46_47, h_46)) h_46) fun t46_48 h_49 =>
 bnd2 (gd t42_42 false (bnd (fieldA (some (some 158, none)) t46_48 0) fun t47_50 =>
 some (t47_50, h_49)) h_49) fun t47_51 h_52 =>
 bnd2 (gd t42_42 false (bnd (ld none h_52 t47_51) fun t48_53 =>
 some (t48_53, h_52)) h_52) fun t48_54 h_55 =>
 bnd2 (gd t42_42 false (bnd (bin .sub t44_43 t48_54) fun t49_56 =>
 some (t49_56, h_55)) h_55) fun t49_57 h_58 =>
 bnd2 (gd t42_42 false (bnd (bin .geq t49_57 (.int .i64 50)) fun t50_59 =>
 some (t50_59, h_58)) h_58) fun t50_60 h_61 =>
 bnd (pick t42_42 (.bool true) t50_60) fun t51_62 =>
 pair_Pair_begin.c4 env J x0 x1 x2 x3 x10 x11 t51_62 h_61
noncomputable def pair_Pair_begin.c2 (env : Env) (J : JT) (x0 x1 x2 x3 x10 x11 : V) (h : H) : Ans :=
 bnd2 (env 20 [x2] h) fun t25_13 h_14 =>
 bnd (binE true .int t25_13 (.int .i64 3)) fun t26_15 =>
 cnd t26_15 (
 some (.tup [], h_14)) (
 pair_Pair_begin.c3 env J x0 x1 x2 x3 x10 x11 h_14)
noncomputable def pair_Pair_begin.c1 (env : Env) (J : JT) (x0 x1 x2 x3 x8 x10 : V) (h : H) : Ans :=
 bnd (nilChk x0) fun t21_10 =>
 bnd (fieldA (some (some 162, (some 160))) t21_10 5) fun t22_11 =>
 bnd (indexA (.arr (some 160) 34 (some 158)) t22_11 x8) fun t23_12 =>
 pair_Pair_begin.c2 env J x0 x1 x2 x3 x10 t23_12 h
noncomputable def pair_Pair_begin.c0 (env : Env) (J : JT) (x0 x1 x2 x3 x8 : V) (h : H) : Ans :=
 bnd2 (env 26 [x2] h) fun t18_5 h_6 =>
 bnd2 (al (some (some 58)) (zeroV Tryz.prog 59) h_6) fun t10_7 h_8 =>
 bnd (st (some 58) h_8 t10_7 t18_5) fun h_9 =>
 pair_Pair_begin.c1 env J x0 x1 x2 x3 x8 t10_7 h_9
noncomputable def pair_Pair_begin.fs (env : Env) (J : JT) (x0 x1 x2 x3 : V) (h : H) : Ans :=
 bnd2 (env 23 [x2] h) fun t14_1 h_2 =>
 bnd (ext t14_1 0) fun t15_3 =>
 bnd (ext t14_1 1) fun t16_4 =>
 pair_Pair_begin.c0 env J x0 x1 x2 x3 t15_3 h_2
theorem pair_Pair_begin.fe_eq (env : Env) (J : JT) (x0 x1 x2 x3 : V) (h : H) : evF Tryz.prog env J 109 pair_Pair_begin.an [x0, x1, x2, x3] h = pair_Pair_begin.fs env J x0 x1 x2 x3 h := by kernel_rfl
noncomputable def pair_Pair_begin.c5 (env : Env) (J : JT) (x2 x10 x11 : V) (h : H) : Ans :=
 bnd (fieldA (some (some 58, none)) x10 0) fun t77_90 =>
 bnd (ld none h t77_90) fun t78_91 =>
 bnd (binE false .int t78_91 (.int .i64 3)) fun t79_92 =>
 bnd2 (gd t79_92 false (bnd (fieldA (some (some 58, none)) x10 0) fun t81_93 =>
 some (t81_93, h)) h) fun t81_94 h_95 =>
 bnd2 (gd t79_92 false (bnd (ld none h_95 t81_94) fun t82_96 =>
 some (t82_96, h_95)) h_95) fun t82_97 h_98 =>
 bnd2 (gd t79_92 false (bnd (binE false .int t82_97 (.int .i64 2)) fun t83_99 =>
 some (t83_99, h_98)) h_98) fun t83_100 h_101 =>
 bnd (pick t79_92 (.bool true) t83_100) fun t84_102 =>
 bnd2 (gd t84_102 false (bnd (fieldA (some (some 58, none)) x10 0) fun t86_103 =>
 some (t86_103, h_101)) h_101) fun t86_104 h_105 =>
 bnd2 (gd t84_102 false (bnd (ld none h_105 t86_104) fun t87_106 =>
 some (t87_106, h_105)) h_105) fun t87_107 h_108 =>
 bnd2 (gd t84_102 false (bnd (binE false .int t87_107 (.int .i64 4)) fun t88_109 =>
 some (t88_109, h_108)) h_108) fun t88_110 h_111 =>
 bnd2 (gd t84_102 false (some (t88_110, h_111)) h_111) fun t89_112 h_113 =>
 bnd2 (gd t89_112 true (some (x11, h_113)) h_113) fun t90_114 h_115 =>
 bnd2 (gd t89_112 true (bnd (nilChk t90_114) fun t91_116 =>
 some (t91_116, h_115)) h_115) fun t91_117 h_118 =>
 bnd2 (gd t89_112 true (bnd (fieldA (some (some 158, none)) t91_117 6) fun t92_119 =>
 some (t92_119, h_118)) h_118) fun t92_120 h_121 =>
 bnd2 (gd t89_112 true (bnd (ld none h_121 t92_120) fun t93_122 =>
 some (t93_122, h_121)) h_121) fun t93_123 h_124 =>
 bnd2 (gd t84_102 false (bnd (pick t89_112 t93_123 (.bool false)) fun t94_125 =>
 some (t94_125, h_124)) h_124) fun t94_126 h_127 =>
 bnd (pick t84_102 (.bool true) t94_126) fun t95_128 =>
 bnd (build (zeroV Tryz.prog 65) [(3, t95_128)]) fun t96_129 =>
 bnd2 (env 30 [x2, t96_129] h_127) fun t97_130 h_131 =>
 some (.tup [], h_131)
noncomputable def pair_Pair_begin.p0 (env : Env) (J : JT) (x1 x2 x10 x11 : V) (h : H) : Ans :=
 bnd (nilChk x11) fun t73_86 =>
 bnd (fieldA (some (some 158, (some 156))) t73_86 1) fun t74_87 =>
 bnd (indexA (.arr (some 156) 2 none) t74_87 x1) fun t75_88 =>
 bnd (st none h t75_88 (.bool true)) fun h_89 =>
 pair_Pair_begin.c5 env J x2 x10 x11 h_89
theorem pair_Pair_begin.p0_eq (env : Env) (J : JT) (x1 x2 x10 x11 : V) (h : H) : evP Tryz.prog env J 109 pair_Pair_begin.an 0 [x1, x2, x10, x11] h = pair_Pair_begin.p0 env J x1 x2 x10 x11 h := by kernel_rfl
theorem pair_Pair_begin.eq {tb : Nat → Option Fa} (ht : tb 109 = some (.plain pair_Pair_begin.an)) (x0 x1 x2 x3 : V) (h : H) : Ei Tryz.prog tb 109 [x0, x1, x2, x3] h = pair_Pair_begin.fs (Ei Tryz.prog tb) (Ji Tryz.prog tb 109 pair_Pair_begin.an) x0 x1 x2 x3 h := (Ei_eq (an := pair_Pair_begin.an) ht _ h).trans (pair_Pair_begin.fe_eq _ _ x0 x1 x2 x3 h)
theorem pair_Pair_begin.J0_eq {tb : Nat → Option Fa} (x1 x2 x10 x11 : V) (h : H) : Ji Tryz.prog tb 109 pair_Pair_begin.an 0 [x1, x2, x10, x11] h = pair_Pair_begin.p0 (Ei Tryz.prog tb) (Ji Tryz.prog tb 109 pair_Pair_begin.an) x1 x2 x10 x11 h := (Ji_eq _ _ h).trans (pair_Pair_begin.p0_eq _ _ x1 x2 x10 x11 h)
noncomputable def pair_Pair_begin.sf : Sf := ⟨fun env J vs h => match vs with | [x0, x1, x2, x3] => pair_Pair_begin.fs env J x0 x1 x2 x3 h | _ => none, fun env J id vs h => bif Nat.beq id 0 then (match vs with | [x1, x2, x10, x11] => pair_Pair_begin.p0 env J x1 x2 x10 x11 h | _ => none) else (none)⟩
theorem pair_Pair_begin.sfok {tb : Nat → Option Fa} (ht : tb 109 = some (.plain pair_Pair_begin.an)) : SfOk Tryz.prog tb 109 pair_Pair_begin.sf := SfOk.plain (an := pair_Pair_begin.an) ht (fun env J vs h r he => by
  simp only [pair_Pair_begin.sf] at he; split at he
  · rw [pair_Pair_begin.fe_eq]; exact he
  · cases he) (fun env J id vs h r he => by
  simp only [pair_Pair_begin.sf] at he
  cases hb : Nat.beq id 0
  case true =>
    rw [hb] at he; rw [Nat.eq_of_beq_eq_true hb]; simp only [cond_true] at he; split at he
    · rw [pair_Pair_begin.p0_eq]; exact he
    · cases he
  rw [hb] at he; simp only [cond_false] at he; clear hb
  cases he)
/- 111 (*busbar/pair.Pair).Drive$1 -/
noncomputable def pair_Pair_Drive_1.c0 (env : Env) (J : JT) (x0 x2 x3 x4 x5 x8 x9 : V) (h : H) : Ans :=
 bnd (ld none h x3) fun t16_5 =>
 bnd (ld (some 90) h x2) fun t19_6 =>
 bnd (ld none h x3) fun t20_7 =>
 bnd (nilChk t20_7) fun t21_8 =>
 bnd (fieldA (some (some 162, (some 38))) t21_8 0) fun t22_9 =>
 bnd (fieldA (some (some 38, none)) t22_9 0) fun t23_10 =>
 bnd (ld none h t23_10) fun t24_11 =>
 bnd (binE false .int x0 (.int .i64 1)) fun t26_12 =>
 bnd (ld none h x4) fun t29_13 =>
 bnd (nilChk t16_5) fun t33_14 =>
 bnd (fieldA (some (some 162, (some 161))) t33_14 6) fun t34_15 =>
 bnd2 (env 112 [t19_6, t24_11, t26_12, x8, x9, t29_13] h) fun t30_16 h_17 =>
 bnd (ld none h_17 x3) fun t16_24 =>
 chkS t16_24 t16_5 (
 bnd (ext t30_16 0) fun t31_18 =>
 bnd (ext t30_16 1) fun t32_19 =>
 bnd (indexA (.arr (some 161) 2 none) t34_15 x0) fun t35_20 =>
 bnd (st none h_17 t35_20 t31_18) fun h_21 =>
 bnd (indexA (.arr (some 156) 2 none) x5 x0) fun t36_22 =>
 bnd (st none h_21 t36_22 t32_19) fun h_23 =>
 some (.tup [], h_23))
noncomputable def pair_Pair_Drive_1.fs (env : Env) (J : JT) (x0 x1 x2 x3 x4 x5 : V) (h : H) : Ans :=
 bnd2 (env 22 [x1] h) fun t12_1 h_2 =>
 bnd (ext t12_1 0) fun t13_3 =>
 bnd (ext t12_1 1) fun t14_4 =>
 pair_Pair_Drive_1.c0 env J x0 x2 x3 x4 x5 t13_3 t14_4 h_2
theorem pair_Pair_Drive_1.fe_eq (env : Env) (J : JT) (x0 x1 x2 x3 x4 x5 : V) (h : H) : evF Tryz.prog env J 111 pair_Pair_Drive_1.an [x0, x1, x2, x3, x4, x5] h = pair_Pair_Drive_1.fs env J x0 x1 x2 x3 x4 x5 h := by kernel_rfl
theorem pair_Pair_Drive_1.eq {tb : Nat → Option Fa} (ht : tb 111 = some (.plain pair_Pair_Drive_1.an)) (x0 x1 x2 x3 x4 x5 : V) (h : H) : Ei Tryz.prog tb 111 [x0, x1, x2, x3, x4, x5] h = pair_Pair_Drive_1.fs (Ei Tryz.prog tb) (Ji Tryz.prog tb 111 pair_Pair_Drive_1.an) x0 x1 x2 x3 x4 x5 h := (Ei_eq (an := pair_Pair_Drive_1.an) ht _ h).trans (pair_Pair_Drive_1.fe_eq _ _ x0 x1 x2 x3 x4 x5 h)
noncomputable def pair_Pair_Drive_1.sf : Sf := ⟨fun env J vs h => match vs with | [x0, x1, x2, x3, x4, x5] => pair_Pair_Drive_1.fs env J x0 x1 x2 x3 x4 x5 h | _ => none, fun env J id vs h => none⟩
theorem pair_Pair_Drive_1.sfok {tb : Nat → Option Fa} (ht : tb 111 = some (.plain pair_Pair_Drive_1.an)) : SfOk Tryz.prog tb 111 pair_Pair_Drive_1.sf := SfOk.plain (an := pair_Pair_Drive_1.an) ht (fun env J vs h r he => by
  simp only [pair_Pair_Drive_1.sf] at he; split at he
  · rw [pair_Pair_Drive_1.fe_eq]; exact he
  · cases he) (fun env J id vs h r he => by simp only [pair_Pair_Drive_1.sf] at he; cases he)
/- 112 (busbar/fault.Fault).Drives -/
noncomputable def fault_Fault_Drives.c3 (env : Env) (J : JT) (x2 x14 x16 : V) (h : H) : Ans :=
 cnd x2 (
 J 0 [x14, (.int .i64 2)] h) (
 J 0 [x14, x16] h)
noncomputable def fault_Fault_Drives.c2 (env : Env) (J : JT) (x2 x14 : V) (h : H) : Ans :=
 fault_Fault_Drives.c3 env J x2 x14 (.int .i64 0) h
noncomputable def fault_Fault_Drives.c1 (env : Env) (J : JT) (x1 x2 x3 x4 x6 x14 x15 : V) (h : H) : Ans :=
 bnd (un .not x15) fun t25_8 =>
 bnd2 (gd t25_8 false (bnd (ld (some 90) h x6) fun t27_9 =>
 some (t27_9, h)) h) fun t27_10 h_11 =>
 bnd2 (gd t25_8 false (some (x1, h_11)) h_11) fun t28_12 h_13 =>
 bnd2 (gd t25_8 false (bnd2 (env 197 [t27_10, t28_12] h_13) fun t29_14 h_15 =>
 some (t29_14, h_15)) h_13) fun t29_16 h_17 =>
 bnd2 (gd t25_8 false (bnd (un .not t29_16) fun t30_18 =>
 some (t30_18, h_17)) h_17) fun t30_19 h_20 =>
 bnd (pick t25_8 (.bool true) t30_19) fun t31_21 =>
 bnd2 (gd t31_21 false (bnd (fieldA (some (some 90, none)) x6 2) fun t33_22 =>
 some (t33_22, h_20)) h_20) fun t33_23 h_24 =>
 bnd2 (gd t31_21 false (bnd (ld none h_24 t33_23) fun t34_25 =>
 some (t34_25, h_24)) h_24) fun t34_26 h_27 =>
 bnd2 (gd t31_21 false (some (x2, h_27)) h_27) fun t35_28 h_29 =>
 bnd2 (gd t31_21 false (bnd (binE true .bool t34_26 t35_28) fun t36_30 =>
 some (t36_30, h_29)) h_29) fun t36_31 h_32 =>
 bnd (pick t31_21 (.bool true) t36_31) fun t37_33 =>
 bnd2 (gd t37_33 false (some (x14, h_32)) h_32) fun t39_34 h_35 =>
 bnd2 (gd t37_33 false (bnd (bin .and t39_34 (.int .u8 8)) fun t40_36 =>
 some (t40_36, h_35)) h_35) fun t40_37 h_38 =>
 bnd2 (gd t37_33 false (bnd (binE true .int t40_37 (.int .u8 0)) fun t41_39 =>
 some (t41_39, h_38)) h_38) fun t41_40 h_41 =>
 bnd (pick t37_33 (.bool true) t41_40) fun t42_42 =>
 cnd t42_42 (
 retV h_41 [x3,x4]) (
 fault_Fault_Drives.c2 env J x2 x14 h_41)
noncomputable def fault_Fault_Drives.c0 (env : Env) (J : JT) (x1 x2 x3 x4 x5 x6 : V) (h : H) : Ans :=
 bnd (ld (some 90) h x6) fun t19_3 =>
 bnd2 (env 196 [t19_3, x5] h) fun t21_4 h_5 =>
 bnd (ext t21_4 0) fun t22_6 =>
 bnd (ext t21_4 1) fun t23_7 =>
 fault_Fault_Drives.c1 env J x1 x2 x3 x4 x6 t22_6 t23_7 h_5
noncomputable def fault_Fault_Drives.fs (env : Env) (J : JT) (x0 x1 x2 x3 x4 x5 : V) (h : H) : Ans :=
 bnd2 (box (some (some 90)) h x0) fun t6_1 h_2 =>
 fault_Fault_Drives.c0 env J x1 x2 x3 x4 x5 t6_1 h_2
theorem fault_Fault_Drives.fe_eq (env : Env) (J : JT) (x0 x1 x2 x3 x4 x5 : V) (h : H) : evF Tryz.prog env J 112 fault_Fault_Drives.an [x0, x1, x2, x3, x4, x5] h = fault_Fault_Drives.fs env J x0 x1 x2 x3 x4 x5 h := by kernel_rfl
noncomputable def fault_Fault_Drives.p0 (env : Env) (J : JT) (x14 x16 : V) (h : H) : Ans :=
 bnd (bin .and x14 (.int .u8 1)) fun t48_43 =>
 bnd (binE true .int t48_43 (.int .u8 0)) fun t49_44 =>
 bnd2 (env 198 [(.int .u8 0), x16, t49_44] h) fun t50_45 h_46 =>
 bnd (bin .add x16 (.int .i64 1)) fun t52_47 =>
 bnd (bin .and x14 (.int .u8 2)) fun t54_48 =>
 bnd (binE true .int t54_48 (.int .u8 0)) fun t55_49 =>
 bnd2 (env 198 [t50_45, t52_47, t55_49] h_46) fun t56_50 h_51 =>
 bnd (bin .and x14 (.int .u8 4)) fun t59_52 =>
 bnd (binE true .int t59_52 (.int .u8 0)) fun t60_53 =>
 retV h_51 [t56_50,t60_53]
theorem fault_Fault_Drives.p0_eq (env : Env) (J : JT) (x14 x16 : V) (h : H) : evP Tryz.prog env J 112 fault_Fault_Drives.an 0 [x14, x16] h = fault_Fault_Drives.p0 env J x14 x16 h := by kernel_rfl
theorem fault_Fault_Drives.eq {tb : Nat → Option Fa} (ht : tb 112 = some (.plain fault_Fault_Drives.an)) (x0 x1 x2 x3 x4 x5 : V) (h : H) : Ei Tryz.prog tb 112 [x0, x1, x2, x3, x4, x5] h = fault_Fault_Drives.fs (Ei Tryz.prog tb) (Ji Tryz.prog tb 112 fault_Fault_Drives.an) x0 x1 x2 x3 x4 x5 h := (Ei_eq (an := fault_Fault_Drives.an) ht _ h).trans (fault_Fault_Drives.fe_eq _ _ x0 x1 x2 x3 x4 x5 h)
theorem fault_Fault_Drives.J0_eq {tb : Nat → Option Fa} (x14 x16 : V) (h : H) : Ji Tryz.prog tb 112 fault_Fault_Drives.an 0 [x14, x16] h = fault_Fault_Drives.p0 (Ei Tryz.prog tb) (Ji Tryz.prog tb 112 fault_Fault_Drives.an) x14 x16 h := (Ji_eq _ _ h).trans (fault_Fault_Drives.p0_eq _ _ x14 x16 h)
noncomputable def fault_Fault_Drives.sf : Sf := ⟨fun env J vs h => match vs with | [x0, x1, x2, x3, x4, x5] => fault_Fault_Drives.fs env J x0 x1 x2 x3 x4 x5 h | _ => none, fun env J id vs h => bif Nat.beq id 0 then (match vs with | [x14, x16] => fault_Fault_Drives.p0 env J x14 x16 h | _ => none) else (none)⟩
theorem fault_Fault_Drives.sfok {tb : Nat → Option Fa} (ht : tb 112 = some (.plain fault_Fault_Drives.an)) : SfOk Tryz.prog tb 112 fault_Fault_Drives.sf := SfOk.plain (an := fault_Fault_Drives.an) ht (fun env J vs h r he => by
  simp only [fault_Fault_Drives.sf] at he; split at he
  · rw [fault_Fault_Drives.fe_eq]; exact he
  · cases he) (fun env J id vs h r he => by
  simp only [fault_Fault_Drives.sf] at he
  cases hb : Nat.beq id 0
  case true =>
    rw [hb] at he; rw [Nat.eq_of_beq_eq_true hb]; simp only [cond_true] at he; split at he
    · rw [fault_Fault_Drives.p0_eq]; exact he
    · cases he
  rw [hb] at he; simp only [cond_false] at he; clear hb
  cases he)
end Go.Proofs.YtbgdidfegkmafaaGreat
