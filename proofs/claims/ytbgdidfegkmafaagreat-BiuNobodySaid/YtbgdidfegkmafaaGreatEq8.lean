import Derived.Test.YtbgdidfegkmafaaGreatTb
import Derived.Test.YtbgdidfegkmafaaGreatAmD
namespace Go.Proofs.YtbgdidfegkmafaaGreat
open Go Go.AM Go.Proofs
set_option linter.unusedVariables false
set_option maxRecDepth 100000
set_option maxHeartbeats 4000000
/- 215 (busbar/cmd.Command).Put -/
noncomputable def cmd_Command_Put.c3 (env : Env) (J : JT) (x1 x4 x14 x15 x16 : V) (h : H) : Ans :=
 J 0 [x1, x4, x14, x15, x16] h
noncomputable def cmd_Command_Put.c2 (env : Env) (J : JT) (x1 x4 : V) (h : H) : Ans :=
 bnd2 (env 256 [x1] h) fun t14_13 h_14 =>
 bnd (lenV .slc h_14 t14_13) fun t15_15 =>
 cmd_Command_Put.c3 env J x1 x4 t14_13 t15_15 (.int .i64 0) h_14
noncomputable def cmd_Command_Put.c1 (env : Env) (J : JT) (x1 : V) (h : H) : Ans :=
 bnd (fieldA (some (some 224, none)) x1 0) fun t10_7 =>
 bnd (ld none h t10_7) fun t11_8 =>
 bnd2 (conv (.int .u8) h t11_8) fun t12_9 h_10 =>
 bnd2 (bslc (some (5, none, 1)) (zeroV Tryz.prog 5) 1 [(0, t12_9)] h_10) fun t13_11 h_12 =>
 cmd_Command_Put.c2 env J x1 t13_11 h_12
noncomputable def cmd_Command_Put.c0 (env : Env) (J : JT) (x1 : V) (h : H) : Ans :=
 bnd (ld (some 224) h x1) fun t7_3 =>
 bnd2 (env 255 [t7_3] h) fun t8_4 h_5 =>
 bnd (un .not t8_4) fun t9_6 =>
 cnd t9_6 (
 retV h_5 [.nils,(.int .i64 2)]) (
 cmd_Command_Put.c1 env J x1 h_5)
noncomputable def cmd_Command_Put.fs (env : Env) (J : JT) (x0 : V) (h : H) : Ans :=
 bnd2 (box (some (some 224)) h x0) fun t1_1 h_2 =>
 cmd_Command_Put.c0 env J t1_1 h_2
theorem cmd_Command_Put.fe_eq (env : Env) (J : JT) (x0 : V) (h : H) : evF Tryz.prog env J 215 cmd_Command_Put.an [x0] h = cmd_Command_Put.fs env J x0 h := by kernel_rfl
noncomputable def cmd_Command_Put.c6 (env : Env) (J : JT) (x1 x4 x6 x14 x15 x16 : V) (h : H) : Ans :=
 bnd (nilChk x6) fun t22_19 =>
 bnd (ld none h t22_19) fun t23_20 =>
 bnd2 (conv (.int .u8) h t23_20) fun t24_21 h_22 =>
 bnd2 (bslc (some (5, none, 1)) (zeroV Tryz.prog 5) 1 [(0, t24_21)] h_22) fun t25_23 h_24 =>
 bnd2 (app (some (5, none, 1)) h_24 x4 t25_23) fun t26_25 h_26 =>
 bnd (bin .add x16 (.int .i64 1)) fun t27_27 =>
 J 0 [x1, t26_25, x14, x15, t27_27] h_26
noncomputable def cmd_Command_Put.c5 (env : Env) (J : JT) (x1 x4 x14 x15 x16 : V) (h : H) : Ans :=
 bnd (indexA (.slc none) x14 x16) fun t18_17 =>
 bnd (ld none h t18_17) fun t19_18 =>
 cmd_Command_Put.c6 env J x1 x4 t19_18 x14 x15 x16 h
noncomputable def cmd_Command_Put.c4 (env : Env) (J : JT) (x1 x4 x14 x15 x16 x17 : V) (h : H) : Ans :=
 cnd x17 (
 cmd_Command_Put.c5 env J x1 x4 x14 x15 x16 h) (
 J 1 [x1, x4] h)
noncomputable def cmd_Command_Put.p0 (env : Env) (J : JT) (x1 x4 x14 x15 x16 : V) (h : H) : Ans :=
 bnd (bin .lss x16 x15) fun t17_16 =>
 cmd_Command_Put.c4 env J x1 x4 x14 x15 x16 t17_16 h
theorem cmd_Command_Put.p0_eq (env : Env) (J : JT) (x1 x4 x14 x15 x16 : V) (h : H) : evP Tryz.prog env J 215 cmd_Command_Put.an 0 [x1, x4, x14, x15, x16] h = cmd_Command_Put.p0 env J x1 x4 x14 x15 x16 h := by kernel_rfl
noncomputable def cmd_Command_Put.c7 (env : Env) (J : JT) (x1 x4 x28 : V) (h : H) : Ans :=
 cnd x28 (
 bnd (fieldA (some (some 224, none)) x1 6) fun t30_30 =>
 bnd (ld none h t30_30) fun t31_31 =>
 bnd (bin .shr t31_31 (.int .u64 8)) fun t32_32 =>
 bnd2 (conv (.int .u8) h t32_32) fun t33_33 h_34 =>
 bnd (fieldA (some (some 224, none)) x1 6) fun t34_35 =>
 bnd (ld none h_34 t34_35) fun t35_36 =>
 bnd2 (conv (.int .u8) h_34 t35_36) fun t36_37 h_38 =>
 bnd2 (bslc (some (5, none, 1)) (zeroV Tryz.prog 5) 2 [(0, t33_33), (1, t36_37)] h_38) fun t37_39 h_40 =>
 bnd2 (app (some (5, none, 1)) h_40 x4 t37_39) fun t38_41 h_42 =>
 retV h_42 [t38_41,(.int .i64 0)]) (
 retV h [x4,(.int .i64 0)])
noncomputable def cmd_Command_Put.p1 (env : Env) (J : JT) (x1 x4 : V) (h : H) : Ans :=
 bnd2 (env 257 [x1] h) fun t28_28 h_29 =>
 cmd_Command_Put.c7 env J x1 x4 t28_28 h_29
theorem cmd_Command_Put.p1_eq (env : Env) (J : JT) (x1 x4 : V) (h : H) : evP Tryz.prog env J 215 cmd_Command_Put.an 1 [x1, x4] h = cmd_Command_Put.p1 env J x1 x4 h := by kernel_rfl
theorem cmd_Command_Put.eq {tb : Nat → Option Fa} (ht : tb 215 = some (.plain cmd_Command_Put.an)) (x0 : V) (h : H) : Ei Tryz.prog tb 215 [x0] h = cmd_Command_Put.fs (Ei Tryz.prog tb) (Ji Tryz.prog tb 215 cmd_Command_Put.an) x0 h := (Ei_eq (an := cmd_Command_Put.an) ht _ h).trans (cmd_Command_Put.fe_eq _ _ x0 h)
theorem cmd_Command_Put.J0_eq {tb : Nat → Option Fa} (x1 x4 x14 x15 x16 : V) (h : H) : Ji Tryz.prog tb 215 cmd_Command_Put.an 0 [x1, x4, x14, x15, x16] h = cmd_Command_Put.p0 (Ei Tryz.prog tb) (Ji Tryz.prog tb 215 cmd_Command_Put.an) x1 x4 x14 x15 x16 h := (Ji_eq _ _ h).trans (cmd_Command_Put.p0_eq _ _ x1 x4 x14 x15 x16 h)
theorem cmd_Command_Put.J1_eq {tb : Nat → Option Fa} (x1 x4 : V) (h : H) : Ji Tryz.prog tb 215 cmd_Command_Put.an 1 [x1, x4] h = cmd_Command_Put.p1 (Ei Tryz.prog tb) (Ji Tryz.prog tb 215 cmd_Command_Put.an) x1 x4 h := (Ji_eq _ _ h).trans (cmd_Command_Put.p1_eq _ _ x1 x4 h)
noncomputable def cmd_Command_Put.sf : Sf := ⟨fun env J vs h => match vs with | [x0] => cmd_Command_Put.fs env J x0 h | _ => none, fun env J id vs h => bif Nat.beq id 0 then (match vs with | [x1, x4, x14, x15, x16] => cmd_Command_Put.p0 env J x1 x4 x14 x15 x16 h | _ => none) else (bif Nat.beq id 1 then (match vs with | [x1, x4] => cmd_Command_Put.p1 env J x1 x4 h | _ => none) else (none))⟩
theorem cmd_Command_Put.sfok {tb : Nat → Option Fa} (ht : tb 215 = some (.plain cmd_Command_Put.an)) : SfOk Tryz.prog tb 215 cmd_Command_Put.sf := SfOk.plain (an := cmd_Command_Put.an) ht (fun env J vs h r he => by
  simp only [cmd_Command_Put.sf] at he; split at he
  · rw [cmd_Command_Put.fe_eq]; exact he
  · cases he) (fun env J id vs h r he => by
  simp only [cmd_Command_Put.sf] at he
  cases hb : Nat.beq id 0
  case true =>
    rw [hb] at he; rw [Nat.eq_of_beq_eq_true hb]; simp only [cond_true] at he; split at he
    · rw [cmd_Command_Put.p0_eq]; exact he
    · cases he
  rw [hb] at he; simp only [cond_false] at he; clear hb
  cases hb : Nat.beq id 1
  case true =>
    rw [hb] at he; rw [Nat.eq_of_beq_eq_true hb]; simp only [cond_true] at he; split at he
    · rw [cmd_Command_Put.p1_eq]; exact he
    · cases he
  rw [hb] at he; simp only [cond_false] at he; clear hb
  cases he)
/- 216 slices.Grow[[]byte,byte] -/
noncomputable def slices_Grow.c1 (env : Env) (J : JT) (x0 x1 x6 : V) (h : H) : Ans :=
 cnd x6 (
 none) (
 J 0 [x0, x1] h)
noncomputable def slices_Grow.c0 (env : Env) (J : JT) (x0 x1 : V) (h : H) : Ans :=
 bnd (bin .lss x1 (.int .i64 0)) fun t6_1 =>
 slices_Grow.c1 env J x0 x1 t6_1 h
noncomputable def slices_Grow.fs (env : Env) (J : JT) (x0 x1 : V) (h : H) : Ans :=
 slices_Grow.c0 env J x0 x1 h
theorem slices_Grow.fe_eq (env : Env) (J : JT) (x0 x1 : V) (h : H) : evF Tryz.prog env J 216 slices_Grow.an [x0, x1] h = slices_Grow.fs env J x0 x1 h := by kernel_rfl
noncomputable def slices_Grow.c3 (env : Env) (J : JT) (x0 x1 x16 : V) (h : H) : Ans :=
 cnd x16 (
 bnd (capV .slc x0) fun t19_7 =>
 bnd (slcV (.slc none) x0 none (some t19_7) none) fun t20_8 =>
 bnd2 (appZ (some (5, none, 1)) (zeroV Tryz.prog 5) h t20_8 x1) fun t22_9 h_10 =>
 bnd (lenV .slc h_10 x0) fun t24_11 =>
 bnd (slcV (.slc none) t22_9 none (some t24_11) none) fun t25_12 =>
 some (t25_12, h_10)) (
 some (x0, h))
noncomputable def slices_Grow.c2 (env : Env) (J : JT) (x0 x1 : V) (h : H) : Ans :=
 bnd (bin .gtr x1 (.int .i64 0)) fun t16_6 =>
 slices_Grow.c3 env J x0 x1 t16_6 h
noncomputable def slices_Grow.p0 (env : Env) (J : JT) (x0 x1 : V) (h : H) : Ans :=
 bnd (capV .slc x0) fun t10_2 =>
 bnd (lenV .slc h x0) fun t12_3 =>
 bnd (bin .sub t10_2 t12_3) fun t13_4 =>
 bnd (bin .sub x1 t13_4) fun t14_5 =>
 slices_Grow.c2 env J x0 t14_5 h
theorem slices_Grow.p0_eq (env : Env) (J : JT) (x0 x1 : V) (h : H) : evP Tryz.prog env J 216 slices_Grow.an 0 [x0, x1] h = slices_Grow.p0 env J x0 x1 h := by kernel_rfl
theorem slices_Grow.eq {tb : Nat → Option Fa} (ht : tb 216 = some (.plain slices_Grow.an)) (x0 x1 : V) (h : H) : Ei Tryz.prog tb 216 [x0, x1] h = slices_Grow.fs (Ei Tryz.prog tb) (Ji Tryz.prog tb 216 slices_Grow.an) x0 x1 h := (Ei_eq (an := slices_Grow.an) ht _ h).trans (slices_Grow.fe_eq _ _ x0 x1 h)
theorem slices_Grow.J0_eq {tb : Nat → Option Fa} (x0 x1 : V) (h : H) : Ji Tryz.prog tb 216 slices_Grow.an 0 [x0, x1] h = slices_Grow.p0 (Ei Tryz.prog tb) (Ji Tryz.prog tb 216 slices_Grow.an) x0 x1 h := (Ji_eq _ _ h).trans (slices_Grow.p0_eq _ _ x0 x1 h)
noncomputable def slices_Grow.sf : Sf := ⟨fun env J vs h => match vs with | [x0, x1] => slices_Grow.fs env J x0 x1 h | _ => none, fun env J id vs h => bif Nat.beq id 0 then (match vs with | [x0, x1] => slices_Grow.p0 env J x0 x1 h | _ => none) else (none)⟩
theorem slices_Grow.sfok {tb : Nat → Option Fa} (ht : tb 216 = some (.plain slices_Grow.an)) : SfOk Tryz.prog tb 216 slices_Grow.sf := SfOk.plain (an := slices_Grow.an) ht (fun env J vs h r he => by
  simp only [slices_Grow.sf] at he; split at he
  · rw [slices_Grow.fe_eq]; exact he
  · cases he) (fun env J id vs h r he => by
  simp only [slices_Grow.sf] at he
  cases hb : Nat.beq id 0
  case true =>
    rw [hb] at he; rw [Nat.eq_of_beq_eq_true hb]; simp only [cond_true] at he; split at he
    · rw [slices_Grow.p0_eq]; exact he
    · cases he
  rw [hb] at he; simp only [cond_false] at he; clear hb
  cases he)
/- 217 busbar/image.within -/
noncomputable def image_within.c0 (env : Env) (J : JT) (x0 x1 : V) (h : H) : Ans :=
 bnd (bin .geq x0 (.int .i64 0)) fun t6_1 =>
 bnd2 (gd t6_1 true (some (x0, h)) h) fun t8_2 h_3 =>
 bnd2 (gd t6_1 true (some (x1, h_3)) h_3) fun t9_4 h_5 =>
 bnd2 (gd t6_1 true (bnd (bin .lss t8_2 t9_4) fun t10_6 =>
 some (t10_6, h_5)) h_5) fun t10_7 h_8 =>
 bnd (pick t6_1 t10_7 (.bool false)) fun t11_9 =>
 some (t11_9, h_8)
noncomputable def image_within.fs (env : Env) (J : JT) (x0 x1 : V) (h : H) : Ans :=
 image_within.c0 env J x0 x1 h
theorem image_within.fe_eq (env : Env) (J : JT) (x0 x1 : V) (h : H) : evF Tryz.prog env J 217 image_within.an [x0, x1] h = image_within.fs env J x0 x1 h := by kernel_rfl
theorem image_within.eq {tb : Nat → Option Fa} (ht : tb 217 = some (.plain image_within.an)) (x0 x1 : V) (h : H) : Ei Tryz.prog tb 217 [x0, x1] h = image_within.fs (Ei Tryz.prog tb) (Ji Tryz.prog tb 217 image_within.an) x0 x1 h := (Ei_eq (an := image_within.an) ht _ h).trans (image_within.fe_eq _ _ x0 x1 h)
noncomputable def image_within.sf : Sf := ⟨fun env J vs h => match vs with | [x0, x1] => image_within.fs env J x0 x1 h | _ => none, fun env J id vs h => none⟩
theorem image_within.sfok {tb : Nat → Option Fa} (ht : tb 217 = some (.plain image_within.an)) : SfOk Tryz.prog tb 217 image_within.sf := SfOk.plain (an := image_within.an) ht (fun env J vs h r he => by
  simp only [image_within.sf] at he; split at he
  · rw [image_within.fe_eq]; exact he
  · cases he) (fun env J id vs h r he => by simp only [image_within.sf] at he; cases he)
/- 218 busbar/clock.fits -/
noncomputable def clock_fits.c0 (env : Env) (J : JT) (x0 : V) (h : H) : Ans :=
 bnd (bin .geq x0 (.int .i64 8)) fun t4_1 =>
 bnd2 (gd t4_1 true (some (x0, h)) h) fun t6_2 h_3 =>
 bnd2 (gd t4_1 true (bnd (bin .leq t6_2 (.int .i64 1048576)) fun t7_4 =>
 some (t7_4, h_3)) h_3) fun t7_5 h_6 =>
 bnd (pick t4_1 t7_5 (.bool false)) fun t8_7 =>
 some (t8_7, h_6)
noncomputable def clock_fits.fs (env : Env) (J : JT) (x0 : V) (h : H) : Ans :=
 clock_fits.c0 env J x0 h
theorem clock_fits.fe_eq (env : Env) (J : JT) (x0 : V) (h : H) : evF Tryz.prog env J 218 clock_fits.an [x0] h = clock_fits.fs env J x0 h := by kernel_rfl
theorem clock_fits.eq {tb : Nat → Option Fa} (ht : tb 218 = some (.plain clock_fits.an)) (x0 : V) (h : H) : Ei Tryz.prog tb 218 [x0] h = clock_fits.fs (Ei Tryz.prog tb) (Ji Tryz.prog tb 218 clock_fits.an) x0 h := (Ei_eq (an := clock_fits.an) ht _ h).trans (clock_fits.fe_eq _ _ x0 h)
noncomputable def clock_fits.sf : Sf := ⟨fun env J vs h => match vs with | [x0] => clock_fits.fs env J x0 h | _ => none, fun env J id vs h => none⟩
theorem clock_fits.sfok {tb : Nat → Option Fa} (ht : tb 218 = some (.plain clock_fits.an)) : SfOk Tryz.prog tb 218 clock_fits.sf := SfOk.plain (an := clock_fits.an) ht (fun env J vs h r he => by
  simp only [clock_fits.sf] at he; split at he
  · rw [clock_fits.fe_eq]; exact he
  · cases he) (fun env J id vs h r he => by simp only [clock_fits.sf] at he; cases he)
/- 219 busbar/active.New -/
noncomputable def active_New.c0 (env : Env) (J : JT) (x1 : V) (h : H) : Ans :=
 bnd (ld (some 58) h x1) fun t3_3 =>
 bnd2 (env 258 [t3_3] h) fun t4_4 h_5 =>
 bnd (build (zeroV Tryz.prog 252) [(0, (.bool true)), (1, t4_4), (2, (.int .i64 (-1)))]) fun t5_6 =>
 bnd2 (box (some (some 251)) h_5 t5_6) fun t6_7 h_8 =>
 some (t6_7, h_8)
noncomputable def active_New.fs (env : Env) (J : JT) (x0 : V) (h : H) : Ans :=
 bnd2 (box (some (some 58)) h x0) fun t1_1 h_2 =>
 active_New.c0 env J t1_1 h_2
theorem active_New.fe_eq (env : Env) (J : JT) (x0 : V) (h : H) : evF Tryz.prog env J 219 active_New.an [x0] h = active_New.fs env J x0 h := by kernel_rfl
theorem active_New.eq {tb : Nat → Option Fa} (ht : tb 219 = some (.plain active_New.an)) (x0 : V) (h : H) : Ei Tryz.prog tb 219 [x0] h = active_New.fs (Ei Tryz.prog tb) (Ji Tryz.prog tb 219 active_New.an) x0 h := (Ei_eq (an := active_New.an) ht _ h).trans (active_New.fe_eq _ _ x0 h)
noncomputable def active_New.sf : Sf := ⟨fun env J vs h => match vs with | [x0] => active_New.fs env J x0 h | _ => none, fun env J id vs h => none⟩
theorem active_New.sfok {tb : Nat → Option Fa} (ht : tb 219 = some (.plain active_New.an)) : SfOk Tryz.prog tb 219 active_New.sf := SfOk.plain (an := active_New.an) ht (fun env J vs h r he => by
  simp only [active_New.sf] at he; split at he
  · rw [active_New.fe_eq]; exact he
  · cases he) (fun env J id vs h r he => by simp only [active_New.sf] at he; cases he)
/- 220 busbar/check.New -/
noncomputable def check_New.fs (env : Env) (J : JT) (h : H) : Ans :=
 bnd (build (zeroV Tryz.prog 291) [(1, (.bool true))]) fun t1_1 =>
 bnd2 (box (some (some 290)) h t1_1) fun t2_2 h_3 =>
 some (t2_2, h_3)
theorem check_New.fe_eq (env : Env) (J : JT) (h : H) : evF Tryz.prog env J 220 check_New.an [] h = check_New.fs env J  h := by kernel_rfl
theorem check_New.eq {tb : Nat → Option Fa} (ht : tb 220 = some (.plain check_New.an)) (h : H) : Ei Tryz.prog tb 220 [] h = check_New.fs (Ei Tryz.prog tb) (Ji Tryz.prog tb 220 check_New.an)  h := (Ei_eq (an := check_New.an) ht _ h).trans (check_New.fe_eq _ _  h)
noncomputable def check_New.sf : Sf := ⟨fun env J vs h => match vs with | [] => check_New.fs env J  h | _ => none, fun env J id vs h => none⟩
theorem check_New.sfok {tb : Nat → Option Fa} (ht : tb 220 = some (.plain check_New.an)) : SfOk Tryz.prog tb 220 check_New.sf := SfOk.plain (an := check_New.an) ht (fun env J vs h r he => by
  simp only [check_New.sf] at he; split at he
  · rw [check_New.fe_eq]; exact he
  · cases he) (fun env J id vs h r he => by simp only [check_New.sf] at he; cases he)
/- 222 slices.Sort[[]int,int] -/
noncomputable def slices_Sort.c0 (env : Env) (J : JT) (x0 x2 : V) (h : H) : Ans :=
 bnd2 (conv (.int .u64) h x2) fun t8_2 h_3 =>
 bnd2 (env 260 [t8_2] h_3) fun t9_4 h_5 =>
 bnd2 (env 259 [x0, (.int .i64 0), x2, t9_4] h_5) fun t10_6 h_7 =>
 some (.tup [], h_7)
noncomputable def slices_Sort.fs (env : Env) (J : JT) (x0 : V) (h : H) : Ans :=
 bnd (lenV .slc h x0) fun t4_1 =>
 slices_Sort.c0 env J x0 t4_1 h
theorem slices_Sort.fe_eq (env : Env) (J : JT) (x0 : V) (h : H) : evF Tryz.prog env J 222 slices_Sort.an [x0] h = slices_Sort.fs env J x0 h := by kernel_rfl
theorem slices_Sort.eq {tb : Nat → Option Fa} (ht : tb 222 = some (.plain slices_Sort.an)) (x0 : V) (h : H) : Ei Tryz.prog tb 222 [x0] h = slices_Sort.fs (Ei Tryz.prog tb) (Ji Tryz.prog tb 222 slices_Sort.an) x0 h := (Ei_eq (an := slices_Sort.an) ht _ h).trans (slices_Sort.fe_eq _ _ x0 h)
noncomputable def slices_Sort.sf : Sf := ⟨fun env J vs h => match vs with | [x0] => slices_Sort.fs env J x0 h | _ => none, fun env J id vs h => none⟩
theorem slices_Sort.sfok {tb : Nat → Option Fa} (ht : tb 222 = some (.plain slices_Sort.an)) : SfOk Tryz.prog tb 222 slices_Sort.sf := SfOk.plain (an := slices_Sort.an) ht (fun env J vs h r he => by
  simp only [slices_Sort.sf] at he; split at he
  · rw [slices_Sort.fe_eq]; exact he
  · cases he) (fun env J id vs h r he => by simp only [slices_Sort.sf] at he; cases he)
/- 223 busbar/wires.is -/
noncomputable def wires_is.c0 (env : Env) (J : JT) (x0 : V) (h : H) : Ans :=
 bnd (bin .geq x0 (.int .i64 0)) fun t4_1 =>
 bnd2 (gd t4_1 true (some (x0, h)) h) fun t6_2 h_3 =>
 bnd2 (gd t4_1 true (bnd (bin .leq t6_2 (.int .i64 3)) fun t7_4 =>
 some (t7_4, h_3)) h_3) fun t7_5 h_6 =>
 bnd (pick t4_1 t7_5 (.bool false)) fun t8_7 =>
 some (t8_7, h_6)
noncomputable def wires_is.fs (env : Env) (J : JT) (x0 : V) (h : H) : Ans :=
 wires_is.c0 env J x0 h
theorem wires_is.fe_eq (env : Env) (J : JT) (x0 : V) (h : H) : evF Tryz.prog env J 223 wires_is.an [x0] h = wires_is.fs env J x0 h := by kernel_rfl
theorem wires_is.eq {tb : Nat → Option Fa} (ht : tb 223 = some (.plain wires_is.an)) (x0 : V) (h : H) : Ei Tryz.prog tb 223 [x0] h = wires_is.fs (Ei Tryz.prog tb) (Ji Tryz.prog tb 223 wires_is.an) x0 h := (Ei_eq (an := wires_is.an) ht _ h).trans (wires_is.fe_eq _ _ x0 h)
noncomputable def wires_is.sf : Sf := ⟨fun env J vs h => match vs with | [x0] => wires_is.fs env J x0 h | _ => none, fun env J id vs h => none⟩
theorem wires_is.sfok {tb : Nat → Option Fa} (ht : tb 223 = some (.plain wires_is.an)) : SfOk Tryz.prog tb 223 wires_is.sf := SfOk.plain (an := wires_is.an) ht (fun env J vs h r he => by
  simp only [wires_is.sf] at he; split at he
  · rw [wires_is.fe_eq]; exact he
  · cases he) (fun env J id vs h r he => by simp only [wires_is.sf] at he; cases he)
/- 224 (*busbar/runs.Runs).when -/
noncomputable def runs_Runs_when.c0 (env : Env) (J : JT) (x0 x1 x2 : V) (h : H) : Ans :=
 bnd2 (env 164 [x0] h) fun t8_1 h_2 =>
 bnd2 (gd t8_1 false (some (x0, h_2)) h_2) fun t10_3 h_4 =>
 bnd2 (gd t8_1 false (bnd2 (env 165 [t10_3] h_4) fun t11_5 h_6 =>
 some (t11_5, h_6)) h_4) fun t11_7 h_8 =>
 bnd2 (gd t8_1 false (bnd (binE false .int t11_7 (.int .i64 0)) fun t12_9 =>
 some (t12_9, h_8)) h_8) fun t12_10 h_11 =>
 bnd2 (gd t8_1 false (some (x1, h_11)) h_11) fun t13_12 h_13 =>
 bnd2 (gd t8_1 false (bnd (binE true .bool t12_10 t13_12) fun t14_14 =>
 some (t14_14, h_13)) h_13) fun t14_15 h_16 =>
 bnd (pick t8_1 (.bool true) t14_15) fun t15_17 =>
 cnd t15_17 (
 some ((.int .i64 0), h_16)) (
 bnd2 (callV env x2 [] h_16) fun t17_18 h_19 =>
 some (t17_18, h_19))
noncomputable def runs_Runs_when.fs (env : Env) (J : JT) (x0 x1 x2 : V) (h : H) : Ans :=
 runs_Runs_when.c0 env J x0 x1 x2 h
theorem runs_Runs_when.fe_eq (env : Env) (J : JT) (x0 x1 x2 : V) (h : H) : evF Tryz.prog env J 224 runs_Runs_when.an [x0, x1, x2] h = runs_Runs_when.fs env J x0 x1 x2 h := by kernel_rfl
theorem runs_Runs_when.eq {tb : Nat → Option Fa} (ht : tb 224 = some (.plain runs_Runs_when.an)) (x0 x1 x2 : V) (h : H) : Ei Tryz.prog tb 224 [x0, x1, x2] h = runs_Runs_when.fs (Ei Tryz.prog tb) (Ji Tryz.prog tb 224 runs_Runs_when.an) x0 x1 x2 h := (Ei_eq (an := runs_Runs_when.an) ht _ h).trans (runs_Runs_when.fe_eq _ _ x0 x1 x2 h)
noncomputable def runs_Runs_when.sf : Sf := ⟨fun env J vs h => match vs with | [x0, x1, x2] => runs_Runs_when.fs env J x0 x1 x2 h | _ => none, fun env J id vs h => none⟩
theorem runs_Runs_when.sfok {tb : Nat → Option Fa} (ht : tb 224 = some (.plain runs_Runs_when.an)) : SfOk Tryz.prog tb 224 runs_Runs_when.sf := SfOk.plain (an := runs_Runs_when.an) ht (fun env J vs h r he => by
  simp only [runs_Runs_when.sf] at he; split at he
  · rw [runs_Runs_when.fe_eq]; exact he
  · cases he) (fun env J id vs h r he => by simp only [runs_Runs_when.sf] at he; cases he)
/- 240 busbar/plan.cut -/
noncomputable def plan_cut.fs (env : Env) (J : JT) (x0 x1 : V) (h : H) : Ans :=
 bnd (mns [x0, x1]) fun t7_1 =>
 bnd (mxs [(.int .i64 0), t7_1]) fun t8_2 =>
 some (t8_2, h)
theorem plan_cut.fe_eq (env : Env) (J : JT) (x0 x1 : V) (h : H) : evF Tryz.prog env J 240 plan_cut.an [x0, x1] h = plan_cut.fs env J x0 x1 h := by kernel_rfl
theorem plan_cut.eq {tb : Nat → Option Fa} (ht : tb 240 = some (.plain plan_cut.an)) (x0 x1 : V) (h : H) : Ei Tryz.prog tb 240 [x0, x1] h = plan_cut.fs (Ei Tryz.prog tb) (Ji Tryz.prog tb 240 plan_cut.an) x0 x1 h := (Ei_eq (an := plan_cut.an) ht _ h).trans (plan_cut.fe_eq _ _ x0 x1 h)
noncomputable def plan_cut.sf : Sf := ⟨fun env J vs h => match vs with | [x0, x1] => plan_cut.fs env J x0 x1 h | _ => none, fun env J id vs h => none⟩
theorem plan_cut.sfok {tb : Nat → Option Fa} (ht : tb 240 = some (.plain plan_cut.an)) : SfOk Tryz.prog tb 240 plan_cut.sf := SfOk.plain (an := plan_cut.an) ht (fun env J vs h r he => by
  simp only [plan_cut.sf] at he; split at he
  · rw [plan_cut.fe_eq]; exact he
  · cases he) (fun env J id vs h r he => by simp only [plan_cut.sf] at he; cases he)
/- 241 (busbar/plan.Window).many -/
noncomputable def plan_Window_many.c0 (env : Env) (J : JT) (x1 : V) (h : H) : Ans :=
 bnd (fieldA (some (some 130, none)) x1 4) fun t3_3 =>
 bnd (ld none h t3_3) fun t4_4 =>
 bnd (lenV .slc h t4_4) fun t5_5 =>
 bnd2 (env 240 [t5_5, (.int .i64 4)] h) fun t6_6 h_7 =>
 bnd (mxs [(.int .i64 1), t6_6]) fun t7_8 =>
 some (t7_8, h_7)
noncomputable def plan_Window_many.fs (env : Env) (J : JT) (x0 : V) (h : H) : Ans :=
 bnd2 (box (some (some 130)) h x0) fun t1_1 h_2 =>
 plan_Window_many.c0 env J t1_1 h_2
theorem plan_Window_many.fe_eq (env : Env) (J : JT) (x0 : V) (h : H) : evF Tryz.prog env J 241 plan_Window_many.an [x0] h = plan_Window_many.fs env J x0 h := by kernel_rfl
theorem plan_Window_many.eq {tb : Nat → Option Fa} (ht : tb 241 = some (.plain plan_Window_many.an)) (x0 : V) (h : H) : Ei Tryz.prog tb 241 [x0] h = plan_Window_many.fs (Ei Tryz.prog tb) (Ji Tryz.prog tb 241 plan_Window_many.an) x0 h := (Ei_eq (an := plan_Window_many.an) ht _ h).trans (plan_Window_many.fe_eq _ _ x0 h)
noncomputable def plan_Window_many.sf : Sf := ⟨fun env J vs h => match vs with | [x0] => plan_Window_many.fs env J x0 h | _ => none, fun env J id vs h => none⟩
theorem plan_Window_many.sfok {tb : Nat → Option Fa} (ht : tb 241 = some (.plain plan_Window_many.an)) : SfOk Tryz.prog tb 241 plan_Window_many.sf := SfOk.plain (an := plan_Window_many.an) ht (fun env J vs h r he => by
  simp only [plan_Window_many.sf] at he; split at he
  · rw [plan_Window_many.fe_eq]; exact he
  · cases he) (fun env J id vs h r he => by simp only [plan_Window_many.sf] at he; cases he)
/- 243 busbar/walk.Windows$1 -/
noncomputable def walk_Windows_1.c0 (env : Env) (J : JT) (x0 x1 x2 : V) (h : H) : Ans :=
 bnd (ld none h x1) fun t5_3 =>
 bnd (fieldA (some (some 137, none)) x0 2) fun t6_4 =>
 bnd (ld none h t6_4) fun t7_5 =>
 bnd (ld none h x1) fun t8_6 =>
 bnd (nilChk t8_6) fun t9_7 =>
 bnd (fieldA (some (some 299, none)) t9_7 0) fun t10_8 =>
 bnd (ld none h t10_8) fun t11_9 =>
 bnd2 (env 244 [t7_5, t11_9] h) fun t12_10 h_11 =>
 bnd (ld none h_11 x1) fun t5_23 =>
 chkS t5_23 t5_3 (
 bnd (ext t12_10 0) fun t13_12 =>
 bnd (ext t12_10 1) fun t14_13 =>
 bnd (ext t12_10 2) fun t15_14 =>
 bnd (st (some 224) h_11 x2 t13_12) fun h_15 =>
 bnd (ld none h_15 x1) fun t5_22 =>
 chkS t5_22 t5_3 (
 bnd (nilChk t5_3) fun t16_16 =>
 bnd (fieldA (some (some 299, none)) t16_16 0) fun t17_17 =>
 bnd (st none h_15 t17_17 t14_13) fun h_18 =>
 bnd (ld (some 224) h_18 x2) fun t18_19 =>
 bnd (st (some 224) h_18 x2 t18_19) fun h_20 =>
 bnd (ld (some 224) h_20 x2) fun r_21 =>
 retV h_20 [r_21,t15_14]))
noncomputable def walk_Windows_1.fs (env : Env) (J : JT) (x0 x1 : V) (h : H) : Ans :=
 bnd2 (al (some (some 224)) (zeroV Tryz.prog 225) h) fun t2_1 h_2 =>
 walk_Windows_1.c0 env J x0 x1 t2_1 h_2
theorem walk_Windows_1.fe_eq (env : Env) (J : JT) (x0 x1 : V) (h : H) : evF Tryz.prog env J 243 walk_Windows_1.an [x0, x1] h = walk_Windows_1.fs env J x0 x1 h := by kernel_rfl
theorem walk_Windows_1.eq {tb : Nat → Option Fa} (ht : tb 243 = some (.plain walk_Windows_1.an)) (x0 x1 : V) (h : H) : Ei Tryz.prog tb 243 [x0, x1] h = walk_Windows_1.fs (Ei Tryz.prog tb) (Ji Tryz.prog tb 243 walk_Windows_1.an) x0 x1 h := (Ei_eq (an := walk_Windows_1.an) ht _ h).trans (walk_Windows_1.fe_eq _ _ x0 x1 h)
noncomputable def walk_Windows_1.sf : Sf := ⟨fun env J vs h => match vs with | [x0, x1] => walk_Windows_1.fs env J x0 x1 h | _ => none, fun env J id vs h => none⟩
theorem walk_Windows_1.sfok {tb : Nat → Option Fa} (ht : tb 243 = some (.plain walk_Windows_1.an)) : SfOk Tryz.prog tb 243 walk_Windows_1.sf := SfOk.plain (an := walk_Windows_1.an) ht (fun env J vs h r he => by
  simp only [walk_Windows_1.sf] at he; split at he
  · rw [walk_Windows_1.fe_eq]; exact he
  · cases he) (fun env J id vs h r he => by simp only [walk_Windows_1.sf] at he; cases he)
/- 244 busbar/cmd.Read -/
noncomputable def cmd_Read.c8 (env : Env) (J : JT) (x1 x4 x7 x8 x9 : V) (h : H) : Ans :=
 bnd2 (env 257 [x7] h) fun t44_42 h_43 =>
 cnd t44_42 (
 J 3 [x1, x4, x7, x8, (.int .i64 2)] h_43) (
 J 3 [x1, x4, x7, x8, x9] h_43)
noncomputable def cmd_Read.c7 (env : Env) (J : JT) (x1 x4 x7 x8 : V) (h : H) : Ans :=
 bnd2 (env 256 [x7] h) fun t42_39 h_40 =>
 bnd (lenV .slc h_40 t42_39) fun t43_41 =>
 cmd_Read.c8 env J x1 x4 x7 x8 t43_41 h_40
noncomputable def cmd_Read.c6 (env : Env) (J : JT) (x0 x1 x4 x7 : V) (h : H) : Ans :=
 bnd (bin .add x1 (.int .i64 1)) fun t40_37 =>
 bnd (slcV (.slc none) x0 (some t40_37) none none) fun t41_38 =>
 cmd_Read.c7 env J x1 x4 x7 t41_38 h
noncomputable def cmd_Read.c5 (env : Env) (J : JT) (x0 x1 x4 x7 x36 : V) (h : H) : Ans :=
 cnd x36 (
 bnd (build (zeroV Tryz.prog 225) []) fun t37_34 =>
 bnd (st (some 224) h x4 t37_34) fun h_35 =>
 bnd (ld (some 224) h_35 x4) fun r_36 =>
 retV h_35 [r_36,(.int .i64 0),(.int .i64 11)]) (
 cmd_Read.c6 env J x0 x1 x4 x7 h)
noncomputable def cmd_Read.c4 (env : Env) (J : JT) (x0 x1 x4 x7 : V) (h : H) : Ans :=
 bnd (fieldA (some (some 224, none)) x7 0) fun t34_31 =>
 bnd (ld none h t34_31) fun t35_32 =>
 bnd (bin .gtr t35_32 (.int .i64 8)) fun t36_33 =>
 cmd_Read.c5 env J x0 x1 x4 x7 t36_33 h
noncomputable def cmd_Read.c3 (env : Env) (J : JT) (x0 x1 x4 : V) (h : H) : Ans :=
 bnd (indexA (.slc none) x0 x1) fun t30_23 =>
 bnd (ld none h t30_23) fun t31_24 =>
 bnd2 (conv (.int .i64) h t31_24) fun t32_25 h_26 =>
 bnd (build (zeroV Tryz.prog 225) [(0, t32_25)]) fun t33_27 =>
 bnd2 (al (some (some 224)) (zeroV Tryz.prog 225) h_26) fun t7_28 h_29 =>
 bnd (st (some 224) h_29 t7_28 t33_27) fun h_30 =>
 cmd_Read.c4 env J x0 x1 x4 t7_28 h_30
noncomputable def cmd_Read.c2 (env : Env) (J : JT) (x0 x1 x4 x22 : V) (h : H) : Ans :=
 cnd x22 (
 bnd (build (zeroV Tryz.prog 225) []) fun t27_20 =>
 bnd (st (some 224) h x4 t27_20) fun h_21 =>
 bnd (ld (some 224) h_21 x4) fun r_22 =>
 retV h_21 [r_22,(.int .i64 0),(.int .i64 10)]) (
 cmd_Read.c3 env J x0 x1 x4 h)
noncomputable def cmd_Read.c1 (env : Env) (J : JT) (x0 x1 x4 x12 : V) (h : H) : Ans :=
 cnd x12 (
 bnd (build (zeroV Tryz.prog 225) []) fun t21_15 =>
 bnd (st (some 224) h x4 t21_15) fun h_16 =>
 bnd (ld (some 224) h_16 x4) fun r_17 =>
 retV h_16 [r_17,(.int .i64 0),(.int .i64 2)]) (
 bnd (lenV .slc h x0) fun t25_18 =>
 bnd (binE false .int x1 t25_18) fun t26_19 =>
 cmd_Read.c2 env J x0 x1 x4 t26_19 h)
noncomputable def cmd_Read.c0 (env : Env) (J : JT) (x0 x1 x4 : V) (h : H) : Ans :=
 bnd (bin .lss x1 (.int .i64 0)) fun t14_3 =>
 bnd2 (gd t14_3 false (some (x1, h)) h) fun t16_4 h_5 =>
 bnd2 (gd t14_3 false (some (x0, h_5)) h_5) fun t17_6 h_7 =>
 bnd2 (gd t14_3 false (bnd (lenV .slc h_7 t17_6) fun t18_8 =>
 some (t18_8, h_7)) h_7) fun t18_9 h_10 =>
 bnd2 (gd t14_3 false (bnd (bin .gtr t16_4 t18_9) fun t19_11 =>
 some (t19_11, h_10)) h_10) fun t19_12 h_13 =>
 bnd (pick t14_3 (.bool true) t19_12) fun t20_14 =>
 cmd_Read.c1 env J x0 x1 x4 t20_14 h_13
noncomputable def cmd_Read.fs (env : Env) (J : JT) (x0 x1 : V) (h : H) : Ans :=
 bnd2 (al (some (some 224)) (zeroV Tryz.prog 225) h) fun t4_1 h_2 =>
 cmd_Read.c0 env J x0 x1 t4_1 h_2
theorem cmd_Read.fe_eq (env : Env) (J : JT) (x0 x1 : V) (h : H) : evF Tryz.prog env J 244 cmd_Read.an [x0, x1] h = cmd_Read.fs env J x0 x1 h := by kernel_rfl
noncomputable def cmd_Read.c11 (env : Env) (J : JT) (x1 x4 x7 x8 x9 x50 x51 x52 : V) (h : H) : Ans :=
 J 0 [x1, x4, x7, x8, x9, x50, x51, x52] h
noncomputable def cmd_Read.c10 (env : Env) (J : JT) (x1 x4 x7 x8 x9 : V) (h : H) : Ans :=
 bnd2 (env 256 [x7] h) fun t50_49 h_50 =>
 bnd (lenV .slc h_50 t50_49) fun t51_51 =>
 cmd_Read.c11 env J x1 x4 x7 x8 x9 t50_49 t51_51 (.int .i64 0) h_50
noncomputable def cmd_Read.c9 (env : Env) (J : JT) (x1 x4 x7 x8 x9 x48 : V) (h : H) : Ans :=
 cnd x48 (
 bnd (build (zeroV Tryz.prog 225) []) fun t49_46 =>
 bnd (st (some 224) h x4 t49_46) fun h_47 =>
 bnd (ld (some 224) h_47 x4) fun r_48 =>
 retV h_47 [r_48,(.int .i64 0),(.int .i64 10)]) (
 cmd_Read.c10 env J x1 x4 x7 x8 x9 h)
noncomputable def cmd_Read.p3 (env : Env) (J : JT) (x1 x4 x7 x8 x9 : V) (h : H) : Ans :=
 bnd (lenV .slc h x8) fun t46_44 =>
 bnd (bin .lss t46_44 x9) fun t48_45 =>
 cmd_Read.c9 env J x1 x4 x7 x8 x9 t48_45 h
theorem cmd_Read.p3_eq (env : Env) (J : JT) (x1 x4 x7 x8 x9 : V) (h : H) : evP Tryz.prog env J 244 cmd_Read.an 3 [x1, x4, x7, x8, x9] h = cmd_Read.p3 env J x1 x4 x7 x8 x9 h := by kernel_rfl
noncomputable def cmd_Read.c14 (env : Env) (J : JT) (x1 x4 x7 x8 x9 x10 x11 x50 x51 x52 : V) (h : H) : Ans :=
 bnd (indexA (.slc none) x8 x10) fun t60_55 =>
 bnd (ld none h t60_55) fun t61_56 =>
 bnd2 (conv (.int .i64) h t61_56) fun t62_57 h_58 =>
 bnd (nilChk x11) fun t63_59 =>
 bnd (st none h_58 t63_59 t62_57) fun h_60 =>
 bnd (bin .add x52 (.int .i64 1)) fun t64_61 =>
 J 0 [x1, x4, x7, x8, x9, x50, x51, t64_61] h_60
noncomputable def cmd_Read.c13 (env : Env) (J : JT) (x1 x4 x7 x8 x9 x50 x51 x52 : V) (h : H) : Ans :=
 bnd (indexA (.slc none) x50 x52) fun t55_53 =>
 bnd (ld none h t55_53) fun t56_54 =>
 cmd_Read.c14 env J x1 x4 x7 x8 x9 x52 t56_54 x50 x51 x52 h
noncomputable def cmd_Read.c12 (env : Env) (J : JT) (x1 x4 x7 x8 x9 x50 x51 x52 x53 : V) (h : H) : Ans :=
 cnd x53 (
 cmd_Read.c13 env J x1 x4 x7 x8 x9 x50 x51 x52 h) (
 J 2 [x1, x4, x7, x8, x9] h)
noncomputable def cmd_Read.p0 (env : Env) (J : JT) (x1 x4 x7 x8 x9 x50 x51 x52 : V) (h : H) : Ans :=
 bnd (bin .lss x52 x51) fun t53_52 =>
 cmd_Read.c12 env J x1 x4 x7 x8 x9 x50 x51 x52 t53_52 h
theorem cmd_Read.p0_eq (env : Env) (J : JT) (x1 x4 x7 x8 x9 x50 x51 x52 : V) (h : H) : evP Tryz.prog env J 244 cmd_Read.an 0 [x1, x4, x7, x8, x9, x50, x51, x52] h = cmd_Read.p0 env J x1 x4 x7 x8 x9 x50 x51 x52 h := by kernel_rfl
noncomputable def cmd_Read.c15 (env : Env) (J : JT) (x1 x4 x7 x8 x9 x65 : V) (h : H) : Ans :=
 cnd x65 (
 bnd (indexA (.slc none) x8 (.int .i64 0)) fun t67_64 =>
 bnd (ld none h t67_64) fun t68_65 =>
 bnd2 (conv (.int .i64) h t68_65) fun t69_66 h_67 =>
 bnd (bin .shl t69_66 (.int .u64 8)) fun t70_68 =>
 bnd (indexA (.slc none) x8 (.int .i64 1)) fun t72_69 =>
 bnd (ld none h_67 t72_69) fun t73_70 =>
 bnd2 (conv (.int .i64) h_67 t73_70) fun t74_71 h_72 =>
 bnd (bin .or t70_68 t74_71) fun t75_73 =>
 bnd (fieldA (some (some 224, none)) x7 6) fun t76_74 =>
 bnd (st none h_72 t76_74 t75_73) fun h_75 =>
 J 1 [x1, x4, x7, x9] h_75) (
 J 1 [x1, x4, x7, x9] h)
noncomputable def cmd_Read.p2 (env : Env) (J : JT) (x1 x4 x7 x8 x9 : V) (h : H) : Ans :=
 bnd2 (env 257 [x7] h) fun t65_62 h_63 =>
 cmd_Read.c15 env J x1 x4 x7 x8 x9 t65_62 h_63
theorem cmd_Read.p2_eq (env : Env) (J : JT) (x1 x4 x7 x8 x9 : V) (h : H) : evP Tryz.prog env J 244 cmd_Read.an 2 [x1, x4, x7, x8, x9] h = cmd_Read.p2 env J x1 x4 x7 x8 x9 h := by kernel_rfl
noncomputable def cmd_Read.c17 (env : Env) (J : JT) (x1 x4 x7 x9 : V) (h : H) : Ans :=
 bnd (ld (some 224) h x7) fun t81_83 =>
 bnd (bin .add x1 (.int .i64 1)) fun t83_84 =>
 bnd (bin .add t83_84 x9) fun t85_85 =>
 bnd (st (some 224) h x4 t81_83) fun h_86 =>
 bnd (ld (some 224) h_86 x4) fun r_87 =>
 retV h_86 [r_87,t85_85,(.int .i64 0)]
noncomputable def cmd_Read.c16 (env : Env) (J : JT) (x1 x4 x7 x9 x79 : V) (h : H) : Ans :=
 cnd x79 (
 bnd (build (zeroV Tryz.prog 225) []) fun t80_80 =>
 bnd (st (some 224) h x4 t80_80) fun h_81 =>
 bnd (ld (some 224) h_81 x4) fun r_82 =>
 retV h_81 [r_82,(.int .i64 0),(.int .i64 11)]) (
 cmd_Read.c17 env J x1 x4 x7 x9 h)
noncomputable def cmd_Read.p1 (env : Env) (J : JT) (x1 x4 x7 x9 : V) (h : H) : Ans :=
 bnd (ld (some 224) h x7) fun t77_76 =>
 bnd2 (env 255 [t77_76] h) fun t78_77 h_78 =>
 bnd (un .not t78_77) fun t79_79 =>
 cmd_Read.c16 env J x1 x4 x7 x9 t79_79 h_78
theorem cmd_Read.p1_eq (env : Env) (J : JT) (x1 x4 x7 x9 : V) (h : H) : evP Tryz.prog env J 244 cmd_Read.an 1 [x1, x4, x7, x9] h = cmd_Read.p1 env J x1 x4 x7 x9 h := by kernel_rfl
theorem cmd_Read.eq {tb : Nat → Option Fa} (ht : tb 244 = some (.plain cmd_Read.an)) (x0 x1 : V) (h : H) : Ei Tryz.prog tb 244 [x0, x1] h = cmd_Read.fs (Ei Tryz.prog tb) (Ji Tryz.prog tb 244 cmd_Read.an) x0 x1 h := (Ei_eq (an := cmd_Read.an) ht _ h).trans (cmd_Read.fe_eq _ _ x0 x1 h)
theorem cmd_Read.J3_eq {tb : Nat → Option Fa} (x1 x4 x7 x8 x9 : V) (h : H) : Ji Tryz.prog tb 244 cmd_Read.an 3 [x1, x4, x7, x8, x9] h = cmd_Read.p3 (Ei Tryz.prog tb) (Ji Tryz.prog tb 244 cmd_Read.an) x1 x4 x7 x8 x9 h := (Ji_eq _ _ h).trans (cmd_Read.p3_eq _ _ x1 x4 x7 x8 x9 h)
theorem cmd_Read.J0_eq {tb : Nat → Option Fa} (x1 x4 x7 x8 x9 x50 x51 x52 : V) (h : H) : Ji Tryz.prog tb 244 cmd_Read.an 0 [x1, x4, x7, x8, x9, x50, x51, x52] h = cmd_Read.p0 (Ei Tryz.prog tb) (Ji Tryz.prog tb 244 cmd_Read.an) x1 x4 x7 x8 x9 x50 x51 x52 h := (Ji_eq _ _ h).trans (cmd_Read.p0_eq _ _ x1 x4 x7 x8 x9 x50 x51 x52 h)
theorem cmd_Read.J2_eq {tb : Nat → Option Fa} (x1 x4 x7 x8 x9 : V) (h : H) : Ji Tryz.prog tb 244 cmd_Read.an 2 [x1, x4, x7, x8, x9] h = cmd_Read.p2 (Ei Tryz.prog tb) (Ji Tryz.prog tb 244 cmd_Read.an) x1 x4 x7 x8 x9 h := (Ji_eq _ _ h).trans (cmd_Read.p2_eq _ _ x1 x4 x7 x8 x9 h)
theorem cmd_Read.J1_eq {tb : Nat → Option Fa} (x1 x4 x7 x9 : V) (h : H) : Ji Tryz.prog tb 244 cmd_Read.an 1 [x1, x4, x7, x9] h = cmd_Read.p1 (Ei Tryz.prog tb) (Ji Tryz.prog tb 244 cmd_Read.an) x1 x4 x7 x9 h := (Ji_eq _ _ h).trans (cmd_Read.p1_eq _ _ x1 x4 x7 x9 h)
noncomputable def cmd_Read.sf : Sf := ⟨fun env J vs h => match vs with | [x0, x1] => cmd_Read.fs env J x0 x1 h | _ => none, fun env J id vs h => bif Nat.beq id 3 then (match vs with | [x1, x4, x7, x8, x9] => cmd_Read.p3 env J x1 x4 x7 x8 x9 h | _ => none) else (bif Nat.beq id 0 then (match vs with | [x1, x4, x7, x8, x9, x50, x51, x52] => cmd_Read.p0 env J x1 x4 x7 x8 x9 x50 x51 x52 h | _ => none) else (bif Nat.beq id 2 then (match vs with | [x1, x4, x7, x8, x9] => cmd_Read.p2 env J x1 x4 x7 x8 x9 h | _ => none) else (bif Nat.beq id 1 then (match vs with | [x1, x4, x7, x9] => cmd_Read.p1 env J x1 x4 x7 x9 h | _ => none) else (none))))⟩
theorem cmd_Read.sfok {tb : Nat → Option Fa} (ht : tb 244 = some (.plain cmd_Read.an)) : SfOk Tryz.prog tb 244 cmd_Read.sf := SfOk.plain (an := cmd_Read.an) ht (fun env J vs h r he => by
  simp only [cmd_Read.sf] at he; split at he
  · rw [cmd_Read.fe_eq]; exact he
  · cases he) (fun env J id vs h r he => by
  simp only [cmd_Read.sf] at he
  cases hb : Nat.beq id 3
  case true =>
    rw [hb] at he; rw [Nat.eq_of_beq_eq_true hb]; simp only [cond_true] at he; split at he
    · rw [cmd_Read.p3_eq]; exact he
    · cases he
  rw [hb] at he; simp only [cond_false] at he; clear hb
  cases hb : Nat.beq id 0
  case true =>
    rw [hb] at he; rw [Nat.eq_of_beq_eq_true hb]; simp only [cond_true] at he; split at he
    · rw [cmd_Read.p0_eq]; exact he
    · cases he
  rw [hb] at he; simp only [cond_false] at he; clear hb
  cases hb : Nat.beq id 2
  case true =>
    rw [hb] at he; rw [Nat.eq_of_beq_eq_true hb]; simp only [cond_true] at he; split at he
    · rw [cmd_Read.p2_eq]; exact he
    · cases he
  rw [hb] at he; simp only [cond_false] at he; clear hb
  cases hb : Nat.beq id 1
  case true =>
    rw [hb] at he; rw [Nat.eq_of_beq_eq_true hb]; simp only [cond_true] at he; split at he
    · rw [cmd_Read.p1_eq]; exact he
    · cases he
  rw [hb] at he; simp only [cond_false] at he; clear hb
  cases he)
/- 245 (*busbar/walk.walker).turn -/
noncomputable def walk_walker_turn.c4 (env : Env) (J : JT) (x0 x3 : V) (h : H) : Ans :=
 bnd (fieldA (some (some 224, none)) x3 6) fun t30_24 =>
 bnd (ld none h t30_24) fun t31_25 =>
 bnd (nilChk x0) fun t32_26 =>
 bnd (fieldA (some (some 299, none)) t32_26 0) fun t33_27 =>
 bnd (st none h t33_27 t31_25) fun h_28 =>
 some ((.int .i64 0), h_28)
noncomputable def walk_walker_turn.c3 (env : Env) (J : JT) (x0 x3 : V) (h : H) : Ans :=
 bnd (nilChk x0) fun t18_11 =>
 bnd (fieldA (some (some 299, none)) t18_11 1) fun t19_12 =>
 bnd (ld none h t19_12) fun t20_13 =>
 bnd (nilChk x0) fun t22_14 =>
 bnd (fieldA (some (some 299, none)) t22_14 0) fun t23_15 =>
 bnd (ld none h t23_15) fun t24_16 =>
 bnd2 (bslc (some (3, none, 8)) (zeroV Tryz.prog 3) 1 [(0, t24_16)] h) fun t25_17 h_18 =>
 bnd2 (app (some (3, none, 8)) h_18 t20_13 t25_17) fun t26_19 h_20 =>
 bnd (nilChk x0) fun t27_21 =>
 bnd (fieldA (some (some 299, none)) t27_21 1) fun t28_22 =>
 bnd (st none h_20 t28_22 t26_19) fun h_23 =>
 walk_walker_turn.c4 env J x0 x3 h_23
noncomputable def walk_walker_turn.c8 (env : Env) (J : JT) (x0 x5 : V) (h : H) : Ans :=
 bnd (nilChk x0) fun t54_42 =>
 bnd (fieldA (some (some 299, none)) t54_42 1) fun t55_43 =>
 bnd (ld none h t55_43) fun t56_44 =>
 bnd (indexA (.slc none) t56_44 x5) fun t58_45 =>
 bnd (ld none h t58_45) fun t59_46 =>
 bnd (nilChk x0) fun t61_47 =>
 bnd (fieldA (some (some 299, none)) t61_47 1) fun t62_48 =>
 bnd (ld none h t62_48) fun t63_49 =>
 bnd (slcV (.slc none) t63_49 none (some x5) none) fun t65_50 =>
 bnd (nilChk x0) fun t66_51 =>
 bnd (fieldA (some (some 299, none)) t66_51 0) fun t67_52 =>
 bnd (st none h t67_52 t59_46) fun h_53 =>
 bnd (nilChk x0) fun t68_54 =>
 bnd (fieldA (some (some 299, none)) t68_54 1) fun t69_55 =>
 bnd (st none h_53 t69_55 t65_50) fun h_56 =>
 some ((.int .i64 0), h_56)
noncomputable def walk_walker_turn.c7 (env : Env) (J : JT) (x0 x5 : V) (h : H) : Ans :=
 bnd (bin .lss x5 (.int .i64 0)) fun t50_41 =>
 cnd t50_41 (
 some ((.int .i64 11), h)) (
 walk_walker_turn.c8 env J x0 x5 h)
noncomputable def walk_walker_turn.c6 (env : Env) (J : JT) (x0 x41 : V) (h : H) : Ans :=
 cnd x41 (
 bnd (nilChk x0) fun t44_36 =>
 bnd (fieldA (some (some 299, none)) t44_36 1) fun t45_37 =>
 bnd (ld none h t45_37) fun t46_38 =>
 bnd (lenV .slc h t46_38) fun t47_39 =>
 bnd (bin .sub t47_39 (.int .i64 1)) fun t48_40 =>
 walk_walker_turn.c7 env J x0 t48_40 h) (
 some ((.int .i64 0), h))
noncomputable def walk_walker_turn.c5 (env : Env) (J : JT) (x0 x3 x7 x34 : V) (h : H) : Ans :=
 cnd x34 (
 bnd (fieldA (some (some 224, none)) x3 6) fun t37_30 =>
 bnd (ld none h t37_30) fun t38_31 =>
 bnd (nilChk x0) fun t39_32 =>
 bnd (fieldA (some (some 299, none)) t39_32 0) fun t40_33 =>
 bnd (st none h t40_33 t38_31) fun h_34 =>
 some ((.int .i64 0), h_34)) (
 bnd (binE false .int x7 (.int .i64 7)) fun t42_35 =>
 walk_walker_turn.c6 env J x0 t42_35 h)
noncomputable def walk_walker_turn.c2 (env : Env) (J : JT) (x0 x3 x7 x8 : V) (h : H) : Ans :=
 cnd x8 (
 bnd (nilChk x0) fun t11_6 =>
 bnd (fieldA (some (some 299, none)) t11_6 1) fun t12_7 =>
 bnd (ld none h t12_7) fun t13_8 =>
 bnd (lenV .slc h t13_8) fun t14_9 =>
 bnd (bin .geq t14_9 (.int .i64 4)) fun t15_10 =>
 cnd t15_10 (
 some ((.int .i64 14), h)) (
 walk_walker_turn.c3 env J x0 x3 h)) (
 bnd (binE false .int x7 (.int .i64 8)) fun t35_29 =>
 walk_walker_turn.c5 env J x0 x3 x7 t35_29 h)
noncomputable def walk_walker_turn.c1 (env : Env) (J : JT) (x0 x3 x7 : V) (h : H) : Ans :=
 bnd (binE false .int x7 (.int .i64 6)) fun t9_5 =>
 walk_walker_turn.c2 env J x0 x3 x7 t9_5 h
noncomputable def walk_walker_turn.c0 (env : Env) (J : JT) (x0 x3 : V) (h : H) : Ans :=
 bnd (fieldA (some (some 224, none)) x3 0) fun t6_3 =>
 bnd (ld none h t6_3) fun t7_4 =>
 walk_walker_turn.c1 env J x0 x3 t7_4 h
noncomputable def walk_walker_turn.fs (env : Env) (J : JT) (x0 x1 : V) (h : H) : Ans :=
 bnd2 (box (some (some 224)) h x1) fun t3_1 h_2 =>
 walk_walker_turn.c0 env J x0 t3_1 h_2
theorem walk_walker_turn.fe_eq (env : Env) (J : JT) (x0 x1 : V) (h : H) : evF Tryz.prog env J 245 walk_walker_turn.an [x0, x1] h = walk_walker_turn.fs env J x0 x1 h := by kernel_rfl
theorem walk_walker_turn.eq {tb : Nat → Option Fa} (ht : tb 245 = some (.plain walk_walker_turn.an)) (x0 x1 : V) (h : H) : Ei Tryz.prog tb 245 [x0, x1] h = walk_walker_turn.fs (Ei Tryz.prog tb) (Ji Tryz.prog tb 245 walk_walker_turn.an) x0 x1 h := (Ei_eq (an := walk_walker_turn.an) ht _ h).trans (walk_walker_turn.fe_eq _ _ x0 x1 h)
noncomputable def walk_walker_turn.sf : Sf := ⟨fun env J vs h => match vs with | [x0, x1] => walk_walker_turn.fs env J x0 x1 h | _ => none, fun env J id vs h => none⟩
theorem walk_walker_turn.sfok {tb : Nat → Option Fa} (ht : tb 245 = some (.plain walk_walker_turn.an)) : SfOk Tryz.prog tb 245 walk_walker_turn.sf := SfOk.plain (an := walk_walker_turn.an) ht (fun env J vs h r he => by
  simp only [walk_walker_turn.sf] at he; split at he
  · rw [walk_walker_turn.fe_eq]; exact he
  · cases he) (fun env J id vs h r he => by simp only [walk_walker_turn.sf] at he; cases he)
end Go.Proofs.YtbgdidfegkmafaaGreat
