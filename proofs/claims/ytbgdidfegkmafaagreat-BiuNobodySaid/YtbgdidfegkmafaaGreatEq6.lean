import Derived.Test.YtbgdidfegkmafaaGreatTb
import Derived.Test.YtbgdidfegkmafaaGreatAmD
namespace Go.Proofs.YtbgdidfegkmafaaGreat
open Go Go.AM Go.Proofs
set_option linter.unusedVariables false
set_option maxRecDepth 100000
set_option maxHeartbeats 4000000
/- 155 (busbar/image.Image).Right -/
noncomputable def image_Image_Right.c0 (env : Env) (J : JT) (x1 : V) (h : H) : Ans :=
 bnd (fieldA (some (some 137, none)) x1 0) fun t3_3 =>
 bnd (ld none h t3_3) fun t4_4 =>
 bnd2 (env 217 [t4_4, (.int .i64 16)] h) fun t5_5 h_6 =>
 bnd2 (gd t5_5 true (bnd (fieldA (some (some 137, none)) x1 2) fun t7_7 =>
 some (t7_7, h_6)) h_6) fun t7_8 h_9 =>
 bnd2 (gd t5_5 true (bnd (ld none h_9 t7_8) fun t8_10 =>
 some (t8_10, h_9)) h_9) fun t8_11 h_12 =>
 bnd2 (gd t5_5 true (bnd (lenV .slc h_12 t8_11) fun t9_13 =>
 some (t9_13, h_12)) h_12) fun t9_14 h_15 =>
 bnd2 (gd t5_5 true (bnd (bin .leq t9_14 (.int .i64 1024)) fun t10_16 =>
 some (t10_16, h_15)) h_15) fun t10_17 h_18 =>
 bnd (pick t5_5 t10_17 (.bool false)) fun t11_19 =>
 bnd2 (gd t11_19 true (bnd (fieldA (some (some 137, (some 68))) x1 1) fun t13_20 =>
 some (t13_20, h_18)) h_18) fun t13_21 h_22 =>
 bnd2 (gd t11_19 true (bnd (indexA (.arr (some 68) 2 none) t13_21 (.int .i64 0)) fun t14_23 =>
 some (t14_23, h_22)) h_22) fun t14_24 h_25 =>
 bnd2 (gd t11_19 true (bnd (ld none h_25 t14_24) fun t15_26 =>
 some (t15_26, h_25)) h_25) fun t15_27 h_28 =>
 bnd2 (gd t11_19 true (bnd (fieldA (some (some 137, none)) x1 2) fun t16_29 =>
 some (t16_29, h_28)) h_28) fun t16_30 h_31 =>
 bnd2 (gd t11_19 true (bnd (ld none h_31 t16_30) fun t17_32 =>
 some (t17_32, h_31)) h_31) fun t17_33 h_34 =>
 bnd2 (gd t11_19 true (bnd (lenV .slc h_34 t17_33) fun t18_35 =>
 some (t18_35, h_34)) h_34) fun t18_36 h_37 =>
 bnd2 (gd t11_19 true (bnd2 (env 217 [t15_27, t18_36] h_37) fun t19_38 h_39 =>
 some (t19_38, h_39)) h_37) fun t19_40 h_41 =>
 bnd (pick t11_19 t19_40 (.bool false)) fun t20_42 =>
 bnd2 (gd t20_42 true (bnd (fieldA (some (some 137, (some 68))) x1 1) fun t22_43 =>
 some (t22_43, h_41)) h_41) fun t22_44 h_45 =>
 bnd2 (gd t20_42 true (bnd (indexA (.arr (some 68) 2 none) t22_44 (.int .i64 1)) fun t23_46 =>
 some (t23_46, h_45)) h_45) fun t23_47 h_48 =>
 bnd2 (gd t20_42 true (bnd (ld none h_48 t23_47) fun t24_49 =>
 some (t24_49, h_48)) h_48) fun t24_50 h_51 =>
 bnd2 (gd t20_42 true (bnd (fieldA (some (some 137, none)) x1 2) fun t25_52 =>
 some (t25_52, h_51)) h_51) fun t25_53 h_54 =>
 bnd2 (gd t20_42 true (bnd (ld none h_54 t25_53) fun t26_55 =>
 some (t26_55, h_54)) h_54) fun t26_56 h_57 =>
 bnd2 (gd t20_42 true (bnd (lenV .slc h_57 t26_56) fun t27_58 =>
 some (t27_58, h_57)) h_57) fun t27_59 h_60 =>
 bnd2 (gd t20_42 true (bnd2 (env 217 [t24_50, t27_59] h_60) fun t28_61 h_62 =>
 some (t28_61, h_62)) h_60) fun t28_63 h_64 =>
 bnd (pick t20_42 t28_63 (.bool false)) fun t29_65 =>
 some (t29_65, h_64)
noncomputable def image_Image_Right.fs (env : Env) (J : JT) (x0 : V) (h : H) : Ans :=
 bnd2 (box (some (some 137)) h x0) fun t1_1 h_2 =>
 image_Image_Right.c0 env J t1_1 h_2
theorem image_Image_Right.fe_eq (env : Env) (J : JT) (x0 : V) (h : H) : evF Tryz.prog env J 155 image_Image_Right.an [x0] h = image_Image_Right.fs env J x0 h := by kernel_rfl
theorem image_Image_Right.eq {tb : Nat → Option Fa} (ht : tb 155 = some (.plain image_Image_Right.an)) (x0 : V) (h : H) : Ei Tryz.prog tb 155 [x0] h = image_Image_Right.fs (Ei Tryz.prog tb) (Ji Tryz.prog tb 155 image_Image_Right.an) x0 h := (Ei_eq (an := image_Image_Right.an) ht _ h).trans (image_Image_Right.fe_eq _ _ x0 h)
noncomputable def image_Image_Right.sf : Sf := ⟨fun env J vs h => match vs with | [x0] => image_Image_Right.fs env J x0 h | _ => none, fun env J id vs h => none⟩
theorem image_Image_Right.sfok {tb : Nat → Option Fa} (ht : tb 155 = some (.plain image_Image_Right.an)) : SfOk Tryz.prog tb 155 image_Image_Right.sf := SfOk.plain (an := image_Image_Right.an) ht (fun env J vs h r he => by
  simp only [image_Image_Right.sf] at he; split at he
  · rw [image_Image_Right.fe_eq]; exact he
  · cases he) (fun env J id vs h r he => by simp only [image_Image_Right.sf] at he; cases he)
/- 156 busbar/image.two -/
noncomputable def image_two.c0 (env : Env) (J : JT) (x0 x1 : V) (h : H) : Ans :=
 bnd (bin .shr x1 (.int .u64 8)) fun t7_1 =>
 bnd2 (conv (.int .u8) h t7_1) fun t8_2 h_3 =>
 bnd2 (conv (.int .u8) h_3 x1) fun t10_4 h_5 =>
 bnd2 (bslc (some (5, none, 1)) (zeroV Tryz.prog 5) 2 [(0, t8_2), (1, t10_4)] h_5) fun t11_6 h_7 =>
 bnd2 (app (some (5, none, 1)) h_7 x0 t11_6) fun t12_8 h_9 =>
 some (t12_8, h_9)
noncomputable def image_two.fs (env : Env) (J : JT) (x0 x1 : V) (h : H) : Ans :=
 image_two.c0 env J x0 x1 h
theorem image_two.fe_eq (env : Env) (J : JT) (x0 x1 : V) (h : H) : evF Tryz.prog env J 156 image_two.an [x0, x1] h = image_two.fs env J x0 x1 h := by kernel_rfl
theorem image_two.eq {tb : Nat → Option Fa} (ht : tb 156 = some (.plain image_two.an)) (x0 x1 : V) (h : H) : Ei Tryz.prog tb 156 [x0, x1] h = image_two.fs (Ei Tryz.prog tb) (Ji Tryz.prog tb 156 image_two.an) x0 x1 h := (Ei_eq (an := image_two.an) ht _ h).trans (image_two.fe_eq _ _ x0 x1 h)
noncomputable def image_two.sf : Sf := ⟨fun env J vs h => match vs with | [x0, x1] => image_two.fs env J x0 x1 h | _ => none, fun env J id vs h => none⟩
theorem image_two.sfok {tb : Nat → Option Fa} (ht : tb 156 = some (.plain image_two.an)) : SfOk Tryz.prog tb 156 image_two.sf := SfOk.plain (an := image_two.an) ht (fun env J vs h r he => by
  simp only [image_two.sf] at he; split at he
  · rw [image_two.fe_eq]; exact he
  · cases he) (fun env J id vs h r he => by simp only [image_two.sf] at he; cases he)
/- 157 busbar/image.Sum -/
noncomputable def image_Sum.c2 (env : Env) (J : JT) (x3 x9 x10 x11 : V) (h : H) : Ans :=
 J 0 [x3, x9, x10, x11] h
noncomputable def image_Sum.c1 (env : Env) (J : JT) (x0 x3 : V) (h : H) : Ans :=
 bnd (lenV .slc h x0) fun t10_1 =>
 image_Sum.c2 env J x3 x0 t10_1 (.int .i64 0) h
noncomputable def image_Sum.c0 (env : Env) (J : JT) (x0 : V) (h : H) : Ans :=
 image_Sum.c1 env J x0 (.int .u16 65535) h
noncomputable def image_Sum.fs (env : Env) (J : JT) (x0 : V) (h : H) : Ans :=
 image_Sum.c0 env J x0 h
theorem image_Sum.fe_eq (env : Env) (J : JT) (x0 : V) (h : H) : evF Tryz.prog env J 157 image_Sum.an [x0] h = image_Sum.fs env J x0 h := by kernel_rfl
noncomputable def image_Sum.c6 (env : Env) (J : JT) (x3 x9 x10 x11 x15 x16 x17 : V) (h : H) : Ans :=
 J 1 [x3, x9, x10, x11, x15, x16, x17] h
noncomputable def image_Sum.c5 (env : Env) (J : JT) (x3 x5 x9 x10 x11 : V) (h : H) : Ans :=
 bnd (lenV .slc h x5) fun t16_5 =>
 image_Sum.c6 env J x3 x9 x10 x11 x5 t16_5 (.int .i64 0) h
noncomputable def image_Sum.c4 (env : Env) (J : JT) (x3 x9 x10 x11 : V) (h : H) : Ans :=
 bnd (indexA (.slc none) x9 x11) fun t13_3 =>
 bnd (ld none h t13_3) fun t14_4 =>
 image_Sum.c5 env J x3 t14_4 x9 x10 x11 h
noncomputable def image_Sum.c3 (env : Env) (J : JT) (x3 x9 x10 x11 x12 : V) (h : H) : Ans :=
 cnd x12 (
 image_Sum.c4 env J x3 x9 x10 x11 h) (
 some (x3, h))
noncomputable def image_Sum.p0 (env : Env) (J : JT) (x3 x9 x10 x11 : V) (h : H) : Ans :=
 bnd (bin .lss x11 x10) fun t12_2 =>
 image_Sum.c3 env J x3 x9 x10 x11 t12_2 h
theorem image_Sum.p0_eq (env : Env) (J : JT) (x3 x9 x10 x11 : V) (h : H) : evP Tryz.prog env J 157 image_Sum.an 0 [x3, x9, x10, x11] h = image_Sum.p0 env J x3 x9 x10 x11 h := by kernel_rfl
noncomputable def image_Sum.c11 (env : Env) (J : JT) (x3 x9 x10 x11 x15 x16 x17 x26 : V) (h : H) : Ans :=
 J 2 [x3, x9, x10, x11, x15, x16, x17, x26] h
noncomputable def image_Sum.c10 (env : Env) (J : JT) (x3 x9 x10 x11 x15 x16 x17 : V) (h : H) : Ans :=
 image_Sum.c11 env J x3 x9 x10 x11 x15 x16 x17 (.int .i64 0) h
noncomputable def image_Sum.c9 (env : Env) (J : JT) (x3 x7 x9 x10 x11 x15 x16 x17 : V) (h : H) : Ans :=
 bnd2 (conv (.int .u16) h x7) fun t23_9 h_10 =>
 bnd (bin .shl t23_9 (.int .u64 8)) fun t24_11 =>
 bnd (bin .xor x3 t24_11) fun t25_12 =>
 image_Sum.c10 env J t25_12 x9 x10 x11 x15 x16 x17 h_10
noncomputable def image_Sum.c8 (env : Env) (J : JT) (x3 x9 x10 x11 x15 x16 x17 : V) (h : H) : Ans :=
 bnd (indexA (.slc none) x15 x17) fun t19_7 =>
 bnd (ld none h t19_7) fun t20_8 =>
 image_Sum.c9 env J x3 t20_8 x9 x10 x11 x15 x16 x17 h
noncomputable def image_Sum.c7 (env : Env) (J : JT) (x3 x9 x10 x11 x15 x16 x17 x18 : V) (h : H) : Ans :=
 cnd x18 (
 image_Sum.c8 env J x3 x9 x10 x11 x15 x16 x17 h) (
 bnd (bin .add x11 (.int .i64 1)) fun t38_13 =>
 J 0 [x3, x9, x10, t38_13] h)
noncomputable def image_Sum.p1 (env : Env) (J : JT) (x3 x9 x10 x11 x15 x16 x17 : V) (h : H) : Ans :=
 bnd (bin .lss x17 x16) fun t18_6 =>
 image_Sum.c7 env J x3 x9 x10 x11 x15 x16 x17 t18_6 h
theorem image_Sum.p1_eq (env : Env) (J : JT) (x3 x9 x10 x11 x15 x16 x17 : V) (h : H) : evP Tryz.prog env J 157 image_Sum.an 1 [x3, x9, x10, x11, x15, x16, x17] h = image_Sum.p1 env J x3 x9 x10 x11 x15 x16 x17 h := by kernel_rfl
noncomputable def image_Sum.c14 (env : Env) (J : JT) (x3 x8 x9 x10 x11 x15 x16 x17 x26 : V) (h : H) : Ans :=
 bnd (bin .shl x3 (.int .u64 1)) fun t32_17 =>
 cnd x8 (
 bnd (bin .xor t32_17 (.int .u16 4129)) fun t35_18 =>
 bnd (bin .add x26 (.int .i64 1)) fun t36_19 =>
 J 2 [t35_18, x9, x10, x11, x15, x16, x17, t36_19] h) (
 bnd (bin .add x26 (.int .i64 1)) fun t36_20 =>
 J 2 [t32_17, x9, x10, x11, x15, x16, x17, t36_20] h)
noncomputable def image_Sum.c13 (env : Env) (J : JT) (x3 x9 x10 x11 x15 x16 x17 x26 : V) (h : H) : Ans :=
 bnd (bin .and x3 (.int .u16 32768)) fun t29_15 =>
 bnd (binE true .int t29_15 (.int .u16 0)) fun t30_16 =>
 image_Sum.c14 env J x3 t30_16 x9 x10 x11 x15 x16 x17 x26 h
noncomputable def image_Sum.c12 (env : Env) (J : JT) (x3 x9 x10 x11 x15 x16 x17 x26 x27 : V) (h : H) : Ans :=
 cnd x27 (
 image_Sum.c13 env J x3 x9 x10 x11 x15 x16 x17 x26 h) (
 bnd (bin .add x17 (.int .i64 1)) fun t37_21 =>
 J 1 [x3, x9, x10, x11, x15, x16, t37_21] h)
noncomputable def image_Sum.p2 (env : Env) (J : JT) (x3 x9 x10 x11 x15 x16 x17 x26 : V) (h : H) : Ans :=
 bnd (bin .lss x26 (.int .i64 8)) fun t27_14 =>
 image_Sum.c12 env J x3 x9 x10 x11 x15 x16 x17 x26 t27_14 h
theorem image_Sum.p2_eq (env : Env) (J : JT) (x3 x9 x10 x11 x15 x16 x17 x26 : V) (h : H) : evP Tryz.prog env J 157 image_Sum.an 2 [x3, x9, x10, x11, x15, x16, x17, x26] h = image_Sum.p2 env J x3 x9 x10 x11 x15 x16 x17 x26 h := by kernel_rfl
theorem image_Sum.eq {tb : Nat → Option Fa} (ht : tb 157 = some (.plain image_Sum.an)) (x0 : V) (h : H) : Ei Tryz.prog tb 157 [x0] h = image_Sum.fs (Ei Tryz.prog tb) (Ji Tryz.prog tb 157 image_Sum.an) x0 h := (Ei_eq (an := image_Sum.an) ht _ h).trans (image_Sum.fe_eq _ _ x0 h)
theorem image_Sum.J0_eq {tb : Nat → Option Fa} (x3 x9 x10 x11 : V) (h : H) : Ji Tryz.prog tb 157 image_Sum.an 0 [x3, x9, x10, x11] h = image_Sum.p0 (Ei Tryz.prog tb) (Ji Tryz.prog tb 157 image_Sum.an) x3 x9 x10 x11 h := (Ji_eq _ _ h).trans (image_Sum.p0_eq _ _ x3 x9 x10 x11 h)
theorem image_Sum.J1_eq {tb : Nat → Option Fa} (x3 x9 x10 x11 x15 x16 x17 : V) (h : H) : Ji Tryz.prog tb 157 image_Sum.an 1 [x3, x9, x10, x11, x15, x16, x17] h = image_Sum.p1 (Ei Tryz.prog tb) (Ji Tryz.prog tb 157 image_Sum.an) x3 x9 x10 x11 x15 x16 x17 h := (Ji_eq _ _ h).trans (image_Sum.p1_eq _ _ x3 x9 x10 x11 x15 x16 x17 h)
theorem image_Sum.J2_eq {tb : Nat → Option Fa} (x3 x9 x10 x11 x15 x16 x17 x26 : V) (h : H) : Ji Tryz.prog tb 157 image_Sum.an 2 [x3, x9, x10, x11, x15, x16, x17, x26] h = image_Sum.p2 (Ei Tryz.prog tb) (Ji Tryz.prog tb 157 image_Sum.an) x3 x9 x10 x11 x15 x16 x17 x26 h := (Ji_eq _ _ h).trans (image_Sum.p2_eq _ _ x3 x9 x10 x11 x15 x16 x17 x26 h)
noncomputable def image_Sum.sf : Sf := ⟨fun env J vs h => match vs with | [x0] => image_Sum.fs env J x0 h | _ => none, fun env J id vs h => bif Nat.beq id 0 then (match vs with | [x3, x9, x10, x11] => image_Sum.p0 env J x3 x9 x10 x11 h | _ => none) else (bif Nat.beq id 1 then (match vs with | [x3, x9, x10, x11, x15, x16, x17] => image_Sum.p1 env J x3 x9 x10 x11 x15 x16 x17 h | _ => none) else (bif Nat.beq id 2 then (match vs with | [x3, x9, x10, x11, x15, x16, x17, x26] => image_Sum.p2 env J x3 x9 x10 x11 x15 x16 x17 x26 h | _ => none) else (none)))⟩
theorem image_Sum.sfok {tb : Nat → Option Fa} (ht : tb 157 = some (.plain image_Sum.an)) : SfOk Tryz.prog tb 157 image_Sum.sf := SfOk.plain (an := image_Sum.an) ht (fun env J vs h r he => by
  simp only [image_Sum.sf] at he; split at he
  · rw [image_Sum.fe_eq]; exact he
  · cases he) (fun env J id vs h r he => by
  simp only [image_Sum.sf] at he
  cases hb : Nat.beq id 0
  case true =>
    rw [hb] at he; rw [Nat.eq_of_beq_eq_true hb]; simp only [cond_true] at he; split at he
    · rw [image_Sum.p0_eq]; exact he
    · cases he
  rw [hb] at he; simp only [cond_false] at he; clear hb
  cases hb : Nat.beq id 1
  case true =>
    rw [hb] at he; rw [Nat.eq_of_beq_eq_true hb]; simp only [cond_true] at he; split at he
    · rw [image_Sum.p1_eq]; exact he
    · cases he
  rw [hb] at he; simp only [cond_false] at he; clear hb
  cases hb : Nat.beq id 2
  case true =>
    rw [hb] at he; rw [Nat.eq_of_beq_eq_true hb]; simp only [cond_true] at he; split at he
    · rw [image_Sum.p2_eq]; exact he
    · cases he
  rw [hb] at he; simp only [cond_false] at he; clear hb
  cases he)
/- 158 (*busbar/delay.Delay).Clear -/
noncomputable def delay_Delay_Clear.c0 (env : Env) (J : JT) (x0 x4 : V) (h : H) : Ans :=
 cnd x4 (
 bnd (nilChk x0) fun t7_4 =>
 bnd (fieldA (some (some 216, none)) t7_4 1) fun t8_5 =>
 bnd (ld none h t8_5) fun t9_6 =>
 bnd (build (zeroV Tryz.prog 217) [(0, (.bool true)), (1, t9_6)]) fun t10_7 =>
 bnd (nilChk x0) fun t11_8 =>
 bnd (st (some 216) h t11_8 t10_7) fun h_9 =>
 some (.tup [], h_9)) (
 some (.tup [], h))
noncomputable def delay_Delay_Clear.fs (env : Env) (J : JT) (x0 : V) (h : H) : Ans :=
 bnd2 (env 163 [x0] h) fun t3_1 h_2 =>
 bnd (un .not t3_1) fun t4_3 =>
 delay_Delay_Clear.c0 env J x0 t4_3 h_2
theorem delay_Delay_Clear.fe_eq (env : Env) (J : JT) (x0 : V) (h : H) : evF Tryz.prog env J 158 delay_Delay_Clear.an [x0] h = delay_Delay_Clear.fs env J x0 h := by kernel_rfl
theorem delay_Delay_Clear.eq {tb : Nat → Option Fa} (ht : tb 158 = some (.plain delay_Delay_Clear.an)) (x0 : V) (h : H) : Ei Tryz.prog tb 158 [x0] h = delay_Delay_Clear.fs (Ei Tryz.prog tb) (Ji Tryz.prog tb 158 delay_Delay_Clear.an) x0 h := (Ei_eq (an := delay_Delay_Clear.an) ht _ h).trans (delay_Delay_Clear.fe_eq _ _ x0 h)
noncomputable def delay_Delay_Clear.sf : Sf := ⟨fun env J vs h => match vs with | [x0] => delay_Delay_Clear.fs env J x0 h | _ => none, fun env J id vs h => none⟩
theorem delay_Delay_Clear.sfok {tb : Nat → Option Fa} (ht : tb 158 = some (.plain delay_Delay_Clear.an)) : SfOk Tryz.prog tb 158 delay_Delay_Clear.sf := SfOk.plain (an := delay_Delay_Clear.an) ht (fun env J vs h r he => by
  simp only [delay_Delay_Clear.sf] at he; split at he
  · rw [delay_Delay_Clear.fe_eq]; exact he
  · cases he) (fun env J id vs h r he => by simp only [delay_Delay_Clear.sf] at he; cases he)
/- 159 busbar/clock.New -/
noncomputable def clock_New.c1 (env : Env) (J : JT) (x0 : V) (h : H) : Ans :=
 bnd (build (zeroV Tryz.prog 239) [(0, (.int .i64 0)), (1, (.int .i64 (-1)))]) fun t7_4 =>
 bnd (build (zeroV Tryz.prog 241) [(0, t7_4), (1, x0)]) fun t9_5 =>
 bnd2 (box (some (some 240)) h t9_5) fun t10_6 h_7 =>
 retV h_7 [t10_6,(.int .i64 0)]
noncomputable def clock_New.c0 (env : Env) (J : JT) (x0 : V) (h : H) : Ans :=
 bnd2 (env 218 [x0] h) fun t5_1 h_2 =>
 bnd (un .not t5_1) fun t6_3 =>
 cnd t6_3 (
 retV h_2 [.nilp,(.int .i64 2)]) (
 clock_New.c1 env J x0 h_2)
noncomputable def clock_New.fs (env : Env) (J : JT) (x0 : V) (h : H) : Ans :=
 clock_New.c0 env J x0 h
theorem clock_New.fe_eq (env : Env) (J : JT) (x0 : V) (h : H) : evF Tryz.prog env J 159 clock_New.an [x0] h = clock_New.fs env J x0 h := by kernel_rfl
theorem clock_New.eq {tb : Nat → Option Fa} (ht : tb 159 = some (.plain clock_New.an)) (x0 : V) (h : H) : Ei Tryz.prog tb 159 [x0] h = clock_New.fs (Ei Tryz.prog tb) (Ji Tryz.prog tb 159 clock_New.an) x0 h := (Ei_eq (an := clock_New.an) ht _ h).trans (clock_New.fe_eq _ _ x0 h)
noncomputable def clock_New.sf : Sf := ⟨fun env J vs h => match vs with | [x0] => clock_New.fs env J x0 h | _ => none, fun env J id vs h => none⟩
theorem clock_New.sfok {tb : Nat → Option Fa} (ht : tb 159 = some (.plain clock_New.an)) : SfOk Tryz.prog tb 159 clock_New.sf := SfOk.plain (an := clock_New.an) ht (fun env J vs h r he => by
  simp only [clock_New.sf] at he; split at he
  · rw [clock_New.fe_eq]; exact he
  · cases he) (fun env J id vs h r he => by simp only [clock_New.sf] at he; cases he)
/- 160 (busbar/compile.Program).Long -/
noncomputable def compile_Program_Long.c3 (env : Env) (J : JT) (x5 x17 x18 x19 : V) (h : H) : Ans :=
 J 0 [x5, x17, x18, x19] h
noncomputable def compile_Program_Long.c2 (env : Env) (J : JT) (x1 x2 x5 x13 : V) (h : H) : Ans :=
 cnd x13 (
 bnd (fieldA (some (some 38, (some 37))) x2 1) fun t15_10 =>
 bnd (indexA (.arr (some 37) 2 none) t15_10 x1) fun t16_11 =>
 bnd (ld none h t16_11) fun t17_12 =>
 bnd (lenV .slc h t17_12) fun t18_13 =>
 compile_Program_Long.c3 env J x5 t17_12 t18_13 (.int .i64 0) h) (
 some (x5, h))
noncomputable def compile_Program_Long.c1 (env : Env) (J : JT) (x1 x2 x5 : V) (h : H) : Ans :=
 bnd (bin .geq x1 (.int .i64 0)) fun t9_3 =>
 bnd2 (gd t9_3 true (some (x1, h)) h) fun t11_4 h_5 =>
 bnd2 (gd t9_3 true (bnd (bin .lss t11_4 (.int .i64 2)) fun t12_6 =>
 some (t12_6, h_5)) h_5) fun t12_7 h_8 =>
 bnd (pick t9_3 t12_7 (.bool false)) fun t13_9 =>
 compile_Program_Long.c2 env J x1 x2 x5 t13_9 h_8
noncomputable def compile_Program_Long.c0 (env : Env) (J : JT) (x1 x2 : V) (h : H) : Ans :=
 compile_Program_Long.c1 env J x1 x2 (.int .i64 0) h
noncomputable def compile_Program_Long.fs (env : Env) (J : JT) (x0 x1 : V) (h : H) : Ans :=
 bnd2 (box (some (some 38)) h x0) fun t2_1 h_2 =>
 compile_Program_Long.c0 env J x1 t2_1 h_2
theorem compile_Program_Long.fe_eq (env : Env) (J : JT) (x0 x1 : V) (h : H) : evF Tryz.prog env J 160 compile_Program_Long.an [x0, x1] h = compile_Program_Long.fs env J x0 x1 h := by kernel_rfl
noncomputable def compile_Program_Long.c6 (env : Env) (J : JT) (x5 x7 x17 x18 x19 : V) (h : H) : Ans :=
 bnd (fieldA (some (some 58, none)) x7 2) fun t24_20 =>
 bnd (ld none h t24_20) fun t25_21 =>
 bnd (bin .add x5 t25_21) fun t26_22 =>
 bnd (bin .add x19 (.int .i64 1)) fun t27_23 =>
 J 0 [t26_22, x17, x18, t27_23] h
noncomputable def compile_Program_Long.c5 (env : Env) (J : JT) (x5 x17 x18 x19 : V) (h : H) : Ans :=
 bnd (indexA (.slc (some 58)) x17 x19) fun t21_15 =>
 bnd (ld (some 58) h t21_15) fun t22_16 =>
 bnd2 (al (some (some 58)) (zeroV Tryz.prog 59) h) fun t7_17 h_18 =>
 bnd (st (some 58) h_18 t7_17 t22_16) fun h_19 =>
 compile_Program_Long.c6 env J x5 t7_17 x17 x18 x19 h_19
noncomputable def compile_Program_Long.c4 (env : Env) (J : JT) (x5 x17 x18 x19 x20 : V) (h : H) : Ans :=
 cnd x20 (
 compile_Program_Long.c5 env J x5 x17 x18 x19 h) (
 some (x5, h))
noncomputable def compile_Program_Long.p0 (env : Env) (J : JT) (x5 x17 x18 x19 : V) (h : H) : Ans :=
 bnd (bin .lss x19 x18) fun t20_14 =>
 compile_Program_Long.c4 env J x5 x17 x18 x19 t20_14 h
theorem compile_Program_Long.p0_eq (env : Env) (J : JT) (x5 x17 x18 x19 : V) (h : H) : evP Tryz.prog env J 160 compile_Program_Long.an 0 [x5, x17, x18, x19] h = compile_Program_Long.p0 env J x5 x17 x18 x19 h := by kernel_rfl
theorem compile_Program_Long.eq {tb : Nat → Option Fa} (ht : tb 160 = some (.plain compile_Program_Long.an)) (x0 x1 : V) (h : H) : Ei Tryz.prog tb 160 [x0, x1] h = compile_Program_Long.fs (Ei Tryz.prog tb) (Ji Tryz.prog tb 160 compile_Program_Long.an) x0 x1 h := (Ei_eq (an := compile_Program_Long.an) ht _ h).trans (compile_Program_Long.fe_eq _ _ x0 x1 h)
theorem compile_Program_Long.J0_eq {tb : Nat → Option Fa} (x5 x17 x18 x19 : V) (h : H) : Ji Tryz.prog tb 160 compile_Program_Long.an 0 [x5, x17, x18, x19] h = compile_Program_Long.p0 (Ei Tryz.prog tb) (Ji Tryz.prog tb 160 compile_Program_Long.an) x5 x17 x18 x19 h := (Ji_eq _ _ h).trans (compile_Program_Long.p0_eq _ _ x5 x17 x18 x19 h)
noncomputable def compile_Program_Long.sf : Sf := ⟨fun env J vs h => match vs with | [x0, x1] => compile_Program_Long.fs env J x0 x1 h | _ => none, fun env J id vs h => bif Nat.beq id 0 then (match vs with | [x5, x17, x18, x19] => compile_Program_Long.p0 env J x5 x17 x18 x19 h | _ => none) else (none)⟩
theorem compile_Program_Long.sfok {tb : Nat → Option Fa} (ht : tb 160 = some (.plain compile_Program_Long.an)) : SfOk Tryz.prog tb 160 compile_Program_Long.sf := SfOk.plain (an := compile_Program_Long.an) ht (fun env J vs h r he => by
  simp only [compile_Program_Long.sf] at he; split at he
  · rw [compile_Program_Long.fe_eq]; exact he
  · cases he) (fun env J id vs h r he => by
  simp only [compile_Program_Long.sf] at he
  cases hb : Nat.beq id 0
  case true =>
    rw [hb] at he; rw [Nat.eq_of_beq_eq_true hb]; simp only [cond_true] at he; split at he
    · rw [compile_Program_Long.p0_eq]; exact he
    · cases he
  rw [hb] at he; simp only [cond_false] at he; clear hb
  cases he)
/- 162 (*busbar/biu.Biu).begin -/
noncomputable def biu_Biu_begin.c4 (env : Env) (J : JT) (x0 x4 x45 x46 : V) (h : H) : Ans :=
 J 0 [x0, x4, x45, x46] h
noncomputable def biu_Biu_begin.c3 (env : Env) (J : JT) (x0 x4 x43 : V) (h : H) : Ans :=
 cnd x43 (
 bnd (fieldA (some (some 58, none)) x4 5) fun t44_43 =>
 bnd (ld none h t44_43) fun t45_44 =>
 biu_Biu_begin.c4 env J x0 x4 t45_44 (.int .i64 0) h) (
 some (.tup [], h))
noncomputable def biu_Biu_begin.c2 (env : Env) (J : JT) (x0 x4 : V) (h : H) : Ans :=
 bnd (fieldA (some (some 58, none)) x4 0) fun t37_33 =>
 bnd (ld none h t37_33) fun t38_34 =>
 bnd (binE false .int t38_34 (.int .i64 0)) fun t39_35 =>
 bnd2 (gd t39_35 true (bnd (fieldA (some (some 58, none)) x4 7) fun t41_36 =>
 some (t41_36, h)) h) fun t41_37 h_38 =>
 bnd2 (gd t39_35 true (bnd (ld none h_38 t41_37) fun t42_39 =>
 some (t42_39, h_38)) h_38) fun t42_40 h_41 =>
 bnd (pick t39_35 t42_40 (.bool false)) fun t43_42 =>
 biu_Biu_begin.c3 env J x0 x4 t43_42 h_41
noncomputable def biu_Biu_begin.c1 (env : Env) (J : JT) (x0 x4 : V) (h : H) : Ans :=
 bnd (ld (some 58) h x4) fun t26_20 =>
 bnd (nilChk x0) fun t30_21 =>
 bnd (fieldA (some (some 84, none)) t30_21 6) fun t31_22 =>
 bnd (ld none h t31_22) fun t32_23 =>
 bnd (binE false .int t32_23 (.int .i64 3)) fun t33_24 =>
 bnd2 (env 219 [t26_20] h) fun t27_25 h_26 =>
 bnd (ld none h_26 t31_22) fun t32_46 =>
 chkS t32_46 t32_23 (
 bnd2 (env 220 [] h_26) fun t28_27 h_28 =>
 bnd (ld none h_28 t31_22) fun t32_45 =>
 chkS t32_45 t32_23 (
 bnd (build (zeroV Tryz.prog 81) [(1, t27_25), (3, t28_27), (4, t33_24)]) fun t34_29 =>
 bnd (nilChk x0) fun t35_30 =>
 bnd (fieldA (some (some 84, (some 80))) t35_30 10) fun t36_31 =>
 bnd (st (some 80) h_28 t36_31 t34_29) fun h_32 =>
 biu_Biu_begin.c2 env J x0 x4 h_32))
noncomputable def biu_Biu_begin.c0 (env : Env) (J : JT) (x0 x1 : V) (h : H) : Ans :=
 bnd (nilChk x0) fun t14_7 =>
 bnd (fieldA (some (some 84, none)) t14_7 7) fun t15_8 =>
 bnd (ld none h t15_8) fun t16_9 =>
 bnd (nilChk x0) fun t17_10 =>
 bnd (fieldA (some (some 84, (some 38))) t17_10 2) fun t18_11 =>
 bnd (fieldA (some (some 38, (some 37))) t18_11 1) fun t19_12 =>
 bnd (indexA (.arr (some 37) 2 none) t19_12 t16_9) fun t20_13 =>
 bnd (ld none h t20_13) fun t21_14 =>
 bnd (indexA (.slc (some 58)) t21_14 x1) fun t23_15 =>
 bnd (ld (some 58) h t23_15) fun t24_16 =>
 bnd2 (al (some (some 58)) (zeroV Tryz.prog 59) h) fun t4_17 h_18 =>
 bnd (st (some 58) h_18 t4_17 t24_16) fun h_19 =>
 biu_Biu_begin.c1 env J x0 t4_17 h_19
noncomputable def biu_Biu_begin.fs (env : Env) (J : JT) (x0 x1 : V) (h : H) : Ans :=
 bnd (nilChk x0) fun t8_1 =>
 bnd (fieldA (some (some 84, none)) t8_1 8) fun t9_2 =>
 bnd (st none h t9_2 x1) fun h_3 =>
 bnd (nilChk x0) fun t10_4 =>
 bnd (fieldA (some (some 84, none)) t10_4 9) fun t11_5 =>
 bnd (st none h_3 t11_5 (.bool true)) fun h_6 =>
 biu_Biu_begin.c0 env J x0 x1 h_6
theorem biu_Biu_begin.fe_eq (env : Env) (J : JT) (x0 x1 : V) (h : H) : evF Tryz.prog env J 162 biu_Biu_begin.an [x0, x1] h = biu_Biu_begin.fs env J x0 x1 h := by kernel_rfl
noncomputable def biu_Biu_begin.c6 (env : Env) (J : JT) (x0 x4 x45 x46 : V) (h : H) : Ans :=
 bnd (nilChk x0) fun t50_48 =>
 bnd (fieldA (some (some 84, (some 80))) t50_48 10) fun t51_49 =>
 bnd (fieldA (some (some 80, none)) t51_49 2) fun t52_50 =>
 bnd (ld none h t52_50) fun t53_51 =>
 bnd (fieldA (some (some 58, none)) x4 3) fun t54_52 =>
 bnd (ld none h t54_52) fun t55_53 =>
 bnd2 (env 221 [t55_53] h) fun t56_54 h_55 =>
 bnd (ld none h_55 t52_50) fun t53_65 =>
 chkS t53_65 t53_51 (
 bnd2 (bslc (some (152, none, 8)) (zeroV Tryz.prog 152) 1 [(0, t56_54)] h_55) fun t57_56 h_57 =>
 bnd2 (app (some (152, none, 8)) h_57 t53_51 t57_56) fun t58_58 h_59 =>
 bnd (nilChk x0) fun t59_60 =>
 bnd (fieldA (some (some 84, (some 80))) t59_60 10) fun t60_61 =>
 bnd (fieldA (some (some 80, none)) t60_61 2) fun t61_62 =>
 bnd (st none h_59 t61_62 t58_58) fun h_63 =>
 bnd (bin .add x46 (.int .i64 1)) fun t62_64 =>
 J 0 [x0, x4, x45, t62_64] h_63)
noncomputable def biu_Biu_begin.c5 (env : Env) (J : JT) (x0 x4 x45 x46 x47 : V) (h : H) : Ans :=
 cnd x47 (
 biu_Biu_begin.c6 env J x0 x4 x45 x46 h) (
 some (.tup [], h))
noncomputable def biu_Biu_begin.p0 (env : Env) (J : JT) (x0 x4 x45 x46 : V) (h : H) : Ans :=
 bnd (bin .lss x46 x45) fun t47_47 =>
 biu_Biu_begin.c5 env J x0 x4 x45 x46 t47_47 h
theorem biu_Biu_begin.p0_eq (env : Env) (J : JT) (x0 x4 x45 x46 : V) (h : H) : evP Tryz.prog env J 162 biu_Biu_begin.an 0 [x0, x4, x45, x46] h = biu_Biu_begin.p0 env J x0 x4 x45 x46 h := by kernel_rfl
theorem biu_Biu_begin.eq {tb : Nat → Option Fa} (ht : tb 162 = some (.plain biu_Biu_begin.an)) (x0 x1 : V) (h : H) : Ei Tryz.prog tb 162 [x0, x1] h = biu_Biu_begin.fs (Ei Tryz.prog tb) (Ji Tryz.prog tb 162 biu_Biu_begin.an) x0 x1 h := (Ei_eq (an := biu_Biu_begin.an) ht _ h).trans (biu_Biu_begin.fe_eq _ _ x0 x1 h)
theorem biu_Biu_begin.J0_eq {tb : Nat → Option Fa} (x0 x4 x45 x46 : V) (h : H) : Ji Tryz.prog tb 162 biu_Biu_begin.an 0 [x0, x4, x45, x46] h = biu_Biu_begin.p0 (Ei Tryz.prog tb) (Ji Tryz.prog tb 162 biu_Biu_begin.an) x0 x4 x45 x46 h := (Ji_eq _ _ h).trans (biu_Biu_begin.p0_eq _ _ x0 x4 x45 x46 h)
noncomputable def biu_Biu_begin.sf : Sf := ⟨fun env J vs h => match vs with | [x0, x1] => biu_Biu_begin.fs env J x0 x1 h | _ => none, fun env J id vs h => bif Nat.beq id 0 then (match vs with | [x0, x4, x45, x46] => biu_Biu_begin.p0 env J x0 x4 x45 x46 h | _ => none) else (none)⟩
theorem biu_Biu_begin.sfok {tb : Nat → Option Fa} (ht : tb 162 = some (.plain biu_Biu_begin.an)) : SfOk Tryz.prog tb 162 biu_Biu_begin.sf := SfOk.plain (an := biu_Biu_begin.an) ht (fun env J vs h r he => by
  simp only [biu_Biu_begin.sf] at he; split at he
  · rw [biu_Biu_begin.fe_eq]; exact he
  · cases he) (fun env J id vs h r he => by
  simp only [biu_Biu_begin.sf] at he
  cases hb : Nat.beq id 0
  case true =>
    rw [hb] at he; rw [Nat.eq_of_beq_eq_true hb]; simp only [cond_true] at he; split at he
    · rw [biu_Biu_begin.p0_eq]; exact he
    · cases he
  rw [hb] at he; simp only [cond_false] at he; clear hb
  cases he)
/- 163 (*busbar/delay.Delay).none -/
noncomputable def delay_Delay_none.c0 (env : Env) (J : JT) (x0 : V) (h : H) : Ans :=
 bnd (binE false .ptr x0 .nilp) fun t4_1 =>
 bnd2 (gd t4_1 false (some (x0, h)) h) fun t6_2 h_3 =>
 bnd2 (gd t4_1 false (bnd (nilChk t6_2) fun t7_4 =>
 some (t7_4, h_3)) h_3) fun t7_5 h_6 =>
 bnd2 (gd t4_1 false (bnd (fieldA (some (some 216, none)) t7_5 0) fun t8_7 =>
 some (t8_7, h_6)) h_6) fun t8_8 h_9 =>
 bnd2 (gd t4_1 false (bnd (ld none h_9 t8_8) fun t9_10 =>
 some (t9_10, h_9)) h_9) fun t9_11 h_12 =>
 bnd2 (gd t4_1 false (bnd (un .not t9_11) fun t10_13 =>
 some (t10_13, h_12)) h_12) fun t10_14 h_15 =>
 bnd (pick t4_1 (.bool true) t10_14) fun t11_16 =>
 some (t11_16, h_15)
noncomputable def delay_Delay_none.fs (env : Env) (J : JT) (x0 : V) (h : H) : Ans :=
 delay_Delay_none.c0 env J x0 h
theorem delay_Delay_none.fe_eq (env : Env) (J : JT) (x0 : V) (h : H) : evF Tryz.prog env J 163 delay_Delay_none.an [x0] h = delay_Delay_none.fs env J x0 h := by kernel_rfl
theorem delay_Delay_none.eq {tb : Nat → Option Fa} (ht : tb 163 = some (.plain delay_Delay_none.an)) (x0 : V) (h : H) : Ei Tryz.prog tb 163 [x0] h = delay_Delay_none.fs (Ei Tryz.prog tb) (Ji Tryz.prog tb 163 delay_Delay_none.an) x0 h := (Ei_eq (an := delay_Delay_none.an) ht _ h).trans (delay_Delay_none.fe_eq _ _ x0 h)
noncomputable def delay_Delay_none.sf : Sf := ⟨fun env J vs h => match vs with | [x0] => delay_Delay_none.fs env J x0 h | _ => none, fun env J id vs h => none⟩
theorem delay_Delay_none.sfok {tb : Nat → Option Fa} (ht : tb 163 = some (.plain delay_Delay_none.an)) : SfOk Tryz.prog tb 163 delay_Delay_none.sf := SfOk.plain (an := delay_Delay_none.an) ht (fun env J vs h r he => by
  simp only [delay_Delay_none.sf] at he; split at he
  · rw [delay_Delay_none.fe_eq]; exact he
  · cases he) (fun env J id vs h r he => by simp only [delay_Delay_none.sf] at he; cases he)
/- 164 (*busbar/runs.Runs).none -/
noncomputable def runs_Runs_none.c0 (env : Env) (J : JT) (x0 : V) (h : H) : Ans :=
 bnd (binE false .ptr x0 .nilp) fun t4_1 =>
 bnd2 (gd t4_1 false (some (x0, h)) h) fun t6_2 h_3 =>
 bnd2 (gd t4_1 false (bnd (nilChk t6_2) fun t7_4 =>
 some (t7_4, h_3)) h_3) fun t7_5 h_6 =>
 bnd2 (gd t4_1 false (bnd (fieldA (some (some 219, none)) t7_5 0) fun t8_7 =>
 some (t8_7, h_6)) h_6) fun t8_8 h_9 =>
 bnd2 (gd t4_1 false (bnd (ld none h_9 t8_8) fun t9_10 =>
 some (t9_10, h_9)) h_9) fun t9_11 h_12 =>
 bnd2 (gd t4_1 false (bnd (un .not t9_11) fun t10_13 =>
 some (t10_13, h_12)) h_12) fun t10_14 h_15 =>
 bnd (pick t4_1 (.bool true) t10_14) fun t11_16 =>
 some (t11_16, h_15)
noncomputable def runs_Runs_none.fs (env : Env) (J : JT) (x0 : V) (h : H) : Ans :=
 runs_Runs_none.c0 env J x0 h
theorem runs_Runs_none.fe_eq (env : Env) (J : JT) (x0 : V) (h : H) : evF Tryz.prog env J 164 runs_Runs_none.an [x0] h = runs_Runs_none.fs env J x0 h := by kernel_rfl
theorem runs_Runs_none.eq {tb : Nat → Option Fa} (ht : tb 164 = some (.plain runs_Runs_none.an)) (x0 : V) (h : H) : Ei Tryz.prog tb 164 [x0] h = runs_Runs_none.fs (Ei Tryz.prog tb) (Ji Tryz.prog tb 164 runs_Runs_none.an) x0 h := (Ei_eq (an := runs_Runs_none.an) ht _ h).trans (runs_Runs_none.fe_eq _ _ x0 h)
noncomputable def runs_Runs_none.sf : Sf := ⟨fun env J vs h => match vs with | [x0] => runs_Runs_none.fs env J x0 h | _ => none, fun env J id vs h => none⟩
theorem runs_Runs_none.sfok {tb : Nat → Option Fa} (ht : tb 164 = some (.plain runs_Runs_none.an)) : SfOk Tryz.prog tb 164 runs_Runs_none.sf := SfOk.plain (an := runs_Runs_none.an) ht (fun env J vs h r he => by
  simp only [runs_Runs_none.sf] at he; split at he
  · rw [runs_Runs_none.fe_eq]; exact he
  · cases he) (fun env J id vs h r he => by simp only [runs_Runs_none.sf] at he; cases he)
/- 165 (*busbar/runs.Runs).of -/
noncomputable def runs_Runs_of.c1 (env : Env) (J : JT) (x3 : V) (h : H) : Ans :=
 bnd (slcV (.arr (some 218) 4 none) x3 none none none) fun t8_7 =>
 bnd2 (env 222 [t8_7] h) fun t9_8 h_9 =>
 bnd (indexA (.arr (some 218) 4 none) x3 (.int .i64 1)) fun t10_10 =>
 bnd (ld none h_9 t10_10) fun t11_11 =>
 some (t11_11, h_9)
noncomputable def runs_Runs_of.c0 (env : Env) (J : JT) (x0 : V) (h : H) : Ans :=
 bnd (nilChk x0) fun t5_1 =>
 bnd (fieldA (some (some 219, (some 218))) t5_1 1) fun t6_2 =>
 bnd (ld (some 218) h t6_2) fun t7_3 =>
 bnd2 (al (some (some 218)) (zeroV Tryz.prog 218) h) fun t3_4 h_5 =>
 bnd (st (some 218) h_5 t3_4 t7_3) fun h_6 =>
 runs_Runs_of.c1 env J t3_4 h_6
noncomputable def runs_Runs_of.fs (env : Env) (J : JT) (x0 : V) (h : H) : Ans :=
 runs_Runs_of.c0 env J x0 h
theorem runs_Runs_of.fe_eq (env : Env) (J : JT) (x0 : V) (h : H) : evF Tryz.prog env J 165 runs_Runs_of.an [x0] h = runs_Runs_of.fs env J x0 h := by kernel_rfl
theorem runs_Runs_of.eq {tb : Nat → Option Fa} (ht : tb 165 = some (.plain runs_Runs_of.an)) (x0 : V) (h : H) : Ei Tryz.prog tb 165 [x0] h = runs_Runs_of.fs (Ei Tryz.prog tb) (Ji Tryz.prog tb 165 runs_Runs_of.an) x0 h := (Ei_eq (an := runs_Runs_of.an) ht _ h).trans (runs_Runs_of.fe_eq _ _ x0 h)
noncomputable def runs_Runs_of.sf : Sf := ⟨fun env J vs h => match vs with | [x0] => runs_Runs_of.fs env J x0 h | _ => none, fun env J id vs h => none⟩
theorem runs_Runs_of.sfok {tb : Nat → Option Fa} (ht : tb 165 = some (.plain runs_Runs_of.an)) : SfOk Tryz.prog tb 165 runs_Runs_of.sf := SfOk.plain (an := runs_Runs_of.an) ht (fun env J vs h r he => by
  simp only [runs_Runs_of.sf] at he; split at he
  · rw [runs_Runs_of.fe_eq]; exact he
  · cases he) (fun env J id vs h r he => by simp only [runs_Runs_of.sf] at he; cases he)
/- 166 (busbar/wires.Lines).High -/
noncomputable def wires_Lines_High.c0 (env : Env) (J : JT) (x0 x1 : V) (h : H) : Ans :=
 bnd2 (env 223 [x1] h) fun t6_1 h_2 =>
 bnd2 (gd t6_1 true (some (x0, h_2)) h_2) fun t8_3 h_4 =>
 bnd2 (gd t6_1 true (some (x1, h_4)) h_4) fun t9_5 h_6 =>
 bnd2 (gd t6_1 true (bnd (bin .shr t8_3 t9_5) fun t10_7 =>
 some (t10_7, h_6)) h_6) fun t10_8 h_9 =>
 bnd2 (gd t6_1 true (bnd (bin .and t10_8 (.int .u8 1)) fun t11_10 =>
 some (t11_10, h_9)) h_9) fun t11_11 h_12 =>
 bnd2 (gd t6_1 true (bnd (binE false .int t11_11 (.int .u8 1)) fun t12_13 =>
 some (t12_13, h_12)) h_12) fun t12_14 h_15 =>
 bnd (pick t6_1 t12_14 (.bool false)) fun t13_16 =>
 some (t13_16, h_15)
noncomputable def wires_Lines_High.fs (env : Env) (J : JT) (x0 x1 : V) (h : H) : Ans :=
 wires_Lines_High.c0 env J x0 x1 h
theorem wires_Lines_High.fe_eq (env : Env) (J : JT) (x0 x1 : V) (h : H) : evF Tryz.prog env J 166 wires_Lines_High.an [x0, x1] h = wires_Lines_High.fs env J x0 x1 h := by kernel_rfl
theorem wires_Lines_High.eq {tb : Nat → Option Fa} (ht : tb 166 = some (.plain wires_Lines_High.an)) (x0 x1 : V) (h : H) : Ei Tryz.prog tb 166 [x0, x1] h = wires_Lines_High.fs (Ei Tryz.prog tb) (Ji Tryz.prog tb 166 wires_Lines_High.an) x0 x1 h := (Ei_eq (an := wires_Lines_High.an) ht _ h).trans (wires_Lines_High.fe_eq _ _ x0 x1 h)
noncomputable def wires_Lines_High.sf : Sf := ⟨fun env J vs h => match vs with | [x0, x1] => wires_Lines_High.fs env J x0 x1 h | _ => none, fun env J id vs h => none⟩
theorem wires_Lines_High.sfok {tb : Nat → Option Fa} (ht : tb 166 = some (.plain wires_Lines_High.an)) : SfOk Tryz.prog tb 166 wires_Lines_High.sf := SfOk.plain (an := wires_Lines_High.an) ht (fun env J vs h r he => by
  simp only [wires_Lines_High.sf] at he; split at he
  · rw [wires_Lines_High.fe_eq]; exact he
  · cases he) (fun env J id vs h r he => by simp only [wires_Lines_High.sf] at he; cases he)
/- 167 (*busbar/clock.Clock).Frame -/
noncomputable def clock_Clock_Frame.c1 (env : Env) (J : JT) (x0 : V) (h : H) : Ans :=
 bnd (nilChk x0) fun t6_3 =>
 bnd (fieldA (some (some 240, none)) t6_3 2) fun t7_4 =>
 bnd (ld none h t7_4) fun t8_5 =>
 some (t8_5, h)
noncomputable def clock_Clock_Frame.c0 (env : Env) (J : JT) (x0 : V) (h : H) : Ans :=
 bnd2 (env 182 [x0] h) fun t4_1 h_2 =>
 cnd t4_1 (
 some ((.int .i64 0), h_2)) (
 clock_Clock_Frame.c1 env J x0 h_2)
noncomputable def clock_Clock_Frame.fs (env : Env) (J : JT) (x0 : V) (h : H) : Ans :=
 clock_Clock_Frame.c0 env J x0 h
theorem clock_Clock_Frame.fe_eq (env : Env) (J : JT) (x0 : V) (h : H) : evF Tryz.prog env J 167 clock_Clock_Frame.an [x0] h = clock_Clock_Frame.fs env J x0 h := by kernel_rfl
theorem clock_Clock_Frame.eq {tb : Nat → Option Fa} (ht : tb 167 = some (.plain clock_Clock_Frame.an)) (x0 : V) (h : H) : Ei Tryz.prog tb 167 [x0] h = clock_Clock_Frame.fs (Ei Tryz.prog tb) (Ji Tryz.prog tb 167 clock_Clock_Frame.an) x0 h := (Ei_eq (an := clock_Clock_Frame.an) ht _ h).trans (clock_Clock_Frame.fe_eq _ _ x0 h)
noncomputable def clock_Clock_Frame.sf : Sf := ⟨fun env J vs h => match vs with | [x0] => clock_Clock_Frame.fs env J x0 h | _ => none, fun env J id vs h => none⟩
theorem clock_Clock_Frame.sfok {tb : Nat → Option Fa} (ht : tb 167 = some (.plain clock_Clock_Frame.an)) : SfOk Tryz.prog tb 167 clock_Clock_Frame.sf := SfOk.plain (an := clock_Clock_Frame.an) ht (fun env J vs h r he => by
  simp only [clock_Clock_Frame.sf] at he; split at he
  · rw [clock_Clock_Frame.fe_eq]; exact he
  · cases he) (fun env J id vs h r he => by simp only [clock_Clock_Frame.sf] at he; cases he)
/- 168 (*busbar/clock.Clock).Tick -/
noncomputable def clock_Clock_Tick.c4 (env : Env) (J : JT) (x0 x4 : V) (h : H) : Ans :=
 bnd (nilChk x0) fun t47_41 =>
 bnd (fieldA (some (some 240, none)) t47_41 2) fun t48_42 =>
 bnd (ld none h t48_42) fun t49_43 =>
 bnd (bin .add t49_43 (.int .i64 1)) fun t50_44 =>
 bnd (nilChk x0) fun t51_45 =>
 bnd (fieldA (some (some 240, none)) t51_45 2) fun t52_46 =>
 bnd (st none h t52_46 t50_44) fun h_47 =>
 J 0 [x0, x4] h_47
noncomputable def clock_Clock_Tick.c3 (env : Env) (J : JT) (x0 x4 : V) (h : H) : Ans :=
 bnd (fieldA (some (some 238, none)) x4 1) fun t38_33 =>
 bnd (ld none h t38_33) fun t39_34 =>
 bnd (nilChk x0) fun t41_35 =>
 bnd (fieldA (some (some 240, none)) t41_35 1) fun t42_36 =>
 bnd (ld none h t42_36) fun t43_37 =>
 bnd (bin .sub t39_34 t43_37) fun t44_38 =>
 bnd (fieldA (some (some 238, none)) x4 1) fun t45_39 =>
 bnd (st none h t45_39 t44_38) fun h_40 =>
 clock_Clock_Tick.c4 env J x0 x4 h_40
noncomputable def clock_Clock_Tick.c2 (env : Env) (J : JT) (x0 x4 x29 : V) (h : H) : Ans :=
 cnd x29 (
 bnd (fieldA (some (some 238, none)) x4 0) fun t30_25 =>
 bnd (ld none h t30_25) fun t31_26 =>
 bnd (nilChk x0) fun t33_27 =>
 bnd (fieldA (some (some 240, none)) t33_27 1) fun t34_28 =>
 bnd (ld none h t34_28) fun t35_29 =>
 bnd (bin .sub t31_26 t35_29) fun t36_30 =>
 bnd (fieldA (some (some 238, none)) x4 0) fun t37_31 =>
 bnd (st none h t37_31 t36_30) fun h_32 =>
 clock_Clock_Tick.c3 env J x0 x4 h_32) (
 J 0 [x0, x4] h)
noncomputable def clock_Clock_Tick.c1 (env : Env) (J : JT) (x0 x4 : V) (h : H) : Ans :=
 bnd (fieldA (some (some 238, none)) x4 0) fun t23_19 =>
 bnd (ld none h t23_19) fun t24_20 =>
 bnd (nilChk x0) fun t26_21 =>
 bnd (fieldA (some (some 240, none)) t26_21 1) fun t27_22 =>
 bnd (ld none h t27_22) fun t28_23 =>
 bnd (bin .geq t24_20 t28_23) fun t29_24 =>
 clock_Clock_Tick.c2 env J x0 x4 t29_24 h
noncomputable def clock_Clock_Tick.c0 (env : Env) (J : JT) (x0 x1 : V) (h : H) : Ans :=
 bnd (nilChk x0) fun t8_3 =>
 bnd (fieldA (some (some 240, (some 238))) t8_3 0) fun t9_4 =>
 bnd (fieldA (some (some 238, none)) t9_4 0) fun t10_5 =>
 bnd (ld none h t10_5) fun t11_6 =>
 bnd (bin .add t11_6 (.int .i64 1)) fun t12_7 =>
 bnd (mns [x1, (.int .i64 1)]) fun t14_8 =>
 bnd (mxs [(.int .i64 (-1)), t14_8]) fun t15_9 =>
 bnd (bin .add t12_7 t15_9) fun t16_10 =>
 bnd (nilChk x0) fun t18_11 =>
 bnd (fieldA (some (some 240, (some 238))) t18_11 0) fun t19_12 =>
 bnd (fieldA (some (some 238, none)) t19_12 0) fun t20_13 =>
 bnd (ld none h t20_13) fun t21_14 =>
 bnd (build (zeroV Tryz.prog 239) [(0, t16_10), (1, t21_14)]) fun t22_15 =>
 bnd2 (al (some (some 238)) (zeroV Tryz.prog 239) h) fun t4_16 h_17 =>
 bnd (st (some 238) h_17 t4_16 t22_15) fun h_18 =>
 clock_Clock_Tick.c1 env J x0 t4_16 h_18
noncomputable def clock_Clock_Tick.fs (env : Env) (J : JT) (x0 x1 : V) (h : H) : Ans :=
 bnd2 (env 182 [x0] h) fun t6_1 h_2 =>
 cnd t6_1 (
 some (.tup [], h_2)) (
 clock_Clock_Tick.c0 env J x0 x1 h_2)
theorem clock_Clock_Tick.fe_eq (env : Env) (J : JT) (x0 x1 : V) (h : H) : evF Tryz.prog env J 168 clock_Clock_Tick.an [x0, x1] h = clock_Clock_Tick.fs env J x0 x1 h := by kernel_rfl
noncomputable def clock_Clock_Tick.p0 (env : Env) (J : JT) (x0 x4 : V) (h : H) : Ans :=
 bnd (ld (some 238) h x4) fun t54_48 =>
 bnd (nilChk x0) fun t55_49 =>
 bnd (fieldA (some (some 240, (some 238))) t55_49 0) fun t56_50 =>
 bnd (st (some 238) h t56_50 t54_48) fun h_51 =>
 some (.tup [], h_51)
theorem clock_Clock_Tick.p0_eq (env : Env) (J : JT) (x0 x4 : V) (h : H) : evP Tryz.prog env J 168 clock_Clock_Tick.an 0 [x0, x4] h = clock_Clock_Tick.p0 env J x0 x4 h := by kernel_rfl
theorem clock_Clock_Tick.eq {tb : Nat → Option Fa} (ht : tb 168 = some (.plain clock_Clock_Tick.an)) (x0 x1 : V) (h : H) : Ei Tryz.prog tb 168 [x0, x1] h = clock_Clock_Tick.fs (Ei Tryz.prog tb) (Ji Tryz.prog tb 168 clock_Clock_Tick.an) x0 x1 h := (Ei_eq (an := clock_Clock_Tick.an) ht _ h).trans (clock_Clock_Tick.fe_eq _ _ x0 x1 h)
theorem clock_Clock_Tick.J0_eq {tb : Nat → Option Fa} (x0 x4 : V) (h : H) : Ji Tryz.prog tb 168 clock_Clock_Tick.an 0 [x0, x4] h = clock_Clock_Tick.p0 (Ei Tryz.prog tb) (Ji Tryz.prog tb 168 clock_Clock_Tick.an) x0 x4 h := (Ji_eq _ _ h).trans (clock_Clock_Tick.p0_eq _ _ x0 x4 h)
noncomputable def clock_Clock_Tick.sf : Sf := ⟨fun env J vs h => match vs with | [x0, x1] => clock_Clock_Tick.fs env J x0 x1 h | _ => none, fun env J id vs h => bif Nat.beq id 0 then (match vs with | [x0, x4] => clock_Clock_Tick.p0 env J x0 x4 h | _ => none) else (none)⟩
theorem clock_Clock_Tick.sfok {tb : Nat → Option Fa} (ht : tb 168 = some (.plain clock_Clock_Tick.an)) : SfOk Tryz.prog tb 168 clock_Clock_Tick.sf := SfOk.plain (an := clock_Clock_Tick.an) ht (fun env J vs h r he => by
  simp only [clock_Clock_Tick.sf] at he; split at he
  · rw [clock_Clock_Tick.fe_eq]; exact he
  · cases he) (fun env J id vs h r he => by
  simp only [clock_Clock_Tick.sf] at he
  cases hb : Nat.beq id 0
  case true =>
    rw [hb] at he; rw [Nat.eq_of_beq_eq_true hb]; simp only [cond_true] at he; split at he
    · rw [clock_Clock_Tick.p0_eq]; exact he
    · cases he
  rw [hb] at he; simp only [cond_false] at he; clear hb
  cases he)
end Go.Proofs.YtbgdidfegkmafaaGreat
