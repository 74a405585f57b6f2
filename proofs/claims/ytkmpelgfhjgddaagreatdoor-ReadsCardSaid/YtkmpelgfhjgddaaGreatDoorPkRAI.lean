/- A part of one proof (ShR2); no conditions beyond what each theorem names. -/
import Derived.Test.YtkmpelgfhjgddaaGreatDoorPkRAH
set_option linter.all false
set_option linter.unusedVariables false
set_option linter.unusedSimpArgs false
namespace Go.Proofs.YtkmpelgfhjgddaaGreatDoor
open Go.Proofs.YtkmpelgfhjgddaaGreatDoor.Sx
set_option maxRecDepth 100000
set_option linter.unusedVariables false
def sh_Pr_parser_variable (p0 p1 : Value) (w : World) (R : Ending → World → Prop) : Prop :=
  WR Tryz.prog (Instr.box 60 p1) w (fun x3 w1 =>
  WR Tryz.prog (Instr.alloc 69 true (.tuple #[])) w1 (fun x4 w1_1 =>
  LoopW (fun rec s d w1_2 =>
    NC p0 fun x8 =>
    RD Tryz.prog (Instr.fieldAt 58 x8 2) w1_2 (fun x9 =>
    RD Tryz.prog (Instr.loadAt 38 x9) w1_2 (fun x10 =>
    RD Tryz.prog (Builtin.len_ #[38] 3 #[x10]) w1_2 (fun x11 =>
    RD Tryz.prog (bo .lss 3 (.tmp 6) (.tmp 11) (s 5) x11) w1_2 (fun x12 => BS x12 (
    RD Tryz.prog (Instr.fieldAt 60 x3 1) w1_2 (fun x14 =>
    RD Tryz.prog (Instr.loadAt 9 x14) w1_2 (fun x15 =>
    RD Tryz.prog (bo .neq 9 (.tmp 15) (.const (.string (bs [95]))) x15 (.string (bs [95]))) w1_2 (fun x16 =>
    BS x16 (NC p0 fun x21 =>
    RD Tryz.prog (Instr.fieldAt 58 x21 2) w1_2.drew (fun x22 =>
    RD Tryz.prog (Instr.loadAt 38 x22) w1_2.drew (fun x23 =>
    RD Tryz.prog (Instr.indexAt 38 x23 (s 5)) w1_2.drew (fun x25 =>
    RD Tryz.prog (Instr.loadAt 9 x25) w1_2.drew (fun x26 =>
    RD Tryz.prog (Instr.fieldAt 60 x3 1) w1_2.drew (fun x27 =>
    RD Tryz.prog (Instr.loadAt 9 x27) w1_2.drew (fun x28 =>
    RD Tryz.prog (bo .eql 9 (.tmp 26) (.tmp 28) x26 x28) w1_2.drew (fun x29 =>
    BS x29 (RD Tryz.prog (Instr.build 69 #[(0, (.int .u8 118)), (3, (s 5))]) w1_2.drew (fun x31 =>
    WU Tryz.prog (Instr.storeAt 69 x4 x31) w1_2.drew (fun w1_3 =>
    RD Tryz.prog (Instr.loadAt 69 x4) w1_3 (fun r => R (.returned r) w1_3) NX) (PX R)) (PX R)) (RD Tryz.prog (bo .add 3 (.tmp 18) (.const (.int .i64 1)) (s 5) (.int .i64 1)) w1_2.drew (fun x19 =>
    rec (sOf [(5, x19)]) w1_2.drew) (PX R))) NX) NX) NX) NX) NX) NX) NX) (JN (fun j =>
    NC p0 fun x33 =>
    RD Tryz.prog (Instr.fieldAt 58 x33 2) w1_2 (fun x34 =>
    RD Tryz.prog (Instr.loadAt 38 x34) w1_2 (fun x35 =>
    RD Tryz.prog (Builtin.len_ #[38] 3 #[x35]) w1_2 (fun x36 =>
    RD Tryz.prog (bo .eql 3 (.tmp 36) (.const (.int .i64 12)) x36 (.int .i64 12)) w1_2 (fun x37 =>
    BS x37 (RD Tryz.prog (Instr.fieldAt 60 x3 2) w1_2 (fun x39 =>
    RD Tryz.prog (Instr.loadAt 3 x39) w1_2 (fun x40 =>
    CA Tryz.prog 17 #[p0, (.int .i64 4), x40] w1_2 (fun x41 w1_5 =>
    j (sOf []) w1_5) (PC R)) (PX R)) (PX R)) (j (sOf []) w1_2)) (PX R)) (PX R)) (PX R)) (PX R))
    (fun s_1 d_1 w1_4 =>
    HD fun S => S w1_4.drew ∧
    NC p0 fun x44 =>
    RDS Tryz.prog (Instr.fieldAt 58 x44 2) S (fun x45 =>
    RDS Tryz.prog (Instr.loadAt 38 x45) S (fun x46 =>
    RD Tryz.prog (Instr.fieldAt 60 x3 1) w1_4.drew (fun x47 =>
    RD Tryz.prog (Instr.loadAt 9 x47) w1_4.drew (fun x48 =>
    WR Tryz.prog (Instr.buildSlice 38 1 #[(0, x48)]) w1_4.drew (fun x49 w1_6 =>
    S w1_6 ∧
    WR Tryz.prog (Builtin.append_ #[38, 38] 38 #[x46, x49]) w1_6 (fun x50 w1_7 =>
    S w1_7 ∧
    NC p0 fun x51 =>
    RD Tryz.prog (Instr.fieldAt 58 x51 2) w1_7 (fun x52 =>
    WU Tryz.prog (Instr.storeAt 38 x52 x50) w1_7 (fun w1_8 =>
    NC p0 fun x54 =>
    RD Tryz.prog (Instr.fieldAt 58 x54 2) w1_8 (fun x55 =>
    RD Tryz.prog (Instr.loadAt 38 x55) w1_8 (fun x56 =>
    RD Tryz.prog (Builtin.len_ #[38] 3 #[x56]) w1_8 (fun x57 =>
    RD Tryz.prog (bo .sub 3 (.tmp 57) (.const (.int .i64 1)) x57 (.int .i64 1)) w1_8 (fun x58 =>
    RD Tryz.prog (Instr.build 69 #[(0, (.int .u8 118)), (3, x58)]) w1_8 (fun x59 =>
    WU Tryz.prog (Instr.storeAt 69 x4 x59) w1_8 (fun w1_9 =>
    RD Tryz.prog (Instr.loadAt 69 x4) w1_9 (fun r_1 => R (.returned r_1) w1_9) NX) (PX R)) (PX R)) (PX R)) (PX R)) (PX R)) (PX R)) NX) NX) NX) NX) NX) NX))))) (PX R)) (PX R)) (PX R)) (
    BS (.bool false) (NC p0 fun x21_1 =>
    RD Tryz.prog (Instr.fieldAt 58 x21_1 2) w1_2.drew (fun x22_1 =>
    RD Tryz.prog (Instr.loadAt 38 x22_1) w1_2.drew (fun x23_1 =>
    RD Tryz.prog (Instr.indexAt 38 x23_1 (s 5)) w1_2.drew (fun x25_1 =>
    RD Tryz.prog (Instr.loadAt 9 x25_1) w1_2.drew (fun x26_1 =>
    RD Tryz.prog (Instr.fieldAt 60 x3 1) w1_2.drew (fun x27_1 =>
    RD Tryz.prog (Instr.loadAt 9 x27_1) w1_2.drew (fun x28_1 =>
    RD Tryz.prog (bo .eql 9 (.tmp 26) (.tmp 28) x26_1 x28_1) w1_2.drew (fun x29_1 =>
    BS x29_1 (RD Tryz.prog (Instr.build 69 #[(0, (.int .u8 118)), (3, (s 5))]) w1_2.drew (fun x31_1 =>
    WU Tryz.prog (Instr.storeAt 69 x4 x31_1) w1_2.drew (fun w1_10 =>
    RD Tryz.prog (Instr.loadAt 69 x4) w1_10 (fun r_2 => R (.returned r_2) w1_10) NX) (PX R)) (PX R)) (RD Tryz.prog (bo .add 3 (.tmp 18) (.const (.int .i64 1)) (s 5) (.int .i64 1)) w1_2.drew (fun x19_1 =>
    rec (sOf [(5, x19_1)]) w1_2.drew) (PX R))) NX) NX) NX) NX) NX) NX) NX) (JN (fun j_1 =>
    NC p0 fun x33_1 =>
    RD Tryz.prog (Instr.fieldAt 58 x33_1 2) w1_2 (fun x34_1 =>
    RD Tryz.prog (Instr.loadAt 38 x34_1) w1_2 (fun x35_1 =>
    RD Tryz.prog (Builtin.len_ #[38] 3 #[x35_1]) w1_2 (fun x36_1 =>
    RD Tryz.prog (bo .eql 3 (.tmp 36) (.const (.int .i64 12)) x36_1 (.int .i64 12)) w1_2 (fun x37_1 =>
    BS x37_1 (RD Tryz.prog (Instr.fieldAt 60 x3 2) w1_2 (fun x39_1 =>
    RD Tryz.prog (Instr.loadAt 3 x39_1) w1_2 (fun x40_1 =>
    CA Tryz.prog 17 #[p0, (.int .i64 4), x40_1] w1_2 (fun x41_1 w1_12 =>
    j_1 (sOf []) w1_12) (PC R)) (PX R)) (PX R)) (j_1 (sOf []) w1_2)) (PX R)) (PX R)) (PX R)) (PX R))
    (fun s_2 d_2 w1_11 =>
    HD fun S_1 => S_1 w1_11.drew ∧
    NC p0 fun x44_1 =>
    RDS Tryz.prog (Instr.fieldAt 58 x44_1 2) S_1 (fun x45_1 =>
    RDS Tryz.prog (Instr.loadAt 38 x45_1) S_1 (fun x46_1 =>
    RD Tryz.prog (Instr.fieldAt 60 x3 1) w1_11.drew (fun x47_1 =>
    RD Tryz.prog (Instr.loadAt 9 x47_1) w1_11.drew (fun x48_1 =>
    WR Tryz.prog (Instr.buildSlice 38 1 #[(0, x48_1)]) w1_11.drew (fun x49_1 w1_13 =>
    S_1 w1_13 ∧
    WR Tryz.prog (Builtin.append_ #[38, 38] 38 #[x46_1, x49_1]) w1_13 (fun x50_1 w1_14 =>
    S_1 w1_14 ∧
    NC p0 fun x51_1 =>
    RD Tryz.prog (Instr.fieldAt 58 x51_1 2) w1_14 (fun x52_1 =>
    WU Tryz.prog (Instr.storeAt 38 x52_1 x50_1) w1_14 (fun w1_15 =>
    NC p0 fun x54_1 =>
    RD Tryz.prog (Instr.fieldAt 58 x54_1 2) w1_15 (fun x55_1 =>
    RD Tryz.prog (Instr.loadAt 38 x55_1) w1_15 (fun x56_1 =>
    RD Tryz.prog (Builtin.len_ #[38] 3 #[x56_1]) w1_15 (fun x57_1 =>
    RD Tryz.prog (bo .sub 3 (.tmp 57) (.const (.int .i64 1)) x57_1 (.int .i64 1)) w1_15 (fun x58_1 =>
    RD Tryz.prog (Instr.build 69 #[(0, (.int .u8 118)), (3, x58_1)]) w1_15 (fun x59_1 =>
    WU Tryz.prog (Instr.storeAt 69 x4 x59_1) w1_15 (fun w1_16 =>
    RD Tryz.prog (Instr.loadAt 69 x4) w1_16 (fun r_3 => R (.returned r_3) w1_16) NX) (PX R)) (PX R)) (PX R)) (PX R)) (PX R)) (PX R)) NX) NX) NX) NX) NX) NX)))))) (PX R)) (PX R)) (PX R)) (PX R))
    (sOf [(5, (.int .i64 0))]) w1_1) (PX R)) (PX R)
theorem sh_Pr_parser_variable_ok {p0 p1 : Value} {w : World} {R : Ending → World → Prop} (h : sh_Pr_parser_variable p0 p1 w R) : Calls Tryz.prog 108 #[p0, p1] w R :=
  callsEq (args := [p0, p1]) (good (fun n => match n with | 2 => [5] | _ => []) (fun n => match n with | 7001 => some [] | _ => none) (fun n => match n with | 4 => 10 | _ => 0) (fun n => match n with | 8 => some [12, 0, 1, 2, 3, 4, 5, 6, 7, 8, 9, 10, 11] | _ => none) (fun n => match n with | 2 => [] | _ => []) (fun n => match n with | 7001 => [] | _ => []) (fun _ => false) (fun n => match n with | 16 => true | 17 => true | 29 => true | 37 => true | _ => false)) Tryz.func108 rfl (by kernel_rfl) (by kernel_rfl) (Nat.le_of_ble_eq_true (by kernel_rfl)) [] (by kernel_rfl) h
def sh_r_value (p0 : Value) (w : World) (R : Ending → World → Prop) : Prop :=
  LoopW (fun rec s d w1 =>
    RD Tryz.prog (Builtin.len_ #[9] 3 #[p0]) w1 (fun x7 =>
    RD Tryz.prog (bo .lss 3 (.tmp 5) (.tmp 7) (s 4) x7) w1 (fun x8 =>
    BS x8 (RD Tryz.prog (bo .mul 2 (.const (.int .i64 10)) (.tmp 11) (.int .i64 10) (s 3)) w1 (fun x12 =>
    RD Tryz.prog (Instr.index 9 p0 (s 4)) w1 (fun x15 =>
    RD Tryz.prog (bo .sub 5 (.tmp 15) (.const (.int .u8 48)) x15 (.int .u8 48)) w1 (fun x16 =>
    WR Tryz.prog (convert 5 2 x16) w1 (fun x17 w1_1 =>
    RD Tryz.prog (bo .add 2 (.tmp 12) (.tmp 17) x12 x17) w1_1 (fun x18 =>
    RD Tryz.prog (bo .add 3 (.tmp 9) (.const (.int .i64 1)) (s 4) (.int .i64 1)) w1_1 (fun x10 =>
    rec (sOf [(3, x18), (4, x10)]) w1_1) (PX R)) (PX R)) (PX R)) (PX R)) (PX R)) (PX R)) (R (.returned (s 3)) w1)) (PX R)) (PX R))
    (sOf [(3, (.int .i64 0)), (4, (.int .i64 0))]) w
theorem sh_r_value_ok {p0 : Value} {w : World} {R : Ending → World → Prop} (h : sh_r_value p0 w R) : Calls Tryz.prog 107 #[p0] w R :=
  callsEq (args := [p0]) (good (fun n => match n with | 3 => [3, 4] | _ => []) (fun _ => none) (fun _ => 0) (fun _ => none) (fun n => match n with | 3 => [] | _ => []) (fun _ => []) (fun _ => false) (fun n => match n with | 8 => true | _ => false)) Tryz.func107 rfl (by kernel_rfl) (by kernel_rfl) (Nat.le_of_ble_eq_true (by kernel_rfl)) [] (by kernel_rfl) h
def sh_Pr_parser_bare (p0 : Value) (w : World) (R : Ending → World → Prop) : Prop :=
  WR Tryz.prog (Instr.alloc 69 true (.tuple #[])) w (fun x2 w1 =>
  CA Tryz.prog 16 #[p0] w1 (fun x13 w1_1 =>
  WR Tryz.prog (Instr.alloc 60 true (.tuple #[])) w1_1 (fun x3 w1_2 =>
  WU Tryz.prog (Instr.storeAt 60 x3 x13) w1_2 (fun w1_3 =>
  RD Tryz.prog (Instr.fieldAt 60 x3 0) w1_3 (fun x14 =>
  RD Tryz.prog (Instr.loadAt 5 x14) w1_3 (fun x15 =>
  RD Tryz.prog (bo .eql 5 (.tmp 15) (.const (.int .u8 110)) x15 (.int .u8 110)) w1_3 (fun x17 =>
  BS x17 (NC p0 fun x19 =>
  RD Tryz.prog (Instr.fieldAt 58 x19 1) w1_3 (fun x20 =>
  RD Tryz.prog (Instr.loadAt 3 x20) w1_3 (fun x21 =>
  RD Tryz.prog (bo .add 3 (.tmp 21) (.const (.int .i64 1)) x21 (.int .i64 1)) w1_3 (fun x22 =>
  NC p0 fun x23 =>
  RD Tryz.prog (Instr.fieldAt 58 x23 1) w1_3 (fun x24 =>
  WU Tryz.prog (Instr.storeAt 3 x24 x22) w1_3 (fun w1_4 =>
  RD Tryz.prog (Instr.fieldAt 60 x3 1) w1_4 (fun x25 =>
  RD Tryz.prog (Instr.loadAt 9 x25) w1_4 (fun x26 =>
  CA Tryz.prog 107 #[x26] w1_4 (fun x27 w1_5 =>
  RD Tryz.prog (Instr.build 69 #[(0, (.int .u8 110)), (2, x27)]) w1_5 (fun x29 =>
  WU Tryz.prog (Instr.storeAt 69 x2 x29) w1_5 (fun w1_6 =>
  RD Tryz.prog (Instr.loadAt 69 x2) w1_6 (fun r => R (.returned r) w1_6) NX) (PX R)) (PX R)) (PC R)) (PX R)) (PX R)) (PX R)) (PX R)) (PX R)) (PX R)) (PX R)) (RD Tryz.prog (bo .eql 5 (.tmp 15) (.const (.int .u8 118)) x15 (.int .u8 118)) w1_3 (fun x31 =>
  BS x31 (NC p0 fun x33 =>
  RD Tryz.prog (Instr.fieldAt 58 x33 1) w1_3 (fun x34 =>
  RD Tryz.prog (Instr.loadAt 3 x34) w1_3 (fun x35 =>
  RD Tryz.prog (bo .add 3 (.tmp 35) (.const (.int .i64 1)) x35 (.int .i64 1)) w1_3 (fun x36 =>
  NC p0 fun x37 =>
  RD Tryz.prog (Instr.fieldAt 58 x37 1) w1_3 (fun x38 =>
  WU Tryz.prog (Instr.storeAt 3 x38 x36) w1_3 (fun w1_7 =>
  RD Tryz.prog (Instr.loadAt 60 x3) w1_7 (fun x40 =>
  CA Tryz.prog 108 #[p0, x40] w1_7 (fun x41 w1_8 =>
  WU Tryz.prog (Instr.storeAt 69 x2 x41) w1_8 (fun w1_9 =>
  RD Tryz.prog (Instr.loadAt 69 x2) w1_9 (fun r_1 => R (.returned r_1) w1_9) NX) (PX R)) (PC R)) (PX R)) (PX R)) (PX R)) (PX R)) (PX R)) (PX R)) (RD Tryz.prog (bo .eql 5 (.tmp 15) (.const (.int .u8 97)) x15 (.int .u8 97)) w1_3 (fun x43 =>
  BS x43 (NC p0 fun x45 =>
  RD Tryz.prog (Instr.fieldAt 58 x45 1) w1_3 (fun x46 =>
  RD Tryz.prog (Instr.loadAt 3 x46) w1_3 (fun x47 =>
  RD Tryz.prog (bo .add 3 (.tmp 47) (.const (.int .i64 1)) x47 (.int .i64 1)) w1_3 (fun x48 =>
  NC p0 fun x49 =>
  RD Tryz.prog (Instr.fieldAt 58 x49 1) w1_3 (fun x50 =>
  WU Tryz.prog (Instr.storeAt 3 x50 x48) w1_3 (fun w1_10 =>
  RD Tryz.prog (Instr.fieldAt 60 x3 1) w1_10 (fun x51 =>
  RD Tryz.prog (Instr.loadAt 9 x51) w1_10 (fun x52 =>
  RD Tryz.prog (Instr.build 69 #[(0, (.int .u8 97)), (1, x52)]) w1_10 (fun x53 =>
  WR Tryz.prog (Instr.alloc 69 true (.tuple #[])) w1_10 (fun x5 w1_11 =>
  WU Tryz.prog (Instr.storeAt 69 x5 x53) w1_11 (fun w1_12 =>
  CA Tryz.prog 32 #[p0, (.string (bs [40]))] w1_12 (fun x55 w1_13 =>
  JN (fun j =>
    BS x55 (RD Tryz.prog (Instr.fieldAt 69 x5 0) w1_13 (fun x57 =>
    WU Tryz.prog (Instr.storeAt 5 x57 (.int .u8 99)) w1_13 (fun w1_15 =>
    RD Tryz.prog (Instr.fieldAt 60 x3 2) w1_15 (fun x59 =>
    RD Tryz.prog (Instr.loadAt 3 x59) w1_15 (fun x60 =>
    CA Tryz.prog 33 #[p0, x60] w1_15 (fun x61 w1_16 =>
    RD Tryz.prog (Instr.fieldAt 69 x5 4) w1_16 (fun x62 =>
    WU Tryz.prog (Instr.storeAt 34 x62 x61) w1_16 (fun w1_17 =>
    CA Tryz.prog 34 #[p0, (.string (bs [41]))] w1_17 (fun x64 w1_18 =>
    j (sOf []) w1_18) (PC R)) (PX R)) (PX R)) (PC R)) (PX R)) (PX R)) (PX R)) (PX R)) (j (sOf []) w1_13))
    (fun s d w1_14 =>
    RD Tryz.prog (Instr.loadAt 69 x5) w1_14 (fun x65 =>
    WU Tryz.prog (Instr.storeAt 69 x2 x65) w1_14 (fun w1_19 =>
    RD Tryz.prog (Instr.loadAt 69 x2) w1_19 (fun r_2 => R (.returned r_2) w1_19) NX) (PX R)) (PX R))) (PC R)) (PX R)) (PX R)) (PX R)) (PX R)) (PX R)) (PX R)) (PX R)) (PX R)) (PX R)) (PX R)) (CA Tryz.prog 32 #[p0, (.string (bs [45]))] w1_3 (fun x67 w1_20 =>
  BS x67 (CA Tryz.prog 16 #[p0] w1_20 (fun x70 w1_21 =>
  WU Tryz.prog (Instr.storeAt 60 x3 x70) w1_21 (fun w1_22 =>
  RD Tryz.prog (Instr.fieldAt 60 x3 0) w1_22 (fun x71 =>
  RD Tryz.prog (Instr.loadAt 5 x71) w1_22 (fun x72 =>
  RD Tryz.prog (bo .neq 5 (.tmp 72) (.const (.int .u8 110)) x72 (.int .u8 110)) w1_22 (fun x73 =>
  BS x73 (CA Tryz.prog 31 #[p0] w1_22 (fun x75 w1_23 =>
  RD Tryz.prog (Instr.build 69 #[]) w1_23 (fun x76 =>
  WU Tryz.prog (Instr.storeAt 69 x2 x76) w1_23 (fun w1_24 =>
  RD Tryz.prog (Instr.loadAt 69 x2) w1_24 (fun r_3 => R (.returned r_3) w1_24) NX) (PX R)) (PX R)) (PC R)) (NC p0 fun x78 =>
  RD Tryz.prog (Instr.fieldAt 58 x78 1) w1_22 (fun x79 =>
  RD Tryz.prog (Instr.loadAt 3 x79) w1_22 (fun x80 =>
  RD Tryz.prog (bo .add 3 (.tmp 80) (.const (.int .i64 1)) x80 (.int .i64 1)) w1_22 (fun x81 =>
  NC p0 fun x82 =>
  RD Tryz.prog (Instr.fieldAt 58 x82 1) w1_22 (fun x83 =>
  WU Tryz.prog (Instr.storeAt 3 x83 x81) w1_22 (fun w1_25 =>
  RD Tryz.prog (Instr.fieldAt 60 x3 1) w1_25 (fun x84 =>
  RD Tryz.prog (Instr.loadAt 9 x84) w1_25 (fun x85 =>
  CA Tryz.prog 107 #[x85] w1_25 (fun x86 w1_26 =>
  RD Tryz.prog (Op.unary .neg x86) w1_26 (fun x88 =>
  RD Tryz.prog (Instr.build 69 #[(0, (.int .u8 110)), (2, x88)]) w1_26 (fun x89 =>
  WU Tryz.prog (Instr.storeAt 69 x2 x89) w1_26 (fun w1_27 =>
  RD Tryz.prog (Instr.loadAt 69 x2) w1_27 (fun r_4 => R (.returned r_4) w1_27) NX) (PX R)) (PX R)) (PX R)) (PC R)) (PX R)) (PX R)) (PX R)) (PX R)) (PX R)) (PX R)) (PX R))) (PX R)) (PX R)) (PX R)) (PX R)) (PC R)) (CA Tryz.prog 32 #[p0, (.string (bs [40]))] w1_20 (fun x91 w1_28 =>
  BS x91 (CA Tryz.prog 22 #[p0] w1_28 (fun x94 w1_29 =>
  WR Tryz.prog (Instr.alloc 69 true (.tuple #[])) w1_29 (fun x10 w1_30 =>
  WU Tryz.prog (Instr.storeAt 69 x10 x94) w1_30 (fun w1_31 =>
  CA Tryz.prog 34 #[p0, (.string (bs [41]))] w1_31 (fun x96 w1_32 =>
  RD Tryz.prog (Instr.loadAt 69 x10) w1_32 (fun x97 =>
  WU Tryz.prog (Instr.storeAt 69 x2 x97) w1_32 (fun w1_33 =>
  RD Tryz.prog (Instr.loadAt 69 x2) w1_33 (fun r_5 => R (.returned r_5) w1_33) NX) (PX R)) (PX R)) (PC R)) (PX R)) (PX R)) (PC R)) (CA Tryz.prog 32 #[p0, (.string (bs [91]))] w1_28 (fun x99 w1_34 =>
  BS x99 (CA Tryz.prog 109 #[p0] w1_34 (fun x102 w1_35 =>
  WU Tryz.prog (Instr.storeAt 69 x2 x102) w1_35 (fun w1_36 =>
  RD Tryz.prog (Instr.loadAt 69 x2) w1_36 (fun r_6 => R (.returned r_6) w1_36) NX) (PX R)) (PC R)) (CA Tryz.prog 31 #[p0] w1_34 (fun x104 w1_37 =>
  RD Tryz.prog (Instr.build 69 #[]) w1_37 (fun x105 =>
  WU Tryz.prog (Instr.storeAt 69 x2 x105) w1_37 (fun w1_38 =>
  RD Tryz.prog (Instr.loadAt 69 x2) w1_38 (fun r_7 => R (.returned r_7) w1_38) NX) (PX R)) (PX R)) (PC R))) (PC R))) (PC R))) (PC R))) (PX R))) (PX R))) (PX R)) (PX R)) (PX R)) (PX R)) (PX R)) (PC R)) (PX R)
theorem sh_Pr_parser_bare_ok {p0 : Value} {w : World} {R : Ending → World → Prop} (h : sh_Pr_parser_bare p0 w R) : Calls Tryz.prog 93 #[p0] w R :=
  callsEq (args := [p0]) (good (fun _ => []) (fun n => match n with | 17003 => some [] | _ => none) (fun _ => 0) (fun _ => none) (fun _ => []) (fun n => match n with | 17003 => [] | _ => []) (fun _ => false) (fun n => match n with | 6 => true | 7 => true | 9 => true | 11 => true | 16 => true | 17 => true | 30 => true | 31 => true | 42 => true | 43 => true | 55 => true | 56 => true | 67 => true | 68 => true | 73 => true | 91 => true | 92 => true | 99 => true | 100 => true | _ => false)) Tryz.func93 rfl (by kernel_rfl) (by kernel_rfl) (Nat.le_of_ble_eq_true (by kernel_rfl)) [] (by kernel_rfl) h
def sh_Pr_parser_args (p0 p1 : Value) (w : World) (R : Ending → World → Prop) : Prop :=
  LoopW (fun rec s d w1 =>
    BS (s 6) (CA Tryz.prog 22 #[p0] w1 (fun x10 w1_1 =>
    WR Tryz.prog (Instr.alloc 69 true (.tuple #[])) w1_1 (fun x7 w1_2 =>
    WU Tryz.prog (Instr.storeAt 69 x7 x10) w1_2 (fun w1_3 =>
    RD Tryz.prog (Instr.loadAt 69 x7) w1_3 (fun x12 =>
    WR Tryz.prog (Instr.buildSlice 34 1 #[(0, x12)]) w1_3 (fun x13 w1_4 =>
    WR Tryz.prog (Builtin.append_ #[34, 34] 34 #[(s 5), x13]) w1_4 (fun x14 w1_5 =>
    CA Tryz.prog 32 #[p0, (.string (bs [44]))] w1_5 (fun x16 w1_6 =>
    rec (sOf [(5, x14), (6, x16)]) w1_6) (PC R)) (PX R)) (PX R)) (PX R)) (PX R)) (PX R)) (PC R)) (JN (fun j =>
    RD Tryz.prog (Builtin.len_ #[34] 3 #[(s 5)]) w1 (fun x18 =>
    RD Tryz.prog (bo .gtr 3 (.tmp 18) (.const (.int .i64 4)) x18 (.int .i64 4)) w1 (fun x19 =>
    BS x19 (CA Tryz.prog 17 #[p0, (.int .i64 4), p1] w1 (fun x22 w1_8 =>
    j (sOf []) w1_8) (PC R)) (j (sOf []) w1)) (PX R)) (PX R))
    (fun s_1 d_1 w1_7 =>
    R (.returned (s 5)) w1_7)))
    (sOf [(5, (.slice none 0 0)), (6, (.bool true))]) w
theorem sh_Pr_parser_args_ok {p0 p1 : Value} {w : World} {R : Ending → World → Prop} (h : sh_Pr_parser_args p0 p1 w R) : Calls Tryz.prog 33 #[p0, p1] w R :=
  callsEq (args := [p0, p1]) (good (fun n => match n with | 3 => [5, 6] | _ => []) (fun n => match n with | 8001 => some [] | _ => none) (fun _ => 0) (fun _ => none) (fun n => match n with | 3 => [] | _ => []) (fun n => match n with | 8001 => [] | _ => []) (fun _ => false) (fun n => match n with | 6 => true | 8 => true | 16 => true | 19 => true | _ => false)) Tryz.func33 rfl (by kernel_rfl) (by kernel_rfl) (Nat.le_of_ble_eq_true (by kernel_rfl)) [] (by kernel_rfl) h
def sh_Pr_parser_product (p0 : Value) (w : World) (R : Ending → World → Prop) : Prop :=
  WR Tryz.prog (Instr.alloc 69 true (.tuple #[])) w (fun x2 w1 =>
  CA Tryz.prog 75 #[p0] w1 (fun x7 w1_1 =>
  WR Tryz.prog (Instr.alloc 69 true (.tuple #[])) w1_1 (fun x3 w1_2 =>
  WU Tryz.prog (Instr.storeAt 69 x3 x7) w1_2 (fun w1_3 =>
  JN (fun j =>
    LoopW (fun rec s_1 d_1 w1_5 =>
      NC p0 fun x9 =>
      RD Tryz.prog (Instr.fieldAt 58 x9 4) w1_5 (fun x10 =>
      RD Tryz.prog (Instr.loadAt 29 x10) w1_5 (fun x11 =>
      RD Tryz.prog (bo .eql 29 (.tmp 11) (.const (.int .i64 0)) x11 (.int .i64 0)) w1_5 (fun x12 =>
      BS x12 (CA Tryz.prog 16 #[p0] w1_5 (fun x14 w1_6 =>
      WR Tryz.prog (Instr.alloc 60 true (.tuple #[])) w1_6 (fun x4 w1_7 =>
      WU Tryz.prog (Instr.storeAt 60 x4 x14) w1_7 (fun w1_8 =>
      RD Tryz.prog (Instr.fieldAt 60 x4 0) w1_8 (fun x15 =>
      RD Tryz.prog (Instr.loadAt 5 x15) w1_8 (fun x16 =>
      RD Tryz.prog (bo .neq 5 (.tmp 16) (.const (.int .u8 115)) x16 (.int .u8 115)) w1_8 (fun x17 => BS x17 (
      RD Tryz.prog (Instr.fieldAt 60 x4 0) w1_8 (fun x29 =>
      RD Tryz.prog (Instr.loadAt 5 x29) w1_8 (fun x30 =>
      RD Tryz.prog (bo .neq 5 (.tmp 30) (.const (.int .u8 97)) x30 (.int .u8 97)) w1_8 (fun x31 => BS x31 (
      BS (.bool true) (j (sOf []) w1_8) (NC p0 fun x39 =>
      RD Tryz.prog (Instr.fieldAt 58 x39 1) w1_8 (fun x40 =>
      RD Tryz.prog (Instr.loadAt 3 x40) w1_8 (fun x41 =>
      RD Tryz.prog (bo .add 3 (.tmp 41) (.const (.int .i64 1)) x41 (.int .i64 1)) w1_8 (fun x42 =>
      NC p0 fun x43 =>
      RD Tryz.prog (Instr.fieldAt 58 x43 1) w1_8 (fun x44 =>
      WU Tryz.prog (Instr.storeAt 3 x44 x42) w1_8 (fun w1_9 =>
      CA Tryz.prog 75 #[p0] w1_9 (fun x46 w1_10 =>
      WR Tryz.prog (Instr.alloc 69 true (.tuple #[])) w1_10 (fun x5 w1_11 =>
      WU Tryz.prog (Instr.storeAt 69 x5 x46) w1_11 (fun w1_12 =>
      RD Tryz.prog (Instr.fieldAt 60 x4 1) w1_12 (fun x47 =>
      RD Tryz.prog (Instr.loadAt 9 x47) w1_12 (fun x48 =>
      RD Tryz.prog (Instr.loadAt 69 x3) w1_12 (fun x49 =>
      RD Tryz.prog (Instr.loadAt 69 x5) w1_12 (fun x50 =>
      WR Tryz.prog (Instr.buildSlice 34 2 #[(0, x49), (1, x50)]) w1_12 (fun x51 w1_13 =>
      RD Tryz.prog (Instr.build 69 #[(0, (.int .u8 99)), (1, x48), (4, x51)]) w1_13 (fun x52 =>
      WU Tryz.prog (Instr.storeAt 69 x3 x52) w1_13 (fun w1_14 =>
      rec (sOf []) w1_14) (PX R)) (PX R)) (PX R)) (PX R)) (PX R)) (PX R)) (PX R)) (PX R)) (PX R)) (PC R)) (PX R)) (PX R)) (PX R)) (PX R)) (PX R))) (
      RD Tryz.prog (Instr.fieldAt 60 x4 1) w1_8 (fun x33 =>
      RD Tryz.prog (Instr.loadAt 9 x33) w1_8 (fun x34 =>
      RD Tryz.prog (bo .neq 9 (.tmp 34) (.const (.string (bs [109, 111, 100]))) x34 (.string (bs [109, 111, 100]))) w1_8 (fun x35 =>
      BS x35 (j (sOf []) w1_8) (NC p0 fun x39_1 =>
      RD Tryz.prog (Instr.fieldAt 58 x39_1 1) w1_8 (fun x40_1 =>
      RD Tryz.prog (Instr.loadAt 3 x40_1) w1_8 (fun x41_1 =>
      RD Tryz.prog (bo .add 3 (.tmp 41) (.const (.int .i64 1)) x41_1 (.int .i64 1)) w1_8 (fun x42_1 =>
      NC p0 fun x43_1 =>
      RD Tryz.prog (Instr.fieldAt 58 x43_1 1) w1_8 (fun x44_1 =>
      WU Tryz.prog (Instr.storeAt 3 x44_1 x42_1) w1_8 (fun w1_15 =>
      CA Tryz.prog 75 #[p0] w1_15 (fun x46_1 w1_16 =>
      WR Tryz.prog (Instr.alloc 69 true (.tuple #[])) w1_16 (fun x5_1 w1_17 =>
      WU Tryz.prog (Instr.storeAt 69 x5_1 x46_1) w1_17 (fun w1_18 =>
      RD Tryz.prog (Instr.fieldAt 60 x4 1) w1_18 (fun x47_1 =>
      RD Tryz.prog (Instr.loadAt 9 x47_1) w1_18 (fun x48_1 =>
      RD Tryz.prog (Instr.loadAt 69 x3) w1_18 (fun x49_1 =>
      RD Tryz.prog (Instr.loadAt 69 x5_1) w1_18 (fun x50_1 =>
      WR Tryz.prog (Instr.buildSlice 34 2 #[(0, x49_1), (1, x50_1)]) w1_18 (fun x51_1 w1_19 =>
      RD Tryz.prog (Instr.build 69 #[(0, (.int .u8 99)), (1, x48_1), (4, x51_1)]) w1_19 (fun x52_1 =>
      WU Tryz.prog (Instr.storeAt 69 x3 x52_1) w1_19 (fun w1_20 =>
      rec (sOf []) w1_20) (PX R)) (PX R)) (PX R)) (PX R)) (PX R)) (PX R)) (PX R)) (PX R)) (PX R)) (PC R)) (PX R)) (PX R)) (PX R)) (PX R)) (PX R))) (PX R)) (PX R)) (PX R))) (PX R)) (PX R)) (PX R)) (
      RD Tryz.prog (Instr.fieldAt 60 x4 1) w1_8 (fun x19 =>
      RD Tryz.prog (Instr.loadAt 9 x19) w1_8 (fun x20 =>
      RD Tryz.prog (bo .neq 9 (.tmp 20) (.const (.string (bs [42]))) x20 (.string (bs [42]))) w1_8 (fun x21 => BS x21 (
      RD Tryz.prog (Instr.fieldAt 60 x4 1) w1_8 (fun x23 =>
      RD Tryz.prog (Instr.loadAt 9 x23) w1_8 (fun x24 =>
      RD Tryz.prog (bo .neq 9 (.tmp 24) (.const (.string (bs [47, 47]))) x24 (.string (bs [47, 47]))) w1_8 (fun x25 => BS x25 (
      RD Tryz.prog (Instr.fieldAt 60 x4 0) w1_8 (fun x29_1 =>
      RD Tryz.prog (Instr.loadAt 5 x29_1) w1_8 (fun x30_1 =>
      RD Tryz.prog (bo .neq 5 (.tmp 30) (.const (.int .u8 97)) x30_1 (.int .u8 97)) w1_8 (fun x31_1 => BS x31_1 (
      BS (.bool true) (j (sOf []) w1_8) (NC p0 fun x39_2 =>
      RD Tryz.prog (Instr.fieldAt 58 x39_2 1) w1_8 (fun x40_2 =>
      RD Tryz.prog (Instr.loadAt 3 x40_2) w1_8 (fun x41_2 =>
      RD Tryz.prog (bo .add 3 (.tmp 41) (.const (.int .i64 1)) x41_2 (.int .i64 1)) w1_8 (fun x42_2 =>
      NC p0 fun x43_2 =>
      RD Tryz.prog (Instr.fieldAt 58 x43_2 1) w1_8 (fun x44_2 =>
      WU Tryz.prog (Instr.storeAt 3 x44_2 x42_2) w1_8 (fun w1_21 =>
      CA Tryz.prog 75 #[p0] w1_21 (fun x46_2 w1_22 =>
      WR Tryz.prog (Instr.alloc 69 true (.tuple #[])) w1_22 (fun x5_2 w1_23 =>
      WU Tryz.prog (Instr.storeAt 69 x5_2 x46_2) w1_23 (fun w1_24 =>
      RD Tryz.prog (Instr.fieldAt 60 x4 1) w1_24 (fun x47_2 =>
      RD Tryz.prog (Instr.loadAt 9 x47_2) w1_24 (fun x48_2 =>
      RD Tryz.prog (Instr.loadAt 69 x3) w1_24 (fun x49_2 =>
      RD Tryz.prog (Instr.loadAt 69 x5_2) w1_24 (fun x50_2 =>
      WR Tryz.prog (Instr.buildSlice 34 2 #[(0, x49_2), (1, x50_2)]) w1_24 (fun x51_2 w1_25 =>
      RD Tryz.prog (Instr.build 69 #[(0, (.int .u8 99)), (1, x48_2), (4, x51_2)]) w1_25 (fun x52_2 =>
      WU Tryz.prog (Instr.storeAt 69 x3 x52_2) w1_25 (fun w1_26 =>
      rec (sOf []) w1_26) (PX R)) (PX R)) (PX R)) (PX R)) (PX R)) (PX R)) (PX R)) (PX R)) (PX R)) (PC R)) (PX R)) (PX R)) (PX R)) (PX R)) (PX R))) (
      RD Tryz.prog (Instr.fieldAt 60 x4 1) w1_8 (fun x33_1 =>
      RD Tryz.prog (Instr.loadAt 9 x33_1) w1_8 (fun x34_1 =>
      RD Tryz.prog (bo .neq 9 (.tmp 34) (.const (.string (bs [109, 111, 100]))) x34_1 (.string (bs [109, 111, 100]))) w1_8 (fun x35_1 =>
      BS x35_1 (j (sOf []) w1_8) (NC p0 fun x39_3 =>
      RD Tryz.prog (Instr.fieldAt 58 x39_3 1) w1_8 (fun x40_3 =>
      RD Tryz.prog (Instr.loadAt 3 x40_3) w1_8 (fun x41_3 =>
      RD Tryz.prog (bo .add 3 (.tmp 41) (.const (.int .i64 1)) x41_3 (.int .i64 1)) w1_8 (fun x42_3 =>
      NC p0 fun x43_3 =>
      RD Tryz.prog (Instr.fieldAt 58 x43_3 1) w1_8 (fun x44_3 =>
      WU Tryz.prog (Instr.storeAt 3 x44_3 x42_3) w1_8 (fun w1_27 =>
      CA Tryz.prog 75 #[p0] w1_27 (fun x46_3 w1_28 =>
      WR Tryz.prog (Instr.alloc 69 true (.tuple #[])) w1_28 (fun x5_3 w1_29 =>
      WU Tryz.prog (Instr.storeAt 69 x5_3 x46_3) w1_29 (fun w1_30 =>
      RD Tryz.prog (Instr.fieldAt 60 x4 1) w1_30 (fun x47_3 =>
      RD Tryz.prog (Instr.loadAt 9 x47_3) w1_30 (fun x48_3 =>
      RD Tryz.prog (Instr.loadAt 69 x3) w1_30 (fun x49_3 =>
      RD Tryz.prog (Instr.loadAt 69 x5_3) w1_30 (fun x50_3 =>
      WR Tryz.prog (Instr.buildSlice 34 2 #[(0, x49_3), (1, x50_3)]) w1_30 (fun x51_3 w1_31 =>
      RD Tryz.prog (Instr.build 69 #[(0, (.int .u8 99)), (1, x48_3), (4, x51_3)]) w1_31 (fun x52_3 =>
      WU Tryz.prog (Instr.storeAt 69 x3 x52_3) w1_31 (fun w1_32 =>
      rec (sOf []) w1_32) (PX R)) (PX R)) (PX R)) (PX R)) (PX R)) (PX R)) (PX R)) (PX R)) (PX R)) (PC R)) (PX R)) (PX R)) (PX R)) (PX R)) (PX R))) (PX R)) (PX R)) (PX R))) (PX R)) (PX R)) (PX R)) (
      BS (.bool false) (j (sOf []) w1_8) (NC p0 fun x39_4 =>
      RD Tryz.prog (Instr.fieldAt 58 x39_4 1) w1_8 (fun x40_4 =>
      RD Tryz.prog (Instr.loadAt 3 x40_4) w1_8 (fun x41_4 =>
      RD Tryz.prog (bo .add 3 (.tmp 41) (.const (.int .i64 1)) x41_4 (.int .i64 1)) w1_8 (fun x42_4 =>
      NC p0 fun x43_4 =>
      RD Tryz.prog (Instr.fieldAt 58 x43_4 1) w1_8 (fun x44_4 =>
      WU Tryz.prog (Instr.storeAt 3 x44_4 x42_4) w1_8 (fun w1_33 =>
      CA Tryz.prog 75 #[p0] w1_33 (fun x46_4 w1_34 =>
      WR Tryz.prog (Instr.alloc 69 true (.tuple #[])) w1_34 (fun x5_4 w1_35 =>
      WU Tryz.prog (Instr.storeAt 69 x5_4 x46_4) w1_35 (fun w1_36 =>
      RD Tryz.prog (Instr.fieldAt 60 x4 1) w1_36 (fun x47_4 =>
      RD Tryz.prog (Instr.loadAt 9 x47_4) w1_36 (fun x48_4 =>
      RD Tryz.prog (Instr.loadAt 69 x3) w1_36 (fun x49_4 =>
      RD Tryz.prog (Instr.loadAt 69 x5_4) w1_36 (fun x50_4 =>
      WR Tryz.prog (Instr.buildSlice 34 2 #[(0, x49_4), (1, x50_4)]) w1_36 (fun x51_4 w1_37 =>
      RD Tryz.prog (Instr.build 69 #[(0, (.int .u8 99)), (1, x48_4), (4, x51_4)]) w1_37 (fun x52_4 =>
      WU Tryz.prog (Instr.storeAt 69 x3 x52_4) w1_37 (fun w1_38 =>
      rec (sOf []) w1_38) (PX R)) (PX R)) (PX R)) (PX R)) (PX R)) (PX R)) (PX R)) (PX R)) (PX R)) (PC R)) (PX R)) (PX R)) (PX R)) (PX R)) (PX R)))) (PX R)) (PX R)) (PX R)) (
      BS (.bool false) (j (sOf []) w1_8) (NC p0 fun x39_5 =>
      RD Tryz.prog (Instr.fieldAt 58 x39_5 1) w1_8 (fun x40_5 =>
      RD Tryz.prog (Instr.loadAt 3 x40_5) w1_8 (fun x41_5 =>
      RD Tryz.prog (bo .add 3 (.tmp 41) (.const (.int .i64 1)) x41_5 (.int .i64 1)) w1_8 (fun x42_5 =>
      NC p0 fun x43_5 =>
      RD Tryz.prog (Instr.fieldAt 58 x43_5 1) w1_8 (fun x44_5 =>
      WU Tryz.prog (Instr.storeAt 3 x44_5 x42_5) w1_8 (fun w1_39 =>
      CA Tryz.prog 75 #[p0] w1_39 (fun x46_5 w1_40 =>
      WR Tryz.prog (Instr.alloc 69 true (.tuple #[])) w1_40 (fun x5_5 w1_41 =>
      WU Tryz.prog (Instr.storeAt 69 x5_5 x46_5) w1_41 (fun w1_42 =>
      RD Tryz.prog (Instr.fieldAt 60 x4 1) w1_42 (fun x47_5 =>
      RD Tryz.prog (Instr.loadAt 9 x47_5) w1_42 (fun x48_5 =>
      RD Tryz.prog (Instr.loadAt 69 x3) w1_42 (fun x49_5 =>
      RD Tryz.prog (Instr.loadAt 69 x5_5) w1_42 (fun x50_5 =>
      WR Tryz.prog (Instr.buildSlice 34 2 #[(0, x49_5), (1, x50_5)]) w1_42 (fun x51_5 w1_43 =>
      RD Tryz.prog (Instr.build 69 #[(0, (.int .u8 99)), (1, x48_5), (4, x51_5)]) w1_43 (fun x52_5 =>
      WU Tryz.prog (Instr.storeAt 69 x3 x52_5) w1_43 (fun w1_44 =>
      rec (sOf []) w1_44) (PX R)) (PX R)) (PX R)) (PX R)) (PX R)) (PX R)) (PX R)) (PX R)) (PX R)) (PC R)) (PX R)) (PX R)) (PX R)) (PX R)) (PX R)))) (PX R)) (PX R)) (PX R))) (PX R)) (PX R)) (PX R)) (PX R)) (PX R)) (PC R)) (j (sOf []) w1_5)) (PX R)) (PX R)) (PX R))
      (sOf []) w1_3)
    (fun s d w1_4 =>
    RD Tryz.prog (Instr.loadAt 69 x3) w1_4 (fun x53 =>
    WU Tryz.prog (Instr.storeAt 69 x2 x53) w1_4 (fun w1_45 =>
    RD Tryz.prog (Instr.loadAt 69 x2) w1_45 (fun r => R (.returned r) w1_45) NX) (PX R)) (PX R))) (PX R)) (PX R)) (PC R)) (PX R)
theorem sh_Pr_parser_product_ok {p0 : Value} {w : World} {R : Ending → World → Prop} (h : sh_Pr_parser_product p0 w R) : Calls Tryz.prog 41 #[p0] w R :=
  callsEq (args := [p0]) (good (fun n => match n with | 2 => [] | _ => []) (fun n => match n with | 7005 => some [] | _ => none) (fun _ => 0) (fun _ => none) (fun n => match n with | 2 => [] | _ => []) (fun n => match n with | 7005 => [] | _ => []) (fun _ => false) (fun n => match n with | 12 => true | 35 => true | 36 => true | 37 => true | _ => false)) Tryz.func41 rfl (by kernel_rfl) (by kernel_rfl) (Nat.le_of_ble_eq_true (by kernel_rfl)) [] (by kernel_rfl) h
def sh_Pr_parser_expr (p0 : Value) (w : World) (R : Ending → World → Prop) : Prop :=
  WR Tryz.prog (Instr.alloc 69 true (.tuple #[])) w (fun x2 w1 =>
  CA Tryz.prog 41 #[p0] w1 (fun x7 w1_1 =>
  WR Tryz.prog (Instr.alloc 69 true (.tuple #[])) w1_1 (fun x3 w1_2 =>
  WU Tryz.prog (Instr.storeAt 69 x3 x7) w1_2 (fun w1_3 =>
  JN (fun j =>
    LoopW (fun rec s_1 d_1 w1_5 =>
      NC p0 fun x9 =>
      RD Tryz.prog (Instr.fieldAt 58 x9 4) w1_5 (fun x10 =>
      RD Tryz.prog (Instr.loadAt 29 x10) w1_5 (fun x11 =>
      RD Tryz.prog (bo .eql 29 (.tmp 11) (.const (.int .i64 0)) x11 (.int .i64 0)) w1_5 (fun x12 =>
      BS x12 (CA Tryz.prog 16 #[p0] w1_5 (fun x14 w1_6 =>
      WR Tryz.prog (Instr.alloc 60 true (.tuple #[])) w1_6 (fun x4 w1_7 =>
      WU Tryz.prog (Instr.storeAt 60 x4 x14) w1_7 (fun w1_8 =>
      RD Tryz.prog (Instr.fieldAt 60 x4 0) w1_8 (fun x15 =>
      RD Tryz.prog (Instr.loadAt 5 x15) w1_8 (fun x16 =>
      RD Tryz.prog (bo .neq 5 (.tmp 16) (.const (.int .u8 115)) x16 (.int .u8 115)) w1_8 (fun x17 => BS x17 (
      BS (.bool true) (j (sOf []) w1_8) (NC p0 fun x29 =>
      RD Tryz.prog (Instr.fieldAt 58 x29 1) w1_8 (fun x30 =>
      RD Tryz.prog (Instr.loadAt 3 x30) w1_8 (fun x31 =>
      RD Tryz.prog (bo .add 3 (.tmp 31) (.const (.int .i64 1)) x31 (.int .i64 1)) w1_8 (fun x32 =>
      NC p0 fun x33 =>
      RD Tryz.prog (Instr.fieldAt 58 x33 1) w1_8 (fun x34 =>
      WU Tryz.prog (Instr.storeAt 3 x34 x32) w1_8 (fun w1_9 =>
      CA Tryz.prog 41 #[p0] w1_9 (fun x36 w1_10 =>
      WR Tryz.prog (Instr.alloc 69 true (.tuple #[])) w1_10 (fun x5 w1_11 =>
      WU Tryz.prog (Instr.storeAt 69 x5 x36) w1_11 (fun w1_12 =>
      RD Tryz.prog (Instr.fieldAt 60 x4 1) w1_12 (fun x37 =>
      RD Tryz.prog (Instr.loadAt 9 x37) w1_12 (fun x38 =>
      RD Tryz.prog (Instr.loadAt 69 x3) w1_12 (fun x39 =>
      RD Tryz.prog (Instr.loadAt 69 x5) w1_12 (fun x40 =>
      WR Tryz.prog (Instr.buildSlice 34 2 #[(0, x39), (1, x40)]) w1_12 (fun x41 w1_13 =>
      RD Tryz.prog (Instr.build 69 #[(0, (.int .u8 99)), (1, x38), (4, x41)]) w1_13 (fun x42 =>
      WU Tryz.prog (Instr.storeAt 69 x3 x42) w1_13 (fun w1_14 =>
      rec (sOf []) w1_14) (PX R)) (PX R)) (PX R)) (PX R)) (PX R)) (PX R)) (PX R)) (PX R)) (PX R)) (PC R)) (PX R)) (PX R)) (PX R)) (PX R)) (PX R))) (
      RD Tryz.prog (Instr.fieldAt 60 x4 1) w1_8 (fun x19 =>
      RD Tryz.prog (Instr.loadAt 9 x19) w1_8 (fun x20 =>
      RD Tryz.prog (bo .neq 9 (.tmp 20) (.const (.string (bs [43]))) x20 (.string (bs [43]))) w1_8 (fun x21 => BS x21 (
      RD Tryz.prog (Instr.fieldAt 60 x4 1) w1_8 (fun x23 =>
      RD Tryz.prog (Instr.loadAt 9 x23) w1_8 (fun x24 =>
      RD Tryz.prog (bo .neq 9 (.tmp 24) (.const (.string (bs [45]))) x24 (.string (bs [45]))) w1_8 (fun x25 =>
      BS x25 (j (sOf []) w1_8) (NC p0 fun x29_1 =>
      RD Tryz.prog (Instr.fieldAt 58 x29_1 1) w1_8 (fun x30_1 =>
      RD Tryz.prog (Instr.loadAt 3 x30_1) w1_8 (fun x31_1 =>
      RD Tryz.prog (bo .add 3 (.tmp 31) (.const (.int .i64 1)) x31_1 (.int .i64 1)) w1_8 (fun x32_1 =>
      NC p0 fun x33_1 =>
      RD Tryz.prog (Instr.fieldAt 58 x33_1 1) w1_8 (fun x34_1 =>
      WU Tryz.prog (Instr.storeAt 3 x34_1 x32_1) w1_8 (fun w1_15 =>
      CA Tryz.prog 41 #[p0] w1_15 (fun x36_1 w1_16 =>
      WR Tryz.prog (Instr.alloc 69 true (.tuple #[])) w1_16 (fun x5_1 w1_17 =>
      WU Tryz.prog (Instr.storeAt 69 x5_1 x36_1) w1_17 (fun w1_18 =>
      RD Tryz.prog (Instr.fieldAt 60 x4 1) w1_18 (fun x37_1 =>
      RD Tryz.prog (Instr.loadAt 9 x37_1) w1_18 (fun x38_1 =>
      RD Tryz.prog (Instr.loadAt 69 x3) w1_18 (fun x39_1 =>
      RD Tryz.prog (Instr.loadAt 69 x5_1) w1_18 (fun x40_1 =>
      WR Tryz.prog (Instr.buildSlice 34 2 #[(0, x39_1), (1, x40_1)]) w1_18 (fun x41_1 w1_19 =>
      RD Tryz.prog (Instr.build 69 #[(0, (.int .u8 99)), (1, x38_1), (4, x41_1)]) w1_19 (fun x42_1 =>
      WU Tryz.prog (Instr.storeAt 69 x3 x42_1) w1_19 (fun w1_20 =>
      rec (sOf []) w1_20) (PX R)) (PX R)) (PX R)) (PX R)) (PX R)) (PX R)) (PX R)) (PX R)) (PX R)) (PC R)) (PX R)) (PX R)) (PX R)) (PX R)) (PX R))) (PX R)) (PX R)) (PX R)) (
      BS (.bool false) (j (sOf []) w1_8) (NC p0 fun x29_2 =>
      RD Tryz.prog (Instr.fieldAt 58 x29_2 1) w1_8 (fun x30_2 =>
      RD Tryz.prog (Instr.loadAt 3 x30_2) w1_8 (fun x31_2 =>
      RD Tryz.prog (bo .add 3 (.tmp 31) (.const (.int .i64 1)) x31_2 (.int .i64 1)) w1_8 (fun x32_2 =>
      NC p0 fun x33_2 =>
      RD Tryz.prog (Instr.fieldAt 58 x33_2 1) w1_8 (fun x34_2 =>
      WU Tryz.prog (Instr.storeAt 3 x34_2 x32_2) w1_8 (fun w1_21 =>
      CA Tryz.prog 41 #[p0] w1_21 (fun x36_2 w1_22 =>
      WR Tryz.prog (Instr.alloc 69 true (.tuple #[])) w1_22 (fun x5_2 w1_23 =>
      WU Tryz.prog (Instr.storeAt 69 x5_2 x36_2) w1_23 (fun w1_24 =>
      RD Tryz.prog (Instr.fieldAt 60 x4 1) w1_24 (fun x37_2 =>
      RD Tryz.prog (Instr.loadAt 9 x37_2) w1_24 (fun x38_2 =>
      RD Tryz.prog (Instr.loadAt 69 x3) w1_24 (fun x39_2 =>
      RD Tryz.prog (Instr.loadAt 69 x5_2) w1_24 (fun x40_2 =>
      WR Tryz.prog (Instr.buildSlice 34 2 #[(0, x39_2), (1, x40_2)]) w1_24 (fun x41_2 w1_25 =>
      RD Tryz.prog (Instr.build 69 #[(0, (.int .u8 99)), (1, x38_2), (4, x41_2)]) w1_25 (fun x42_2 =>
      WU Tryz.prog (Instr.storeAt 69 x3 x42_2) w1_25 (fun w1_26 =>
      rec (sOf []) w1_26) (PX R)) (PX R)) (PX R)) (PX R)) (PX R)) (PX R)) (PX R)) (PX R)) (PX R)) (PC R)) (PX R)) (PX R)) (PX R)) (PX R)) (PX R)))) (PX R)) (PX R)) (PX R))) (PX R)) (PX R)) (PX R)) (PX R)) (PX R)) (PC R)) (j (sOf []) w1_5)) (PX R)) (PX R)) (PX R))
      (sOf []) w1_3)
    (fun s d w1_4 =>
    RD Tryz.prog (Instr.loadAt 69 x3) w1_4 (fun x43 =>
    WU Tryz.prog (Instr.storeAt 69 x2 x43) w1_4 (fun w1_27 =>
    RD Tryz.prog (Instr.loadAt 69 x2) w1_27 (fun r => R (.returned r) w1_27) NX) (PX R)) (PX R))) (PX R)) (PX R)) (PC R)) (PX R)
theorem sh_Pr_parser_expr_ok {p0 : Value} {w : World} {R : Ending → World → Prop} (h : sh_Pr_parser_expr p0 w R) : Calls Tryz.prog 22 #[p0] w R :=
  callsEq (args := [p0]) (good (fun n => match n with | 2 => [] | _ => []) (fun n => match n with | 7005 => some [] | _ => none) (fun _ => 0) (fun _ => none) (fun n => match n with | 2 => [] | _ => []) (fun n => match n with | 7005 => [] | _ => []) (fun _ => false) (fun n => match n with | 12 => true | 25 => true | 26 => true | 27 => true | _ => false)) Tryz.func22 rfl (by kernel_rfl) (by kernel_rfl) (Nat.le_of_ble_eq_true (by kernel_rfl)) [] (by kernel_rfl) h
def sh_r_Tests (p0 : Value) (w : World) (R : Ending → World → Prop) : Prop :=
  JN (fun j =>
    RD Tryz.prog (bo .eql 9 (.tmp 3) (.const (.string (bs [116, 114, 117, 101]))) p0 (.string (bs [116, 114, 117, 101]))) w (fun x5 =>
    BS x5 (j (sOf [(4, x5)]) w) (RD Tryz.prog (bo .eql 9 (.tmp 3) (.const (.string (bs [102, 97, 105, 108]))) p0 (.string (bs [102, 97, 105, 108]))) w (fun x6 =>
    j (sOf [(4, x6)]) w) (PX R))) (PX R))
    (fun s d w1 =>
    BS (s 4) (R (.returned (.int .i64 0)) w1) (JN (fun j_1 =>
      RD Tryz.prog (bo .eql 9 (.tmp 3) (.const (.string (bs [118, 97, 114]))) p0 (.string (bs [118, 97, 114]))) w1 (fun x8 =>
      BS x8 (j_1 (sOf [(7, x8)]) w1) (RD Tryz.prog (bo .eql 9 (.tmp 3) (.const (.string (bs [110, 111, 110, 118, 97, 114]))) p0 (.string (bs [110, 111, 110, 118, 97, 114]))) w1 (fun x9 =>
      BS x9 (j_1 (sOf [(7, x9)]) w1) (RD Tryz.prog (bo .eql 9 (.tmp 3) (.const (.string (bs [97, 116, 111, 109]))) p0 (.string (bs [97, 116, 111, 109]))) w1 (fun x10 =>
      BS x10 (j_1 (sOf [(7, x10)]) w1) (RD Tryz.prog (bo .eql 9 (.tmp 3) (.const (.string (bs [105, 110, 116, 101, 103, 101, 114]))) p0 (.string (bs [105, 110, 116, 101, 103, 101, 114]))) w1 (fun x11 =>
      j_1 (sOf [(7, x11)]) w1) (PX R))) (PX R))) (PX R))) (PX R))
      (fun s_1 d_1 w1_1 =>
      BS (s_1 7) (R (.returned (.int .i64 1)) w1_1) (JN (fun j_2 =>
        RD Tryz.prog (bo .eql 9 (.tmp 3) (.const (.string (bs [61]))) p0 (.string (bs [61]))) w1_1 (fun x13 =>
        BS x13 (j_2 (sOf [(12, x13)]) w1_1) (RD Tryz.prog (bo .eql 9 (.tmp 3) (.const (.string (bs [92, 61]))) p0 (.string (bs [92, 61]))) w1_1 (fun x14 =>
        BS x14 (j_2 (sOf [(12, x14)]) w1_1) (RD Tryz.prog (bo .eql 9 (.tmp 3) (.const (.string (bs [61, 61]))) p0 (.string (bs [61, 61]))) w1_1 (fun x15 =>
        BS x15 (j_2 (sOf [(12, x15)]) w1_1) (RD Tryz.prog (bo .eql 9 (.tmp 3) (.const (.string (bs [105, 115]))) p0 (.string (bs [105, 115]))) w1_1 (fun x16 =>
        BS x16 (j_2 (sOf [(12, x16)]) w1_1) (RD Tryz.prog (bo .eql 9 (.tmp 3) (.const (.string (bs [60]))) p0 (.string (bs [60]))) w1_1 (fun x17 =>
        BS x17 (j_2 (sOf [(12, x17)]) w1_1) (RD Tryz.prog (bo .eql 9 (.tmp 3) (.const (.string (bs [62]))) p0 (.string (bs [62]))) w1_1 (fun x18 =>
        BS x18 (j_2 (sOf [(12, x18)]) w1_1) (RD Tryz.prog (bo .eql 9 (.tmp 3) (.const (.string (bs [61, 60]))) p0 (.string (bs [61, 60]))) w1_1 (fun x19 =>
        BS x19 (j_2 (sOf [(12, x19)]) w1_1) (RD Tryz.prog (bo .eql 9 (.tmp 3) (.const (.string (bs [62, 61]))) p0 (.string (bs [62, 61]))) w1_1 (fun x20 =>
        BS x20 (j_2 (sOf [(12, x20)]) w1_1) (RD Tryz.prog (bo .eql 9 (.tmp 3) (.const (.string (bs [61, 58, 61]))) p0 (.string (bs [61, 58, 61]))) w1_1 (fun x21 =>
        j_2 (sOf [(12, x21)]) w1_1) (PX R))) (PX R))) (PX R))) (PX R))) (PX R))) (PX R))) (PX R))) (PX R))) (PX R))
        (fun s_2 d_2 w1_2 =>
        BS (s_2 12) (R (.returned (.int .i64 2)) w1_2) (R (.returned (.int .i64 (-1))) w1_2))))))
theorem sh_r_Tests_ok {p0 : Value} {w : World} {R : Ending → World → Prop} (h : sh_r_Tests p0 w R) : Calls Tryz.prog 35 #[p0] w R :=
  callsEq (args := [p0]) (good (fun _ => []) (fun n => match n with | 3001 => some [4] | 8003 => some [7] | 18008 => some [12] | _ => none) (fun _ => 0) (fun _ => none) (fun _ => []) (fun n => match n with | 3001 => [] | 8003 => [] | 18008 => [] | _ => []) (fun _ => false) (fun n => match n with | 4 => true | 5 => true | 6 => true | 7 => true | 8 => true | 9 => true | 10 => true | 11 => true | 12 => true | 13 => true | 14 => true | 15 => true | 16 => true | 17 => true | 18 => true | 19 => true | 20 => true | 21 => true | _ => false)) Tryz.func35 rfl (by kernel_rfl) (by kernel_rfl) (Nat.le_of_ble_eq_true (by kernel_rfl)) [] (by kernel_rfl) h
end Go.Proofs.YtkmpelgfhjgddaaGreatDoor
