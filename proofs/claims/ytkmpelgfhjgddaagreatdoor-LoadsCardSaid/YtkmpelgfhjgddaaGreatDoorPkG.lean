/- A part of one proof (ShL1, ShS1, ShS2); no conditions beyond what each theorem names. -/
import Derived.Test.YtkmpelgfhjgddaaGreatDoorPkE
set_option linter.all false
set_option linter.unusedVariables false
set_option linter.unusedSimpArgs false
namespace Go.Proofs.YtkmpelgfhjgddaaGreatDoor
open Go.Proofs.YtkmpelgfhjgddaaGreatDoor.Sx
set_option maxRecDepth 100000
set_option linter.unusedVariables false
def sh_l_loaded (p0 : Value) (w : World) (R : Ending → World → Prop) : Prop :=
  WR Tryz.prog (Instr.alloc 25 true (.tuple #[])) w (fun x2 w1 =>
  CA Tryz.prog 7 #[p0] w1 (fun x15 w1_1 =>
  RD Tryz.prog (Instr.extract x15 0) w1_1 (fun x16 =>
  RD Tryz.prog (Instr.extract x15 1) w1_1 (fun x17 =>
  RD Tryz.prog (Instr.extract x15 2) w1_1 (fun x18 =>
  CA Tryz.prog 8 #[p0] w1_1 (fun x21 w1_2 =>
  RD Tryz.prog (Instr.extract x21 0) w1_2 (fun x22 =>
  RD Tryz.prog (Instr.extract x21 1) w1_2 (fun x23 =>
  RD Tryz.prog (Instr.extract x21 2) w1_2 (fun x24 =>
  RD Tryz.prog (bo .neq 29 (.tmp 25) (.const (.int .i64 0)) x23 (.int .i64 0)) w1_2 (fun x26 =>
  BS x26 (RD Tryz.prog (Instr.build 25 #[]) w1_2 (fun x27 =>
  RD Tryz.prog (bo .eql 29 (.tmp 28) (.tmp 29) x17 x23) w1_2 (fun x30 => BS x30 (
  RD Tryz.prog (bo .eql 3 (.tmp 32) (.tmp 33) x18 x24) w1_2 (fun x34 => BS x34 (
  RD Tryz.prog (bo .eql 22 (.tmp 37) (.const (.pointer none)) x16 (.pointer none)) w1_2 (fun x38 =>
  WU Tryz.prog (Instr.storeAt 25 x2 x27) w1_2 (fun w1_3 =>
  RD Tryz.prog (Instr.loadAt 25 x2) w1_3 (fun r => R (.returned (.tuple #[r, x38])) w1_3) NX) (PX R)) (PX R)) (
  WU Tryz.prog (Instr.storeAt 25 x2 x27) w1_2 (fun w1_4 =>
  RD Tryz.prog (Instr.loadAt 25 x2) w1_4 (fun r_1 => R (.returned (.tuple #[r_1, (.bool false)])) w1_4) NX) (PX R))) (PX R)) (
  WU Tryz.prog (Instr.storeAt 25 x2 x27) w1_2 (fun w1_5 =>
  RD Tryz.prog (Instr.loadAt 25 x2) w1_5 (fun r_2 => R (.returned (.tuple #[r_2, (.bool false)])) w1_5) NX) (PX R))) (PX R)) (PX R)) (RD Tryz.prog (Instr.build 25 #[(0, x16), (1, x22)]) w1_2 (fun x42 =>
  WR Tryz.prog (Instr.alloc 25 true (.tuple #[])) w1_2 (fun x10 w1_6 =>
  WU Tryz.prog (Instr.storeAt 25 x10 x42) w1_6 (fun w1_7 =>
  LoopW (fun rec s d w1_8 =>
    RD Tryz.prog (Builtin.len_ #[23] 3 #[x22]) w1_8 (fun x45 =>
    RD Tryz.prog (bo .lss 3 (.tmp 43) (.tmp 45) (s 11) x45) w1_8 (fun x46 =>
    BS x46 (JS (fun j =>
      RD Tryz.prog (Instr.indexAt 23 x22 (s 11)) w1_8 (fun x51 =>
      RD Tryz.prog (Instr.loadAt 40 x51) w1_8 (fun x52 =>
      CA Tryz.prog 9 #[x52] w1_8 (fun x53 w1_10 =>
      RD Tryz.prog (Instr.fieldAt 25 x10 2) w1_10 (fun x54 =>
      RD Tryz.prog (Instr.loadAt 4 x54) w1_10 (fun x55 => BS x55 (
      RD Tryz.prog (Instr.fieldAt 25 x10 2) w1_10 (fun x60 =>
      WU Tryz.prog (Instr.storeAt 4 x60 (.bool true)) w1_10 (fun w1_11 =>
      j (sOf []) w1_11) (PX R)) (PX R)) (
      RD Tryz.prog (bo .gtr 3 (.tmp 57) (.const (.int .i64 50)) x53 (.int .i64 50)) w1_10 (fun x58 =>
      RD Tryz.prog (Instr.fieldAt 25 x10 2) w1_10 (fun x60_1 =>
      WU Tryz.prog (Instr.storeAt 4 x60_1 x58) w1_10 (fun w1_12 =>
      j (sOf []) w1_12) (PX R)) (PX R)) (PX R))) (PX R)) (PX R)) (PC R)) (PX R)) (PX R))
      (fun s_1 d_1 w1_9 =>
      RD Tryz.prog (bo .add 3 (.tmp 47) (.const (.int .i64 1)) (s 11) (.int .i64 1)) w1_9 (fun x48 =>
      rec (sOf [(11, x48)]) w1_9) (PX R))) (RD Tryz.prog (Instr.loadAt 25 x10) w1_8 (fun x61 =>
  RD Tryz.prog (bo .eql 29 (.tmp 62) (.const (.int .i64 0)) x17 (.int .i64 0)) w1_8 (fun x63 => BS x63 (
  RD Tryz.prog (bo .neq 22 (.tmp 65) (.const (.pointer none)) x16 (.pointer none)) w1_8 (fun x66 =>
  WU Tryz.prog (Instr.storeAt 25 x2 x61) w1_8 (fun w1_13 =>
  RD Tryz.prog (Instr.loadAt 25 x2) w1_13 (fun r_3 => R (.returned (.tuple #[r_3, x66])) w1_13) NX) (PX R)) (PX R)) (
  WU Tryz.prog (Instr.storeAt 25 x2 x61) w1_8 (fun w1_14 =>
  RD Tryz.prog (Instr.loadAt 25 x2) w1_14 (fun r_4 => R (.returned (.tuple #[r_4, (.bool false)])) w1_14) NX) (PX R))) (PX R)) (PX R))) (PX R)) (PX R))
    (sOf [(11, (.int .i64 0))]) w1_7) (PX R)) (PX R)) (PX R))) (PX R)) (PX R)) (PX R)) (PX R)) (PC R)) (PX R)) (PX R)) (PX R)) (PC R)) (PX R)
theorem sh_l_loaded_ok {p0 : Value} {w : World} {R : Ending → World → Prop} (h : sh_l_loaded p0 w R) : Calls Tryz.prog 5 #[p0] w R :=
  callsEq (args := [p0]) (good (fun n => match n with | 7 => [11] | _ => []) (fun n => match n with | 10001 => some [] | _ => none) (fun _ => 0) (fun _ => none) (fun n => match n with | 7 => [] | _ => []) (fun n => match n with | 10001 => [] | _ => []) (fun n => match n with | 10001 => true | _ => false) (fun n => match n with | 3 => true | 26 => true | 38 => true | 39 => true | 46 => true | 58 => true | 59 => true | 66 => true | 67 => true | _ => false)) Tryz.func5 rfl (by kernel_rfl) (by kernel_rfl) (Nat.le_of_ble_eq_true (by kernel_rfl)) [] (by kernel_rfl) h
def sh_l_Loads (p0 : Value) (w : World) (R : Ending → World → Prop) : Prop :=
  RD Tryz.prog (Builtin.len_ #[9] 3 #[p0]) w (fun x6 =>
  RD Tryz.prog (bo .gtr 3 (.tmp 6) (.const (.int .i64 32768)) x6 (.int .i64 32768)) w (fun x7 =>
  BS x7 (R (.returned (.bool true)) w) (CA Tryz.prog 5 #[p0] w (fun x10 w1 =>
  RD Tryz.prog (Instr.extract x10 0) w1 (fun x11 =>
  RD Tryz.prog (Instr.extract x10 1) w1 (fun x12 =>
  WR Tryz.prog (Instr.alloc 25 true (.tuple #[])) w1 (fun x3 w1_1 =>
  WU Tryz.prog (Instr.storeAt 25 x3 x11) w1_1 (fun w1_2 =>
  R (.returned x12) w1_2) (PX R)) (PX R)) (PX R)) (PX R)) (PC R))) (PX R)) (PX R)
theorem sh_l_Loads_ok {p0 : Value} {w : World} {R : Ending → World → Prop} (h : sh_l_Loads p0 w R) : Calls Tryz.prog 3 #[p0] w R :=
  callsEq (args := [p0]) (good (fun _ => []) (fun _ => none) (fun _ => 0) (fun _ => none) (fun _ => []) (fun _ => []) (fun _ => false) (fun n => match n with | 2 => true | 4 => true | 7 => true | 12 => true | 13 => true | _ => false)) Tryz.func3 rfl (by kernel_rfl) (by kernel_rfl) (Nat.le_of_ble_eq_true (by kernel_rfl)) [] (by kernel_rfl) h
def sh_p_Load (p0 : Value) (w : World) (R : Ending → World → Prop) : Prop :=
  CA Tryz.prog 13 #[p0] w (fun x11 w1 =>
  RD Tryz.prog (Instr.extract x11 0) w1 (fun x12 =>
  RD Tryz.prog (Instr.extract x11 1) w1 (fun x13 =>
  CA Tryz.prog 14 #[x13] w1 (fun x16 w1_1 =>
  RD Tryz.prog (Instr.extract x16 0) w1_1 (fun x17 =>
  RD Tryz.prog (Instr.extract x16 1) w1_1 (fun x18 =>
  R (.returned (.tuple #[x12, x17, x18])) w1_1) (PX R)) (PX R)) (PC R)) (PX R)) (PX R)) (PC R)
theorem sh_p_Load_ok {p0 : Value} {w : World} {R : Ending → World → Prop} (h : sh_p_Load p0 w R) : Calls Tryz.prog 7 #[p0] w R :=
  callsEq (args := [p0]) (good (fun _ => []) (fun _ => none) (fun _ => 0) (fun _ => none) (fun _ => []) (fun _ => []) (fun _ => false) (fun _ => false)) Tryz.func7 rfl (by kernel_rfl) (by kernel_rfl) (Nat.le_of_ble_eq_true (by kernel_rfl)) [] (by kernel_rfl) h
def sh_h_Load (p0 : Value) (w : World) (R : Ending → World → Prop) : Prop :=
  CA Tryz.prog 28 #[p0] w (fun x8 w1 =>
  RD Tryz.prog (Instr.extract x8 0) w1 (fun x9 =>
  RD Tryz.prog (Instr.extract x8 1) w1 (fun x10 =>
  RD Tryz.prog (bo .neq 48 (.tmp 11) (.const .nilIface) x10 .nilIface) w1 (fun x12 =>
  BS x12 (R (.returned (.tuple #[(.pointer none), x10])) w1) (RD Tryz.prog (Instr.build 84 #[(0, x9)]) w1 (fun x15 =>
  WR Tryz.prog (Instr.box 84 x15) w1 (fun x16 w1_1 =>
  R (.returned (.tuple #[x16, .nilIface])) w1_1) (PX R)) (PX R))) (PX R)) (PX R)) (PX R)) (PC R)
theorem sh_h_Load_ok {p0 : Value} {w : World} {R : Ending → World → Prop} (h : sh_h_Load p0 w R) : Calls Tryz.prog 13 #[p0] w R :=
  callsEq (args := [p0]) (good (fun _ => []) (fun _ => none) (fun _ => 0) (fun _ => none) (fun _ => []) (fun _ => []) (fun _ => false) (fun n => match n with | 12 => true | _ => false)) Tryz.func13 rfl (by kernel_rfl) (by kernel_rfl) (Nat.le_of_ble_eq_true (by kernel_rfl)) [] (by kernel_rfl) h
def sh_r_Clause_Size (p0 : Value) (w : World) (R : Ending → World → Prop) : Prop :=
  WR Tryz.prog (Instr.box 40 p0) w (fun x1 w1 =>
  HD fun S => S w1.drew ∧
  RDS Tryz.prog (Instr.fieldAt 40 x1 1) S (fun x3 =>
  RDS Tryz.prog (Instr.loadAt 34 x3) S (fun x4 =>
  RDS Tryz.prog (Instr.fieldAt 40 x1 2) S (fun x6 =>
  RDS Tryz.prog (Instr.loadAt 37 x6) S (fun x7 =>
  CA Tryz.prog 19 #[x4] w1.drew (fun x5 w1_1 =>
  S w1_1 ∧
  CA Tryz.prog 20 #[x7] w1_1 (fun x8 w1_2 =>
  RD Tryz.prog (bo .add 3 (.tmp 5) (.tmp 8) x5 x8) w1_2 (fun x9 =>
  R (.returned x9) w1_2) NX) NC0) NC0))))) (PX R)
theorem sh_r_Clause_Size_ok {p0 : Value} {w : World} {R : Ending → World → Prop} (h : sh_r_Clause_Size p0 w R) : Calls Tryz.prog 9 #[p0] w R :=
  callsEq (args := [p0]) (good (fun _ => []) (fun _ => none) (fun _ => 0) (fun n => match n with | 1 => some [6, 0, 1, 3, 4, 2, 5, 6, 7] | _ => none) (fun _ => []) (fun _ => []) (fun _ => false) (fun _ => false)) Tryz.func9 rfl (by kernel_rfl) (by kernel_rfl) (Nat.le_of_ble_eq_true (by kernel_rfl)) [] (by kernel_rfl) h
def sh_r_weight (p0 : Value) (w : World) (R : Ending → World → Prop) : Prop :=
  WR Tryz.prog (Instr.box 37 p0) w (fun x1 w1 =>
  RD Tryz.prog (Instr.fieldAt 37 x1 2) w1 (fun x6 =>
  RD Tryz.prog (Instr.loadAt 34 x6) w1 (fun x7 =>
  CA Tryz.prog 19 #[x7] w1 (fun x8 w1_1 =>
  JS (fun j =>
    JS (fun j_1 =>
      RD Tryz.prog (Instr.fieldAt 37 x1 0) w1_1 (fun x9 =>
      RD Tryz.prog (Instr.loadAt 5 x9) w1_1 (fun x10 =>
      RD Tryz.prog (bo .eql 5 (.tmp 10) (.const (.int .u8 63)) x10 (.int .u8 63)) w1_1 (fun x11 => BS x11 (
      j_1 (sOf [(16, (.bool true))]) w1_1) (
      RD Tryz.prog (Instr.fieldAt 37 x1 0) w1_1 (fun x13 =>
      RD Tryz.prog (Instr.loadAt 5 x13) w1_1 (fun x14 =>
      RD Tryz.prog (bo .eql 5 (.tmp 14) (.const (.int .u8 126)) x14 (.int .u8 126)) w1_1 (fun x15 =>
      j_1 (sOf [(16, x15)]) w1_1) (PX R)) (PX R)) (PX R))) (PX R)) (PX R)) (PX R))
      (fun s_1 d_1 w1_3 =>
      BS (s_1 16) (RD Tryz.prog (bo .add 3 (.tmp 17) (.const (.int .i64 1)) x8 (.int .i64 1)) w1_3 (fun x18 =>
      j (sOf [(3, x18)]) w1_3) (PX R)) (j (sOf [(3, x8)]) w1_3)))
    (fun s d w1_2 =>
    LoopW (fun rec s_2 d_2 w1_4 =>
      RD Tryz.prog (Instr.fieldAt 37 x1 3) w1_4 (fun x20 =>
      RD Tryz.prog (Instr.loadAt 35 x20) w1_4 (fun x21 =>
      RD Tryz.prog (Builtin.len_ #[35] 3 #[x21]) w1_4 (fun x22 =>
      RD Tryz.prog (bo .lss 3 (.tmp 19) (.tmp 22) (s_2 4) x22) w1_4 (fun x23 =>
      BS x23 (RD Tryz.prog (Instr.fieldAt 37 x1 3) w1_4 (fun x26 =>
      RD Tryz.prog (Instr.loadAt 35 x26) w1_4 (fun x27 =>
      RD Tryz.prog (Instr.indexAt 35 x27 (s_2 4)) w1_4 (fun x29 =>
      RD Tryz.prog (Instr.loadAt 37 x29) w1_4 (fun x30 =>
      CA Tryz.prog 20 #[x30] w1_4 (fun x31 w1_5 =>
      RD Tryz.prog (bo .add 3 (.tmp 32) (.tmp 33) (s_2 3) x31) w1_5 (fun x34 =>
      RD Tryz.prog (bo .add 3 (.tmp 24) (.const (.int .i64 1)) (s_2 4) (.int .i64 1)) w1_5 (fun x25 =>
      rec (sOf [(3, x34), (4, x25)]) w1_5) (PX R)) (PX R)) (PC R)) (PX R)) (PX R)) (PX R)) (PX R)) (R (.returned (s_2 3)) w1_4)) (PX R)) (PX R)) (PX R)) (PX R))
      (sOf [(3, (s 3)), (4, (.int .i64 0))]) w1_2)) (PC R)) (PX R)) (PX R)) (PX R)
theorem sh_r_weight_ok {p0 : Value} {w : World} {R : Ending → World → Prop} (h : sh_r_weight p0 w R) : Calls Tryz.prog 20 #[p0] w R :=
  callsEq (args := [p0]) (good (fun n => match n with | 5 => [3, 4] | _ => []) (fun n => match n with | 2000 => some [16] | 3001 => some [3] | _ => none) (fun _ => 0) (fun _ => none) (fun n => match n with | 5 => [] | _ => []) (fun n => match n with | 2000 => [] | 3001 => [] | _ => []) (fun n => match n with | 2000 => true | 3001 => true | _ => false) (fun n => match n with | 15 => true | 16 => true | 23 => true | _ => false)) Tryz.func20 rfl (by kernel_rfl) (by kernel_rfl) (Nat.le_of_ble_eq_true (by kernel_rfl)) [] (by kernel_rfl) h
end Go.Proofs.YtkmpelgfhjgddaaGreatDoor
namespace Go.Proofs.YtkmpelgfhjgddaaGreatDoor
open Go.Proofs.YtkmpelgfhjgddaaGreatDoor.Sx
set_option maxRecDepth 100000
set_option linter.unusedVariables false
def sh_s_lex (p0 : Value) (w : World) (R : Ending → World → Prop) : Prop :=
  JS (fun j =>
    RD Tryz.prog (Builtin.len_ #[9] 3 #[p0]) w (fun x10 =>
    RD Tryz.prog (bo .gtr 3 (.tmp 10) (.const (.int .i64 2000)) x10 (.int .i64 2000)) w (fun x11 =>
    BS x11 (CA Tryz.prog 50 #[(.int .i64 1), (.int .i64 0)] w (fun x12 w1_1 =>
    j (sOf []) w1_1) (PC R)) (j (sOf []) w)) (PX R)) (PX R))
    (fun s d w1 =>
    LoopW (fun rec s_1 d_1 w1_2 =>
      RD Tryz.prog (Builtin.len_ #[9] 3 #[p0]) w1_2 (fun x15 =>
      RD Tryz.prog (bo .lss 3 (.tmp 13) (.tmp 15) (s_1 3) x15) w1_2 (fun x16 =>
      BS x16 (RD Tryz.prog (Instr.index 9 p0 (s_1 3)) w1_2 (fun x19 =>
      JS (fun j_1 =>
        JS (fun j_2 =>
          RD Tryz.prog (bo .eql 5 (.tmp 20) (.const (.int .u8 32)) x19 (.int .u8 32)) w1_2 (fun x21 => BS x21 (
          j_2 (sOf [(25, (.bool true))]) w1_2) (
          RD Tryz.prog (bo .eql 5 (.tmp 23) (.const (.int .u8 10)) x19 (.int .u8 10)) w1_2 (fun x24 =>
          j_2 (sOf [(25, x24)]) w1_2) (PX R))) (PX R))
          (fun s_3 d_3 w1_4 =>
          BS (s_3 25) (RD Tryz.prog (bo .add 3 (.tmp 26) (.const (.int .i64 1)) (s_1 3) (.int .i64 1)) w1_4 (fun x27 =>
          rec (sOf [(2, (s_1 2)), (3, x27)]) w1_4) (PX R)) (j_1 (sOf [(3, (s_1 3))]) w1_4)))
        (fun s_2 d_2 w1_3 =>
        CA Tryz.prog 94 #[x19] w1_3 (fun x29 w1_5 =>
        RD Tryz.prog (bo .neq 5 (.tmp 30) (.const (.int .u8 0)) x29 (.int .u8 0)) w1_5 (fun x31 =>
        BS x31 (JS (fun j_3 =>
          LoopW (fun rec_1 s_5 d_5 w1_7 =>
            RD Tryz.prog (Builtin.len_ #[9] 3 #[p0]) w1_7 (fun x35 =>
            RD Tryz.prog (bo .lss 3 (.tmp 33) (.tmp 35) (s_5 6) x35) w1_7 (fun x36 => BS x36 (
            RD Tryz.prog (Instr.index 9 p0 (s_5 6)) w1_7 (fun x40 =>
            CA Tryz.prog 94 #[x40] w1_7 (fun x41 w1_8 =>
            RD Tryz.prog (bo .neq 5 (.tmp 41) (.const (.int .u8 0)) x41 (.int .u8 0)) w1_8 (fun x42 =>
            BS x42 (RD Tryz.prog (bo .add 3 (.tmp 44) (.const (.int .i64 1)) (s_5 6) (.int .i64 1)) w1_8 (fun x45 =>
            rec_1 (sOf [(6, x45)]) w1_8) (PX R)) (j_3 (sOf [(6, (s_5 6))]) w1_8)) (PX R)) (PC R)) (PX R)) (
            BS (.bool false) (RD Tryz.prog (bo .add 3 (.tmp 44) (.const (.int .i64 1)) (s_5 6) (.int .i64 1)) w1_7 (fun x45_1 =>
            rec_1 (sOf [(6, x45_1)]) w1_7) (PX R)) (j_3 (sOf [(6, (s_5 6))]) w1_7))) (PX R)) (PX R))
            (sOf [(6, (s_2 3))]) w1_5)
          (fun s_4 d_4 w1_6 =>
          RD Tryz.prog (Instr.sliceAt 9 p0 (some (s_2 3)) (some (s_4 6)) none) w1_6 (fun x50 =>
          CA Tryz.prog 95 #[x50, (s_2 3), x29] w1_6 (fun x53 w1_9 =>
          WR Tryz.prog (Instr.buildSlice 140 1 #[(0, x53)]) w1_9 (fun x54 w1_10 =>
          WR Tryz.prog (Builtin.append_ #[140, 140] 140 #[(s_1 2), x54]) w1_10 (fun x55 w1_11 =>
          rec (sOf [(2, x55), (3, (s_4 6))]) w1_11) (PX R)) (PX R)) (PC R)) (PX R))) (JS (fun j_4 =>
          JS (fun j_5 =>
            RD Tryz.prog (bo .eql 5 (.tmp 57) (.const (.int .u8 46)) x19 (.int .u8 46)) w1_5 (fun x58 => BS x58 (
            RD Tryz.prog (bo .add 3 (.tmp 60) (.const (.int .i64 1)) (s_2 3) (.int .i64 1)) w1_5 (fun x61 =>
            RD Tryz.prog (Builtin.len_ #[9] 3 #[p0]) w1_5 (fun x63 =>
            RD Tryz.prog (bo .eql 3 (.tmp 61) (.tmp 63) x61 x63) w1_5 (fun x64 => BS x64 (
            j_5 (sOf [(79, (.bool true))]) w1_5) (
            RD Tryz.prog (bo .add 3 (.tmp 67) (.const (.int .i64 1)) (s_2 3) (.int .i64 1)) w1_5 (fun x68 =>
            RD Tryz.prog (Instr.index 9 p0 x68) w1_5 (fun x69 =>
            RD Tryz.prog (bo .eql 5 (.tmp 69) (.const (.int .u8 32)) x69 (.int .u8 32)) w1_5 (fun x70 => BS x70 (
            j_5 (sOf [(79, (.bool true))]) w1_5) (
            RD Tryz.prog (bo .add 3 (.tmp 74) (.const (.int .i64 1)) (s_2 3) (.int .i64 1)) w1_5 (fun x75 =>
            RD Tryz.prog (Instr.index 9 p0 x75) w1_5 (fun x76 =>
            RD Tryz.prog (bo .eql 5 (.tmp 76) (.const (.int .u8 10)) x76 (.int .u8 10)) w1_5 (fun x77 =>
            j_5 (sOf [(79, x77)]) w1_5) (PX R)) (PX R)) (PX R))) (PX R)) (PX R)) (PX R))) (PX R)) (PX R)) (PX R)) (
            j_5 (sOf [(79, (.bool false))]) w1_5)) (PX R))
            (fun s_7 d_7 w1_13 =>
            BS (s_7 79) (RD Tryz.prog (Instr.build 139 #[(0, (.int .i64 4)), (1, (.string (bs [46]))), (2, (s_2 3))]) w1_13 (fun x82 =>
            WR Tryz.prog (Instr.buildSlice 140 1 #[(0, x82)]) w1_13 (fun x83 w1_14 =>
            WR Tryz.prog (Builtin.append_ #[140, 140] 140 #[(s_1 2), x83]) w1_14 (fun x84 w1_15 =>
            RD Tryz.prog (bo .add 3 (.tmp 85) (.const (.int .i64 1)) (s_2 3) (.int .i64 1)) w1_15 (fun x86 =>
            rec (sOf [(2, x84), (3, x86)]) w1_15) (PX R)) (PX R)) (PX R)) (PX R)) (j_4 (sOf [(2, (s_1 2)), (3, (s_2 3))]) w1_13)))
          (fun s_6 d_6 w1_12 =>
          RD Tryz.prog (Instr.loadAt 206 (.pointer (some ⟨1, 0, none⟩))) w1_12 (fun x87 =>
          LoopW (fun rec_2 s_8 d_8 w1_16 =>
            RD Tryz.prog (bo .lss 3 (.tmp 88) (.const (.int .i64 23)) (s_8 88) (.int .i64 23)) w1_16 (fun x89 =>
            BS x89 (RD Tryz.prog (Instr.index 206 x87 (s_8 88)) w1_16 (fun x90 =>
            RD Tryz.prog (Instr.sliceAt 9 p0 (some (s_8 3)) none none) w1_16 (fun x93 =>
            CA Tryz.prog 96 #[x93, x90] w1_16 (fun x95 w1_17 =>
            BS x95 (RD Tryz.prog (Instr.build 139 #[(0, (.int .i64 4)), (1, x90), (2, (s_8 3))]) w1_17 (fun x99 =>
            WR Tryz.prog (Instr.buildSlice 140 1 #[(0, x99)]) w1_17 (fun x100 w1_18 =>
            WR Tryz.prog (Builtin.append_ #[140, 140] 140 #[(s_8 2), x100]) w1_18 (fun x101 w1_19 =>
            RD Tryz.prog (Builtin.len_ #[9] 3 #[x90]) w1_19 (fun x104 =>
            RD Tryz.prog (bo .add 3 (.tmp 102) (.tmp 104) (s_8 3) x104) w1_19 (fun x105 =>
            rec (sOf [(2, x101), (3, x105)]) w1_19) (PX R)) (PX R)) (PX R)) (PX R)) (PX R)) (RD Tryz.prog (bo .add 3 (.tmp 88) (.const (.int .i64 1)) (s_8 88) (.int .i64 1)) w1_17 (fun x106 =>
            rec_2 (sOf [(2, (s_8 2)), (3, (s_8 3)), (88, x106)]) w1_17) (PX R))) (PC R)) (PX R)) (PX R)) (CA Tryz.prog 50 #[(.int .i64 2), (s_8 3)] w1_16 (fun x108 w1_20 =>
          rec (sOf [(2, (s_8 2)), (3, (s_8 3))]) w1_20) (PC R))) (PX R))
            (sOf [(2, (s_6 2)), (3, (s_6 3)), (88, (.int .i64 0))]) w1_12) (PX R)))) (PX R)) (PC R))) (PX R)) (RD Tryz.prog (Builtin.len_ #[9] 3 #[p0]) w1_2 (fun x111 =>
    RD Tryz.prog (Instr.build 139 #[(0, (.int .i64 0)), (1, (.string (bs []))), (2, x111)]) w1_2 (fun x112 =>
    WR Tryz.prog (Instr.buildSlice 140 1 #[(0, x112)]) w1_2 (fun x113 w1_21 =>
    WR Tryz.prog (Builtin.append_ #[140, 140] 140 #[(s_1 2), x113]) w1_21 (fun x114 w1_22 =>
    R (.returned x114) w1_22) (PX R)) (PX R)) (PX R)) (PX R))) (PX R)) (PX R))
      (sOf [(2, (.slice none 0 0)), (3, (.int .i64 0))]) w1)
theorem sh_s_lex_ok {p0 : Value} {w : World} {R : Ending → World → Prop} (h : sh_s_lex p0 w R) : Calls Tryz.prog 77 #[p0] w R :=
  callsEq (args := [p0]) (good (fun n => match n with | 4 => [2, 3] | 11 => [6] | 19 => [2, 3, 88] | _ => []) (fun n => match n with | 2001 => some [] | 6000 => some [25] | 7001 => some [3] | 12001 => some [6] | 15000 => some [79] | 17002 => some [2, 3] | _ => none) (fun _ => 0) (fun _ => none) (fun n => match n with | 4 => [] | 11 => [] | 19 => [] | _ => []) (fun n => match n with | 2001 => [] | 6000 => [] | 7001 => [] | 12001 => [] | 15000 => [] | 17002 => [] | _ => []) (fun n => match n with | 2001 => true | 6000 => true | 7001 => true | 12001 => true | 15000 => true | 17002 => true | _ => false) (fun n => match n with | 11 => true | 16 => true | 24 => true | 25 => true | 31 => true | 42 => true | 43 => true | 77 => true | 78 => true | 79 => true | 89 => true | 95 => true | _ => false)) Tryz.func77 rfl (by kernel_rfl) (by kernel_rfl) (Nat.le_of_ble_eq_true (by kernel_rfl)) [] (by kernel_rfl) h
def sh_s_word (p0 p1 p2 : Value) (w : World) (R : Ending → World → Prop) : Prop :=
  WR Tryz.prog (Instr.alloc 139 true (.tuple #[])) w (fun x6 w1 =>
  JS (fun j =>
    RD Tryz.prog (bo .eql 5 (.tmp 7) (.const (.int .u8 115)) p2 (.int .u8 115)) w1 (fun x30 =>
    BS x30 (RD Tryz.prog (Builtin.len_ #[9] 3 #[p0]) w1 (fun x32 =>
    RD Tryz.prog (bo .leq 3 (.tmp 32) (.const (.int .i64 8)) x32 (.int .i64 8)) w1 (fun x33 =>
    BS x33 (RD Tryz.prog (Instr.build 139 #[(0, (.int .i64 1)), (1, p0), (2, p1)]) w1 (fun x36 =>
    WU Tryz.prog (Instr.storeAt 139 x6 x36) w1 (fun w1_2 =>
    RD Tryz.prog (Instr.loadAt 139 x6) w1_2 (fun r => R (.returned r) w1_2) NX) (PX R)) (PX R)) (j (sOf []) w1)) (PX R)) (PX R)) (RD Tryz.prog (bo .eql 5 (.tmp 7) (.const (.int .u8 99)) p2 (.int .u8 99)) w1 (fun x38 =>
    BS x38 (RD Tryz.prog (Builtin.len_ #[9] 3 #[p0]) w1 (fun x40 =>
    RD Tryz.prog (bo .leq 3 (.tmp 40) (.const (.int .i64 8)) x40 (.int .i64 8)) w1 (fun x41 =>
    BS x41 (RD Tryz.prog (Instr.build 139 #[(0, (.int .i64 2)), (1, p0), (2, p1)]) w1 (fun x44 =>
    WU Tryz.prog (Instr.storeAt 139 x6 x44) w1 (fun w1_3 =>
    RD Tryz.prog (Instr.loadAt 139 x6) w1_3 (fun r_1 => R (.returned r_1) w1_3) NX) (PX R)) (PX R)) (j (sOf []) w1)) (PX R)) (PX R)) (JS (fun j_1 =>
      RD Tryz.prog (Builtin.len_ #[9] 3 #[p0]) w1 (fun x9 =>
      RD Tryz.prog (bo .leq 3 (.tmp 9) (.const (.int .i64 9)) x9 (.int .i64 9)) w1 (fun x10 => BS x10 (
      CA Tryz.prog 110 #[p0, (.string (bs [48, 49, 50, 51, 52, 53, 54, 55, 56, 57]))] w1 (fun x13 w1_5 =>
      RD Tryz.prog (bo .eql 9 (.tmp 13) (.const (.string (bs []))) x13 (.string (bs []))) w1_5 (fun x14 => BS x14 (
      RD Tryz.prog (Instr.index 9 p0 (.int .i64 0)) w1_5 (fun x18 =>
      RD Tryz.prog (bo .neq 5 (.tmp 18) (.const (.int .u8 48)) x18 (.int .u8 48)) w1_5 (fun x19 => BS x19 (
      j_1 (sOf [(25, (.bool true))]) w1_5) (
      RD Tryz.prog (Builtin.len_ #[9] 3 #[p0]) w1_5 (fun x22 =>
      RD Tryz.prog (bo .eql 3 (.tmp 22) (.const (.int .i64 1)) x22 (.int .i64 1)) w1_5 (fun x23 =>
      j_1 (sOf [(25, x23)]) w1_5) (PX R)) (PX R))) (PX R)) (PX R)) (
      j_1 (sOf [(25, (.bool false))]) w1_5)) (PX R)) (PC R)) (
      j_1 (sOf [(25, (.bool false))]) w1)) (PX R)) (PX R))
      (fun s_1 d_1 w1_4 =>
      BS (s_1 25) (RD Tryz.prog (Instr.build 139 #[(0, (.int .i64 3)), (1, p0), (2, p1)]) w1_4 (fun x28 =>
      WU Tryz.prog (Instr.storeAt 139 x6 x28) w1_4 (fun w1_6 =>
      RD Tryz.prog (Instr.loadAt 139 x6) w1_6 (fun r_2 => R (.returned r_2) w1_6) NX) (PX R)) (PX R)) (j (sOf []) w1_4)))) (PX R))) (PX R))
    (fun s d w1_1 =>
    CA Tryz.prog 50 #[(.int .i64 2), p1] w1_1 (fun x46 w1_7 =>
    RD Tryz.prog (Instr.build 139 #[]) w1_7 (fun x47 =>
    WU Tryz.prog (Instr.storeAt 139 x6 x47) w1_7 (fun w1_8 =>
    RD Tryz.prog (Instr.loadAt 139 x6) w1_8 (fun r_3 => R (.returned r_3) w1_8) NX) (PX R)) (PX R)) (PC R))) (PX R)
theorem sh_s_word_ok {p0 p1 p2 : Value} {w : World} {R : Ending → World → Prop} (h : sh_s_word p0 p1 p2 w R) : Calls Tryz.prog 95 #[p0, p1, p2] w R :=
  callsEq (args := [p0, p1, p2]) (good (fun _ => []) (fun n => match n with | 2000 => some [25] | 3008 => some [] | _ => none) (fun _ => 0) (fun _ => none) (fun _ => []) (fun n => match n with | 2000 => [] | 3008 => [] | _ => []) (fun n => match n with | 2000 => true | 3008 => true | _ => false) (fun n => match n with | 23 => true | 24 => true | 25 => true | 29 => true | 30 => true | 33 => true | 37 => true | 38 => true | 41 => true | _ => false)) Tryz.func95 rfl (by kernel_rfl) (by kernel_rfl) (Nat.le_of_ble_eq_true (by kernel_rfl)) [] (by kernel_rfl) h
def sh_s_Program_c1 (p0 : Value) (w : World) (R : Ending → World → Prop) : Prop :=
  LoopW (fun rec s d w1 =>
    NC p0 fun x7 =>
    RD Tryz.prog (Instr.fieldAt 142 x7 0) w1 (fun x8 =>
    RD Tryz.prog (Instr.loadAt 140 x8) w1 (fun x9 =>
    RD Tryz.prog (Instr.indexAt 140 x9 (.int .i64 0)) w1 (fun x10 =>
    RD Tryz.prog (Instr.fieldAt 139 x10 0) w1 (fun x11 =>
    RD Tryz.prog (Instr.loadAt 137 x11) w1 (fun x12 =>
    RD Tryz.prog (bo .neq 137 (.tmp 12) (.const (.int .i64 0)) x12 (.int .i64 0)) w1 (fun x13 =>
    BS x13 (NC p0 fun x15 =>
    RD Tryz.prog (Instr.fieldAt 142 x15 0) w1 (fun x16 =>
    RD Tryz.prog (Instr.loadAt 140 x16) w1 (fun x17 =>
    RD Tryz.prog (Instr.indexAt 140 x17 (.int .i64 0)) w1 (fun x18 =>
    RD Tryz.prog (Instr.fieldAt 139 x18 2) w1 (fun x19 =>
    RD Tryz.prog (Instr.loadAt 3 x19) w1 (fun x20 =>
    JS (fun j =>
      RD Tryz.prog (Builtin.len_ #[80] 3 #[(s 2)]) w1 (fun x22 =>
      RD Tryz.prog (bo .eql 3 (.tmp 22) (.const (.int .i64 40)) x22 (.int .i64 40)) w1 (fun x23 =>
      BS x23 (CA Tryz.prog 50 #[(.int .i64 4), x20] w1 (fun x25 w1_2 =>
      j (sOf []) w1_2) (PC R)) (j (sOf []) w1)) (PX R)) (PX R))
      (fun s_1 d_1 w1_1 =>
      NC p0 fun x27 =>
      RD Tryz.prog (Instr.fieldAt 142 x27 1) w1_1 (fun x28 =>
      WU Tryz.prog (Instr.storeAt 38 x28 (.slice none 0 0)) w1_1 (fun w1_3 =>
      NC p0 fun x30 =>
      RD Tryz.prog (Instr.fieldAt 142 x30 0) w1_3 (fun x31 =>
      RD Tryz.prog (Instr.loadAt 140 x31) w1_3 (fun x32 =>
      RD Tryz.prog (Instr.indexAt 140 x32 (.int .i64 0)) w1_3 (fun x33 =>
      RD Tryz.prog (Instr.loadAt 139 x33) w1_3 (fun x34 =>
      WR Tryz.prog (Instr.alloc 139 true (.tuple #[])) w1_3 (fun x4 w1_4 =>
      WU Tryz.prog (Instr.storeAt 139 x4 x34) w1_4 (fun w1_5 =>
      JS (fun j_1 =>
        RD Tryz.prog (Instr.fieldAt 139 x4 0) w1_5 (fun x35 =>
        RD Tryz.prog (Instr.loadAt 137 x35) w1_5 (fun x36 =>
        RD Tryz.prog (bo .neq 137 (.tmp 36) (.const (.int .i64 1)) x36 (.int .i64 1)) w1_5 (fun x37 =>
        BS x37 (CA Tryz.prog 51 #[p0] w1_5 (fun x39 w1_7 =>
        j_1 (sOf []) w1_7) (PC R)) (j_1 (sOf []) w1_5)) (PX R)) (PX R)) (PX R))
        (fun s_2 d_2 w1_6 =>
        NC p0 fun x42 =>
        RD Tryz.prog (Instr.fieldAt 142 x42 0) w1_6 (fun x43 =>
        RD Tryz.prog (Instr.loadAt 140 x43) w1_6 (fun x44 =>
        RD Tryz.prog (Instr.sliceAt 140 x44 (some (.int .i64 1)) none none) w1_6 (fun x45 =>
        NC p0 fun x46 =>
        RD Tryz.prog (Instr.fieldAt 142 x46 0) w1_6 (fun x47 =>
        WU Tryz.prog (Instr.storeAt 140 x47 x45) w1_6 (fun w1_8 =>
        RD Tryz.prog (Instr.fieldAt 139 x4 1) w1_8 (fun x48 =>
        RD Tryz.prog (Instr.loadAt 9 x48) w1_8 (fun x49 =>
        RD Tryz.prog (Instr.build 145 #[(0, (.int .u8 103)), (1, (.string (bs [116, 114, 117, 101])))]) w1_8 (fun x50 =>
        WR Tryz.prog (Instr.box 145 x50) w1_8 (fun x51 w1_9 =>
        RD Tryz.prog (Instr.build 104 #[(0, x49), (2, x51)]) w1_9 (fun x52 =>
        WR Tryz.prog (Instr.box 104 x52) w1_9 (fun x53 w1_10 =>
        JS (fun j_2 =>
          CA Tryz.prog 52 #[p0, (.string (bs [40]))] w1_10 (fun x55 w1_12 =>
          BS x55 (CA Tryz.prog 53 #[p0, x20] w1_12 (fun x59 w1_13 =>
          NC x53 fun x60 =>
          RD Tryz.prog (Instr.fieldAt 104 x60 1) w1_13 (fun x61 =>
          WU Tryz.prog (Instr.storeAt 101 x61 x59) w1_13 (fun w1_14 =>
          CA Tryz.prog 54 #[p0, (.string (bs [41]))] w1_14 (fun x63 w1_15 =>
          j_2 (sOf []) w1_15) (PC R)) (PX R)) (PX R)) (PC R)) (j_2 (sOf []) w1_12)) (PC R))
          (fun s_3 d_3 w1_11 =>
          JS (fun j_3 =>
            JS (fun j_4 =>
              RD Tryz.prog (Instr.fieldAt 139 x4 1) w1_11 (fun x64 =>
              RD Tryz.prog (Instr.loadAt 9 x64) w1_11 (fun x65 =>
              CA Tryz.prog 55 #[x65] w1_11 (fun x66 w1_18 =>
              RD Tryz.prog (bo .geq 3 (.tmp 66) (.const (.int .i64 0)) x66 (.int .i64 0)) w1_18 (fun x67 => BS x67 (
              j_4 (sOf [(72, (.bool true))]) w1_18) (
              RD Tryz.prog (Instr.fieldAt 139 x4 1) w1_18 (fun x69 =>
              RD Tryz.prog (Instr.loadAt 9 x69) w1_18 (fun x70 =>
              RD Tryz.prog (bo .eql 9 (.tmp 70) (.const (.string (bs [109, 111, 100]))) x70 (.string (bs [109, 111, 100]))) w1_18 (fun x71 =>
              j_4 (sOf [(72, x71)]) w1_18) (PX R)) (PX R)) (PX R))) (PX R)) (PC R)) (PX R)) (PX R))
              (fun s_5 d_5 w1_17 =>
              BS (s_5 72) (CA Tryz.prog 50 #[(.int .i64 3), x20] w1_17 (fun x74 w1_19 =>
              j_3 (sOf []) w1_19) (PC R)) (j_3 (sOf []) w1_17)))
            (fun s_4 d_4 w1_16 =>
            JS (fun j_5 =>
              CA Tryz.prog 52 #[p0, (.string (bs [58, 45]))] w1_16 (fun x76 w1_21 =>
              BS x76 (CA Tryz.prog 56 #[p0] w1_21 (fun x79 w1_22 =>
              NC x53 fun x80 =>
              RD Tryz.prog (Instr.fieldAt 104 x80 2) w1_22 (fun x81 =>
              WU Tryz.prog (Instr.storeAt 102 x81 x79) w1_22 (fun w1_23 =>
              j_5 (sOf []) w1_23) (PX R)) (PX R)) (PC R)) (j_5 (sOf []) w1_21)) (PC R))
              (fun s_6 d_6 w1_20 =>
              CA Tryz.prog 54 #[p0, (.string (bs [46]))] w1_20 (fun x83 w1_24 =>
              NC p0 fun x86 =>
              RD Tryz.prog (Instr.fieldAt 142 x86 1) w1_24 (fun x87 =>
              RD Tryz.prog (Instr.loadAt 38 x87) w1_24 (fun x88 =>
              NC x53 fun x89 =>
              RD Tryz.prog (Instr.fieldAt 104 x89 3) w1_24 (fun x90 =>
              WU Tryz.prog (Instr.storeAt 38 x90 x88) w1_24 (fun w1_25 =>
              WR Tryz.prog (Instr.buildSlice 80 1 #[(0, x53)]) w1_25 (fun x93 w1_26 =>
              WR Tryz.prog (Builtin.append_ #[80, 80] 80 #[(s 2), x93]) w1_26 (fun x94 w1_27 =>
              rec (sOf [(2, x94)]) w1_27) (PX R)) (PX R)) (PX R)) (PX R)) (PX R)) (PX R)) (PC R))))) (PX R)) (PX R)) (PX R)) (PX R)) (PX R)) (PX R)) (PX R)) (PX R)) (PX R)) (PX R)) (PX R))) (PX R)) (PX R)) (PX R)) (PX R)) (PX R)) (PX R)) (PX R)) (PX R))) (PX R)) (PX R)) (PX R)) (PX R)) (PX R)) (R (.returned (s 2)) w1)) (PX R)) (PX R)) (PX R)) (PX R)) (PX R)) (PX R))
    (sOf [(2, (.slice none 0 0))]) w
theorem sh_s_Program_c1_ok {p0 : Value} {w : World} {R : Ending → World → Prop} (h : sh_s_Program_c1 p0 w R) : Calls Tryz.prog 49 #[p0] w R :=
  callsEq (args := [p0]) (good (fun n => match n with | 1 => [2] | _ => []) (fun n => match n with | 4001 => some [] | 8001 => some [] | 13002 => some [] | 14000 => some [72] | 15001 => some [] | 17001 => some [] | _ => none) (fun _ => 0) (fun _ => none) (fun n => match n with | 1 => [] | _ => []) (fun n => match n with | 4001 => [] | 8001 => [] | 13002 => [] | 14000 => [] | 15001 => [] | 17001 => [] | _ => []) (fun n => match n with | 4001 => true | 8001 => true | 13002 => true | 14000 => true | 15001 => true | 17001 => true | _ => false) (fun n => match n with | 13 => true | 23 => true | 37 => true | 55 => true | 71 => true | 72 => true | 76 => true | _ => false)) Tryz.func49 rfl (by kernel_rfl) (by kernel_rfl) (Nat.le_of_ble_eq_true (by kernel_rfl)) [] (by kernel_rfl) h
def sh_s_Program (p0 : Value) (w : World) (R : Ending → World → Prop) : Prop :=
  CA Tryz.prog 48 #[p0, (.func (.func 49) #[] #[])] w (fun x5 w1 =>
  RD Tryz.prog (Instr.extract x5 0) w1 (fun x6 =>
  RD Tryz.prog (Instr.extract x5 1) w1 (fun x7 =>
  R (.returned (.tuple #[x6, x7])) w1) (PX R)) (PX R)) (PC R)
theorem sh_s_Program_ok {p0 : Value} {w : World} {R : Ending → World → Prop} (h : sh_s_Program p0 w R) : Calls Tryz.prog 28 #[p0] w R :=
  callsEq (args := [p0]) (good (fun _ => []) (fun _ => none) (fun _ => 0) (fun _ => none) (fun _ => []) (fun _ => []) (fun _ => false) (fun _ => false)) Tryz.func28 rfl (by kernel_rfl) (by kernel_rfl) (Nat.le_of_ble_eq_true (by kernel_rfl)) [] (by kernel_rfl) h
def sh_s_fail (p0 p1 : Value) (w : World) (R : Ending → World → Prop) : Prop :=
  RD Tryz.prog (Instr.build 89 #[(0, p0), (1, p1)]) w (fun x6 =>
  WR Tryz.prog (Instr.box 89 x6) w (fun x7 w1 =>
  WR Tryz.prog (Instr.makeInterface 85 x7) w1 (fun x8 w1_1 =>
  RD Tryz.prog (Instr.panic x8) w1_1 (fun _ =>
  R (.returned (.tuple #[])) w1_1) (PX R)) (PX R)) (PX R)) (PX R)
theorem sh_s_fail_ok {p0 p1 : Value} {w : World} {R : Ending → World → Prop} (h : sh_s_fail p0 p1 w R) : Calls Tryz.prog 50 #[p0, p1] w R :=
  callsEq (args := [p0, p1]) (good (fun _ => []) (fun _ => none) (fun _ => 0) (fun _ => none) (fun _ => []) (fun _ => []) (fun _ => false) (fun _ => false)) Tryz.func50 rfl (by kernel_rfl) (by kernel_rfl) (Nat.le_of_ble_eq_true (by kernel_rfl)) [] (by kernel_rfl) h
def sh_a_Tell (p0 : Value) (w : World) (R : Ending → World → Prop) : Prop :=
  WR Tryz.prog (Instr.alloc 85 true (.tuple #[])) w (fun x4 w1 =>
  WR Tryz.prog (Instr.alloc 29 true (.tuple #[])) w1 (fun x5 w1_1 =>
  RD Tryz.prog (bo .eql 48 (.tmp 7) (.const .nilIface) p0 .nilIface) w1_1 (fun x8 =>
  BS x8 (R (.returned (.tuple #[(.int .i64 0), (.int .i64 (-1))])) w1_1) (WR Tryz.prog (Instr.makeInterface 87 x4) w1_1 (fun x11 w1_2 =>
  CA Tryz.prog 29 #[p0, x11] w1_2 (fun x12 w1_3 =>
  BS x12 (RD Tryz.prog (Instr.loadAt 85 x4) w1_3.drew (fun x13 =>
  NC x13 fun x14 =>
  RD Tryz.prog (Instr.fieldAt 89 x14 0) w1_3.drew (fun x15 =>
  RD Tryz.prog (Instr.loadAt 29 x15) w1_3.drew (fun x16 =>
  RD Tryz.prog (Instr.loadAt 85 x4) w1_3.drew (fun x17 =>
  NC x17 fun x18 =>
  RD Tryz.prog (Instr.fieldAt 89 x18 1) w1_3.drew (fun x19 =>
  RD Tryz.prog (Instr.loadAt 3 x19) w1_3.drew (fun x20 =>
  R (.returned (.tuple #[x16, x20])) w1_3.drew) NX) NX) NX) NX) NX) NX) (WR Tryz.prog (Instr.makeInterface 90 x5) w1_3 (fun x23 w1_4 =>
  CA Tryz.prog 29 #[p0, x23] w1_4 (fun x24 w1_5 =>
  BS x24 (RD Tryz.prog (Instr.loadAt 29 x5) w1_5 (fun x25 =>
  R (.returned (.tuple #[x25, (.int .i64 (-1))])) w1_5) (PX R)) (R (.returned (.tuple #[(.int .i64 (-1)), (.int .i64 (-1))])) w1_5)) (PC R)) (PX R))) (PC R)) (PX R))) (PX R)) (PX R)) (PX R)
theorem sh_a_Tell_ok {p0 : Value} {w : World} {R : Ending → World → Prop} (h : sh_a_Tell p0 w R) : Calls Tryz.prog 14 #[p0] w R :=
  callsEq (args := [p0]) (good (fun _ => []) (fun _ => none) (fun n => match n with | 6 => 10 | _ => 0) (fun _ => none) (fun _ => []) (fun _ => []) (fun _ => false) (fun n => match n with | 6 => true | 8 => true | 9 => true | 12 => true | 21 => true | 24 => true | _ => false)) Tryz.func14 rfl (by kernel_rfl) (by kernel_rfl) (Nat.le_of_ble_eq_true (by kernel_rfl)) [] (by kernel_rfl) h
end Go.Proofs.YtkmpelgfhjgddaaGreatDoor
namespace Go.Proofs.YtkmpelgfhjgddaaGreatDoor
open Go.Proofs.YtkmpelgfhjgddaaGreatDoor.Sx
set_option maxRecDepth 100000
set_option linter.unusedVariables false
def sh_s_caught_LPs_Clause (p0 p1 : Value) (w : World) (R : Ending → World → Prop) : Prop :=
  WR Tryz.prog (Instr.alloc 80 true (.tuple #[])) w (fun x4 w1 =>
  WR Tryz.prog (Instr.alloc 48 true (.tuple #[])) w1 (fun x5 w1_1 =>
  WR Tryz.prog (Instr.makeFunc (.func 76) #[] #[x4, x5]) w1_1 (fun x7 w1_2 =>
  DF x7 (fun ff fx fy =>
  CA Tryz.prog 77 #[p0] w1_2 (fun x9 w1_3 =>
  RD Tryz.prog (Instr.build 142 #[(0, x9)]) w1_3 (fun x10 =>
  WR Tryz.prog (Instr.box 142 x10) w1_3 (fun x11 w1_4 =>
  CV Tryz.prog p1 #[x11] w1_4 (fun x14 w1_5 =>
  WU Tryz.prog (Instr.storeAt 80 x4 x14) w1_5 (fun w1_6 =>
  WU Tryz.prog (Instr.storeAt 48 x5 .nilIface) w1_6 (fun w1_7 =>
  LV Tryz.prog (fun wz => RD Tryz.prog (Instr.loadAt 80 x4) wz (fun r_40 => RD Tryz.prog (Instr.loadAt 48 x5) wz (fun r_41 => R (.returned (.tuple #[r_40, r_41])) wz) NX) NX) R [{ target := .fn ff fy, args := fx ++ #[] }] .returning w1_7) (fun v wz => LV Tryz.prog (fun wz => RD Tryz.prog (Instr.loadAt 80 x4) wz (fun r_36 => RD Tryz.prog (Instr.loadAt 48 x5) wz (fun r_37 => R (.returned (.tuple #[r_36, r_37])) wz) NX) NX) R [{ target := .fn ff fy, args := fx ++ #[] }] (.panicking [{ v, recovered := false }]) wz)) (fun v wz => LV Tryz.prog (fun wz => RD Tryz.prog (Instr.loadAt 80 x4) wz (fun r_32 => RD Tryz.prog (Instr.loadAt 48 x5) wz (fun r_33 => R (.returned (.tuple #[r_32, r_33])) wz) NX) NX) R [{ target := .fn ff fy, args := fx ++ #[] }] (.panicking [{ v, recovered := false }]) wz)) (fun ch wz => LV Tryz.prog (fun wz => RD Tryz.prog (Instr.loadAt 80 x4) wz (fun r_30 => RD Tryz.prog (Instr.loadAt 48 x5) wz (fun r_31 => R (.returned (.tuple #[r_30, r_31])) wz) NX) NX) R [{ target := .fn ff fy, args := fx ++ #[] }] (.panicking ch) wz)) (fun v wz => LV Tryz.prog (fun wz => RD Tryz.prog (Instr.loadAt 80 x4) wz (fun r_24 => RD Tryz.prog (Instr.loadAt 48 x5) wz (fun r_25 => R (.returned (.tuple #[r_24, r_25])) wz) NX) NX) R [{ target := .fn ff fy, args := fx ++ #[] }] (.panicking [{ v, recovered := false }]) wz)) (fun v wz => LV Tryz.prog (fun wz => RD Tryz.prog (Instr.loadAt 80 x4) wz (fun r_20 => RD Tryz.prog (Instr.loadAt 48 x5) wz (fun r_21 => R (.returned (.tuple #[r_20, r_21])) wz) NX) NX) R [{ target := .fn ff fy, args := fx ++ #[] }] (.panicking [{ v, recovered := false }]) wz)) (fun ch wz => LV Tryz.prog (fun wz => RD Tryz.prog (Instr.loadAt 80 x4) wz (fun r_18 => RD Tryz.prog (Instr.loadAt 48 x5) wz (fun r_19 => R (.returned (.tuple #[r_18, r_19])) wz) NX) NX) R [{ target := .fn ff fy, args := fx ++ #[] }] (.panicking ch) wz))) (fun v wz => LV Tryz.prog (fun wz => RD Tryz.prog (Instr.loadAt 80 x4) wz (fun r_8 => RD Tryz.prog (Instr.loadAt 48 x5) wz (fun r_9 => R (.returned (.tuple #[r_8, r_9])) wz) NX) NX) R [] (.panicking [{ v, recovered := false }]) wz)) (fun v wz => LV Tryz.prog (fun wz => RD Tryz.prog (Instr.loadAt 80 x4) wz (fun r_4 => RD Tryz.prog (Instr.loadAt 48 undef) wz (fun r_5 => R (.returned (.tuple #[r_4, r_5])) wz) NX) NX) R [] (.panicking [{ v, recovered := false }]) wz)) (fun v wz => LV Tryz.prog (fun wz => RD Tryz.prog (Instr.loadAt 80 undef) wz (fun r => RD Tryz.prog (Instr.loadAt 48 undef) wz (fun r_1 => R (.returned (.tuple #[r, r_1])) wz) NX) NX) R [] (.panicking [{ v, recovered := false }]) wz)
theorem sh_s_caught_LPs_Clause_ok {p0 p1 : Value} {w : World} {R : Ending → World → Prop} (h : sh_s_caught_LPs_Clause p0 p1 w R) : Calls Tryz.prog 48 #[p0, p1] w R :=
  callsEqD (args := [p0, p1]) (good (fun _ => []) (fun _ => none) (fun _ => 0) (fun _ => none) (fun _ => []) (fun _ => []) (fun _ => false) (fun _ => false)) Tryz.func48 rfl (by kernel_rfl) (Nat.le_of_ble_eq_true (by kernel_rfl)) [] (by kernel_rfl) h
end Go.Proofs.YtkmpelgfhjgddaaGreatDoor
