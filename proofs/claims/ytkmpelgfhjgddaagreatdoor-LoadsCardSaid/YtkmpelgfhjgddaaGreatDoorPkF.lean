/- A part of one proof (ShR1, ShR2, ShR3, ShR4); no conditions beyond what each theorem names. -/
import Derived.Test.YtkmpelgfhjgddaaGreatDoorPkE
set_option linter.all false
set_option linter.unusedVariables false
set_option linter.unusedSimpArgs false
namespace Go.Proofs.YtkmpelgfhjgddaaGreatDoor
open Go.Proofs.YtkmpelgfhjgddaaGreatDoor.Sx
set_option maxRecDepth 100000
set_option linter.unusedVariables false
def sh_Pr_parser_next (p0 : Value) (w : World) (R : Ending → World → Prop) : Prop :=
  WR Tryz.prog (Instr.alloc 60 true (.tuple #[])) w (fun x2 w1 =>
  NC p0 fun x4 =>
  RD Tryz.prog (Instr.fieldAt 58 x4 0) w1.drew (fun x5 =>
  RD Tryz.prog (Instr.loadAt 56 x5) w1.drew (fun x6 =>
  NC p0 fun x8 =>
  RD Tryz.prog (Instr.fieldAt 58 x8 1) w1.drew (fun x9 =>
  RD Tryz.prog (Instr.loadAt 3 x9) w1.drew (fun x10 =>
  RD Tryz.prog (Instr.indexAt 56 x6 x10) w1.drew (fun x11 =>
  RD Tryz.prog (Instr.loadAt 60 x11) w1.drew (fun x12 =>
  WU Tryz.prog (Instr.storeAt 60 x2 x12) w1.drew (fun w1_1 =>
  RD Tryz.prog (Instr.loadAt 60 x2) w1_1 (fun r => R (.returned r) w1_1) NX) (PX R)) NX) NX) NX) NX) NX) NX) (PX R)
theorem sh_Pr_parser_next_ok {p0 : Value} {w : World} {R : Ending → World → Prop} (h : sh_Pr_parser_next p0 w R) : Calls Tryz.prog 16 #[p0] w R :=
  callsEq (args := [p0]) (good (fun _ => []) (fun _ => none) (fun n => match n with | 1 => 10 | _ => 0) (fun _ => none) (fun _ => []) (fun _ => []) (fun _ => false) (fun _ => false)) Tryz.func16 rfl (by kernel_rfl) (by kernel_rfl) (Nat.le_of_ble_eq_true (by kernel_rfl)) [] (by kernel_rfl) h
def sh_Pr_parser_fault (p0 p1 p2 : Value) (w : World) (R : Ending → World → Prop) : Prop :=
  NC p0 fun x7 =>
  RD Tryz.prog (Instr.fieldAt 58 x7 4) w (fun x8 =>
  RD Tryz.prog (Instr.loadAt 29 x8) w (fun x9 =>
  RD Tryz.prog (bo .eql 29 (.tmp 9) (.const (.int .i64 0)) x9 (.int .i64 0)) w (fun x10 =>
  BS x10 (NC p0 fun x13 =>
  RD Tryz.prog (Instr.fieldAt 58 x13 4) w (fun x14 =>
  WU Tryz.prog (Instr.storeAt 29 x14 p1) w (fun w1 =>
  NC p0 fun x17 =>
  RD Tryz.prog (Instr.fieldAt 58 x17 5) w1 (fun x18 =>
  WU Tryz.prog (Instr.storeAt 3 x18 p2) w1 (fun w1_1 =>
  R (.returned (.tuple #[])) w1_1) (PX R)) (PX R)) (PX R)) (PX R)) (R (.returned (.tuple #[])) w)) (PX R)) (PX R)) (PX R)
theorem sh_Pr_parser_fault_ok {p0 p1 p2 : Value} {w : World} {R : Ending → World → Prop} (h : sh_Pr_parser_fault p0 p1 p2 w R) : Calls Tryz.prog 17 #[p0, p1, p2] w R :=
  callsEq (args := [p0, p1, p2]) (good (fun _ => []) (fun _ => none) (fun _ => 0) (fun _ => none) (fun _ => []) (fun _ => []) (fun _ => false) (fun n => match n with | 10 => true | _ => false)) Tryz.func17 rfl (by kernel_rfl) (by kernel_rfl) (Nat.le_of_ble_eq_true (by kernel_rfl)) [] (by kernel_rfl) h
def sh_Pr_parser_is (p0 p1 : Value) (w : World) (R : Ending → World → Prop) : Prop :=
  CA Tryz.prog 16 #[p0] w (fun x7 w1 =>
  WR Tryz.prog (Instr.alloc 60 true (.tuple #[])) w1 (fun x5 w1_1 =>
  WU Tryz.prog (Instr.storeAt 60 x5 x7) w1_1 (fun w1_2 =>
  JN (fun j =>
    NC p0 fun x9 =>
    RD Tryz.prog (Instr.fieldAt 58 x9 4) w1_2 (fun x10 =>
    RD Tryz.prog (Instr.loadAt 29 x10) w1_2 (fun x11 =>
    RD Tryz.prog (bo .neq 29 (.tmp 11) (.const (.int .i64 0)) x11 (.int .i64 0)) w1_2 (fun x12 => BS x12 (
    j (sOf [(28, (.bool true))]) w1_2) (
    RD Tryz.prog (Instr.fieldAt 60 x5 0) w1_2 (fun x14 =>
    RD Tryz.prog (Instr.loadAt 5 x14) w1_2 (fun x15 =>
    RD Tryz.prog (bo .neq 5 (.tmp 15) (.const (.int .u8 115)) x15 (.int .u8 115)) w1_2 (fun x16 => BS x16 (
    RD Tryz.prog (Instr.fieldAt 60 x5 0) w1_2 (fun x18 =>
    RD Tryz.prog (Instr.loadAt 5 x18) w1_2 (fun x19 =>
    RD Tryz.prog (bo .neq 5 (.tmp 19) (.const (.int .u8 97)) x19 (.int .u8 97)) w1_2 (fun x20 => BS x20 (
    j (sOf [(28, (.bool true))]) w1_2) (
    RD Tryz.prog (Instr.fieldAt 60 x5 1) w1_2 (fun x24 =>
    RD Tryz.prog (Instr.loadAt 9 x24) w1_2 (fun x25 =>
    RD Tryz.prog (bo .neq 9 (.tmp 25) (.tmp 26) x25 p1) w1_2 (fun x27 =>
    j (sOf [(28, x27)]) w1_2) (PX R)) (PX R)) (PX R))) (PX R)) (PX R)) (PX R)) (
    RD Tryz.prog (Instr.fieldAt 60 x5 1) w1_2 (fun x24_1 =>
    RD Tryz.prog (Instr.loadAt 9 x24_1) w1_2 (fun x25_1 =>
    RD Tryz.prog (bo .neq 9 (.tmp 25) (.tmp 26) x25_1 p1) w1_2 (fun x27_1 =>
    j (sOf [(28, x27_1)]) w1_2) (PX R)) (PX R)) (PX R))) (PX R)) (PX R)) (PX R))) (PX R)) (PX R)) (PX R))
    (fun s d w1_3 =>
    BS (s 28) (R (.returned (.bool false)) w1_3) (NC p0 fun x30 =>
  RD Tryz.prog (Instr.fieldAt 58 x30 1) w1_3 (fun x31 =>
  RD Tryz.prog (Instr.loadAt 3 x31) w1_3 (fun x32 =>
  RD Tryz.prog (bo .add 3 (.tmp 32) (.const (.int .i64 1)) x32 (.int .i64 1)) w1_3 (fun x33 =>
  NC p0 fun x34 =>
  RD Tryz.prog (Instr.fieldAt 58 x34 1) w1_3 (fun x35 =>
  WU Tryz.prog (Instr.storeAt 3 x35 x33) w1_3 (fun w1_4 =>
  R (.returned (.bool true)) w1_4) (PX R)) (PX R)) (PX R)) (PX R)) (PX R)))) (PX R)) (PX R)) (PC R)
theorem sh_Pr_parser_is_ok {p0 p1 : Value} {w : World} {R : Ending → World → Prop} (h : sh_Pr_parser_is p0 p1 w R) : Calls Tryz.prog 32 #[p0, p1] w R :=
  callsEq (args := [p0, p1]) (good (fun _ => []) (fun n => match n with | 2000 => some [28] | _ => none) (fun _ => 0) (fun _ => none) (fun _ => []) (fun n => match n with | 2000 => [] | _ => []) (fun _ => false) (fun n => match n with | 4 => true | 27 => true | 28 => true | _ => false)) Tryz.func32 rfl (by kernel_rfl) (by kernel_rfl) (Nat.le_of_ble_eq_true (by kernel_rfl)) [] (by kernel_rfl) h
def sh_Pr_parser_must (p0 p1 : Value) (w : World) (R : Ending → World → Prop) : Prop :=
  CA Tryz.prog 32 #[p0, p1] w (fun x7 w1 =>
  RD Tryz.prog (Op.unary .not x7) w1 (fun x9 =>
  BS x9 (CA Tryz.prog 31 #[p0] w1 (fun x11 w1_1 =>
  R (.returned (.tuple #[])) w1_1) (PC R)) (R (.returned (.tuple #[])) w1)) (PX R)) (PC R)
theorem sh_Pr_parser_must_ok {p0 p1 : Value} {w : World} {R : Ending → World → Prop} (h : sh_Pr_parser_must p0 p1 w R) : Calls Tryz.prog 34 #[p0, p1] w R :=
  callsEq (args := [p0, p1]) (good (fun _ => []) (fun _ => none) (fun _ => 0) (fun _ => none) (fun _ => []) (fun _ => []) (fun _ => false) (fun n => match n with | 4 => true | 7 => true | 8 => true | 9 => true | _ => false)) Tryz.func34 rfl (by kernel_rfl) (by kernel_rfl) (Nat.le_of_ble_eq_true (by kernel_rfl)) [] (by kernel_rfl) h
def sh_Pr_parser_enter (p0 : Value) (w : World) (R : Ending → World → Prop) : Prop :=
  NC p0 fun x5 =>
  RD Tryz.prog (Instr.fieldAt 58 x5 3) w (fun x6 =>
  RD Tryz.prog (Instr.loadAt 3 x6) w (fun x7 =>
  RD Tryz.prog (bo .add 3 (.tmp 7) (.const (.int .i64 1)) x7 (.int .i64 1)) w (fun x8 =>
  NC p0 fun x9 =>
  RD Tryz.prog (Instr.fieldAt 58 x9 3) w (fun x10 =>
  WU Tryz.prog (Instr.storeAt 3 x10 x8) w (fun w1 =>
  CA Tryz.prog 16 #[p0] w1 (fun x12 w1_1 =>
  WR Tryz.prog (Instr.alloc 60 true (.tuple #[])) w1_1 (fun x3 w1_2 =>
  WU Tryz.prog (Instr.storeAt 60 x3 x12) w1_2 (fun w1_3 =>
  JN (fun j =>
    NC p0 fun x14 =>
    RD Tryz.prog (Instr.fieldAt 58 x14 3) w1_3 (fun x15 =>
    RD Tryz.prog (Instr.loadAt 3 x15) w1_3 (fun x16 =>
    RD Tryz.prog (bo .gtr 3 (.tmp 16) (.const (.int .i64 8)) x16 (.int .i64 8)) w1_3 (fun x17 =>
    BS x17 (RD Tryz.prog (Instr.fieldAt 60 x3 2) w1_3 (fun x19 =>
    RD Tryz.prog (Instr.loadAt 3 x19) w1_3 (fun x20 =>
    CA Tryz.prog 17 #[p0, (.int .i64 4), x20] w1_3 (fun x21 w1_5 =>
    j (sOf []) w1_5) (PC R)) (PX R)) (PX R)) (j (sOf []) w1_3)) (PX R)) (PX R)) (PX R))
    (fun s d w1_4 =>
    NC p0 fun x23 =>
    RD Tryz.prog (Instr.fieldAt 58 x23 4) w1_4 (fun x24 =>
    RD Tryz.prog (Instr.loadAt 29 x24) w1_4 (fun x25 =>
    RD Tryz.prog (bo .eql 29 (.tmp 25) (.const (.int .i64 0)) x25 (.int .i64 0)) w1_4 (fun x26 =>
    R (.returned x26) w1_4) (PX R)) (PX R)) (PX R))) (PX R)) (PX R)) (PC R)) (PX R)) (PX R)) (PX R)) (PX R)) (PX R)
theorem sh_Pr_parser_enter_ok {p0 : Value} {w : World} {R : Ending → World → Prop} (h : sh_Pr_parser_enter p0 w R) : Calls Tryz.prog 84 #[p0] w R :=
  callsEq (args := [p0]) (good (fun _ => []) (fun n => match n with | 4001 => some [] | _ => none) (fun _ => 0) (fun _ => none) (fun _ => []) (fun n => match n with | 4001 => [] | _ => []) (fun _ => false) (fun n => match n with | 2 => true | 17 => true | 26 => true | _ => false)) Tryz.func84 rfl (by kernel_rfl) (by kernel_rfl) (Nat.le_of_ble_eq_true (by kernel_rfl)) [] (by kernel_rfl) h
def sh_Pr_parser_none (p0 : Value) (w : World) (R : Ending → World → Prop) : Prop :=
  CA Tryz.prog 16 #[p0] w (fun x4 w1 =>
  WR Tryz.prog (Instr.alloc 60 true (.tuple #[])) w1 (fun x2 w1_1 =>
  WU Tryz.prog (Instr.storeAt 60 x2 x4) w1_1 (fun w1_2 =>
  RD Tryz.prog (Instr.fieldAt 60 x2 2) w1_2 (fun x6 =>
  RD Tryz.prog (Instr.loadAt 3 x6) w1_2 (fun x7 =>
  CA Tryz.prog 17 #[p0, (.int .i64 2), x7] w1_2 (fun x8 w1_3 =>
  R (.returned (.tuple #[])) w1_3) (PC R)) (PX R)) (PX R)) (PX R)) (PX R)) (PC R)
theorem sh_Pr_parser_none_ok {p0 : Value} {w : World} {R : Ending → World → Prop} (h : sh_Pr_parser_none p0 w R) : Calls Tryz.prog 31 #[p0] w R :=
  callsEq (args := [p0]) (good (fun _ => []) (fun _ => none) (fun _ => 0) (fun _ => none) (fun _ => []) (fun _ => []) (fun _ => false) (fun _ => false)) Tryz.func31 rfl (by kernel_rfl) (by kernel_rfl) (Nat.le_of_ble_eq_true (by kernel_rfl)) [] (by kernel_rfl) h
def sh_Pr_parser_prim (p0 : Value) (w : World) (R : Ending → World → Prop) : Prop :=
  WR Tryz.prog (Instr.alloc 69 true (.tuple #[])) w (fun x2 w1 =>
  RD Tryz.prog (Instr.build 69 #[]) w1 (fun x5 =>
  WR Tryz.prog (Instr.alloc 69 true (.tuple #[])) w1 (fun x3 w1_1 =>
  WU Tryz.prog (Instr.storeAt 69 x3 x5) w1_1 (fun w1_2 =>
  CA Tryz.prog 84 #[p0] w1_2 (fun x7 w1_3 =>
  JN (fun j =>
    BS x7 (CA Tryz.prog 93 #[p0] w1_3 (fun x10 w1_5 =>
    WU Tryz.prog (Instr.storeAt 69 x3 x10) w1_5 (fun w1_6 =>
    j (sOf []) w1_6) (PX R)) (PC R)) (j (sOf []) w1_3))
    (fun s d w1_4 =>
    NC p0 fun x12 =>
    RD Tryz.prog (Instr.fieldAt 58 x12 3) w1_4 (fun x13 =>
    RD Tryz.prog (Instr.loadAt 3 x13) w1_4 (fun x14 =>
    RD Tryz.prog (bo .sub 3 (.tmp 14) (.const (.int .i64 1)) x14 (.int .i64 1)) w1_4 (fun x15 =>
    NC p0 fun x16 =>
    RD Tryz.prog (Instr.fieldAt 58 x16 3) w1_4 (fun x17 =>
    WU Tryz.prog (Instr.storeAt 3 x17 x15) w1_4 (fun w1_7 =>
    RD Tryz.prog (Instr.loadAt 69 x3) w1_7 (fun x18 =>
    WU Tryz.prog (Instr.storeAt 69 x2 x18) w1_7 (fun w1_8 =>
    RD Tryz.prog (Instr.loadAt 69 x2) w1_8 (fun r => R (.returned r) w1_8) NX) (PX R)) (PX R)) (PX R)) (PX R)) (PX R)) (PX R)) (PX R))) (PC R)) (PX R)) (PX R)) (PX R)) (PX R)
theorem sh_Pr_parser_prim_ok {p0 : Value} {w : World} {R : Ending → World → Prop} (h : sh_Pr_parser_prim p0 w R) : Calls Tryz.prog 75 #[p0] w R :=
  callsEq (args := [p0]) (good (fun _ => []) (fun n => match n with | 4001 => some [] | _ => none) (fun _ => 0) (fun _ => none) (fun _ => []) (fun n => match n with | 4001 => [] | _ => []) (fun _ => false) (fun n => match n with | 4 => true | 7 => true | 8 => true | _ => false)) Tryz.func75 rfl (by kernel_rfl) (by kernel_rfl) (Nat.le_of_ble_eq_true (by kernel_rfl)) [] (by kernel_rfl) h
def sh_Pr_parser_list (p0 : Value) (w : World) (R : Ending → World → Prop) : Prop :=
  WR Tryz.prog (Instr.alloc 69 true (.tuple #[])) w (fun x2 w1 =>
  RD Tryz.prog (Instr.build 69 #[(0, (.int .u8 97)), (1, (.string (bs [91, 93])))]) w1 (fun x10 =>
  WR Tryz.prog (Instr.alloc 69 true (.tuple #[])) w1 (fun x3 w1_1 =>
  WU Tryz.prog (Instr.storeAt 69 x3 x10) w1_1 (fun w1_2 =>
  CA Tryz.prog 32 #[p0, (.string (bs [93]))] w1_2 (fun x12 w1_3 =>
  BS x12 (RD Tryz.prog (Instr.loadAt 69 x3) w1_3 (fun x14 =>
  WU Tryz.prog (Instr.storeAt 69 x2 x14) w1_3 (fun w1_4 =>
  RD Tryz.prog (Instr.loadAt 69 x2) w1_4 (fun r => R (.returned r) w1_4) NX) (PX R)) (PX R)) (LoopW (fun rec s d w1_5 =>
    BS (s 6) (CA Tryz.prog 22 #[p0] w1_5 (fun x17 w1_6 =>
    WR Tryz.prog (Instr.alloc 69 true (.tuple #[])) w1_6 (fun x7 w1_7 =>
    WU Tryz.prog (Instr.storeAt 69 x7 x17) w1_7 (fun w1_8 =>
    RD Tryz.prog (Instr.loadAt 69 x7) w1_8 (fun x19 =>
    WR Tryz.prog (Instr.buildSlice 34 1 #[(0, x19)]) w1_8 (fun x20 w1_9 =>
    WR Tryz.prog (Builtin.append_ #[34, 34] 34 #[(s 5), x20]) w1_9 (fun x21 w1_10 =>
    CA Tryz.prog 32 #[p0, (.string (bs [44]))] w1_10 (fun x23 w1_11 =>
    rec (sOf [(5, x21), (6, x23)]) w1_11) (PC R)) (PX R)) (PX R)) (PX R)) (PX R)) (PX R)) (PC R)) (CA Tryz.prog 32 #[p0, (.string (bs [124]))] w1_5 (fun x25 w1_12 =>
  JN (fun j =>
    BS x25 (CA Tryz.prog 22 #[p0] w1_12 (fun x28 w1_14 =>
    WU Tryz.prog (Instr.storeAt 69 x3 x28) w1_14 (fun w1_15 =>
    j (sOf []) w1_15) (PX R)) (PC R)) (j (sOf []) w1_12))
    (fun s_1 d_1 w1_13 =>
    CA Tryz.prog 34 #[p0, (.string (bs [93]))] w1_13 (fun x30 w1_16 =>
    RD Tryz.prog (Builtin.len_ #[34] 3 #[(s 5)]) w1_16 (fun x32 =>
    RD Tryz.prog (bo .sub 3 (.tmp 32) (.const (.int .i64 1)) x32 (.int .i64 1)) w1_16 (fun x33 =>
    LoopW (fun rec_1 s_2 d_2 w1_17 =>
      RD Tryz.prog (bo .geq 3 (.tmp 34) (.const (.int .i64 0)) (s_2 9) (.int .i64 0)) w1_17 (fun x35 =>
      BS x35 (RD Tryz.prog (Instr.indexAt 34 (s 5) (s_2 9)) w1_17.drew (fun x40 =>
      RD Tryz.prog (Instr.loadAt 69 x40) w1_17.drew (fun x41 =>
      RD Tryz.prog (Instr.loadAt 69 x3) w1_17.drew (fun x42 =>
      WR Tryz.prog (Instr.buildSlice 34 2 #[(0, x41), (1, x42)]) w1_17.drew (fun x43 w1_18 =>
      RD Tryz.prog (Instr.build 69 #[(0, (.int .u8 99)), (1, (.string (bs [46]))), (4, x43)]) w1_18 (fun x44 =>
      WU Tryz.prog (Instr.storeAt 69 x3 x44) w1_18 (fun w1_19 =>
      RD Tryz.prog (bo .sub 3 (.tmp 36) (.const (.int .i64 1)) (s_2 9) (.int .i64 1)) w1_19 (fun x37 =>
      rec_1 (sOf [(9, x37)]) w1_19) (PX R)) (PX R)) (PX R)) (PX R)) NX) NX) NX) (RD Tryz.prog (Instr.loadAt 69 x3) w1_17 (fun x45 =>
    WU Tryz.prog (Instr.storeAt 69 x2 x45) w1_17 (fun w1_20 =>
    RD Tryz.prog (Instr.loadAt 69 x2) w1_20 (fun r_1 => R (.returned r_1) w1_20) NX) (PX R)) (PX R))) (PX R))
      (sOf [(9, x33)]) w1_16) (PX R)) (PX R)) (PC R))) (PC R)))
    (sOf [(5, (.slice none 0 0)), (6, (.bool true))]) w1_3)) (PC R)) (PX R)) (PX R)) (PX R)) (PX R)
theorem sh_Pr_parser_list_ok {p0 : Value} {w : World} {R : Ending → World → Prop} (h : sh_Pr_parser_list p0 w R) : Calls Tryz.prog 109 #[p0] w R :=
  callsEq (args := [p0]) (good (fun n => match n with | 7 => [5, 6] | 16 => [9] | _ => []) (fun n => match n with | 13001 => some [] | _ => none) (fun n => match n with | 18 => 5 | _ => 0) (fun _ => none) (fun n => match n with | 7 => [] | 16 => [] | _ => []) (fun n => match n with | 13001 => [] | _ => []) (fun _ => false) (fun n => match n with | 4 => true | 6 => true | 8 => true | 12 => true | 13 => true | 15 => true | 23 => true | 25 => true | 26 => true | 35 => true | _ => false)) Tryz.func109 rfl (by kernel_rfl) (by kernel_rfl) (Nat.le_of_ble_eq_true (by kernel_rfl)) [] (by kernel_rfl) h
end Go.Proofs.YtkmpelgfhjgddaaGreatDoor
namespace Go.Proofs.YtkmpelgfhjgddaaGreatDoor
open Go.Proofs.YtkmpelgfhjgddaaGreatDoor.Sx
set_option maxRecDepth 100000
set_option linter.unusedVariables false
def sh_Pr_parser_variable (p0 p1 : Value) (w : World) (R : Ending → World → Prop) : Prop :=
  WR Tryz.prog (Instr.box 60 p1) w (fun x3 w1 =>
  WR Tryz.prog (Instr.alloc 69 true (.tuple #[])) w1 (fun x4 w1_1 =>
  LoopW (fun rec s d w1_2 =>
    NC p0 fun x8 =>
    RD Tryz.prog (Instr.fieldAt 58 x8 2) w1_2 (fun x9 =>
    RD Tryz.prog (Instr.loadAt 38 x9) w1_2 (fun x10 =>
    RD Tryz.prog (Builtin.len_ #[38] 3 #[x10]) w1_2 (fun x11 =>
    RD Tryz.prog (bo .lss 3 (.tmp 6) (.tmp 11) (s 5) x11) w1_2 (fun x12 => BS x12 (
    RD Tryz.prog (Instr.fieldAt 60 x3 1) w1_2 (fun x14 =>
    RD Tryz.prog (Instr.loadAt 9 x14) w1_2 (fun x15 =>
    RD Tryz.prog (bo .neq 9 (.tmp 15) (.const (.string (bs [95]))) x15 (.string (bs [95]))) w1_2 (fun x16 =>
    BS x16 (NC p0 fun x21 =>
    RD Tryz.prog (Instr.fieldAt 58 x21 2) w1_2.drew (fun x22 =>
    RD Tryz.prog (Instr.loadAt 38 x22) w1_2.drew (fun x23 =>
    RD Tryz.prog (Instr.indexAt 38 x23 (s 5)) w1_2.drew (fun x25 =>
    RD Tryz.prog (Instr.loadAt 9 x25) w1_2.drew (fun x26 =>
    RD Tryz.prog (Instr.fieldAt 60 x3 1) w1_2.drew (fun x27 =>
    RD Tryz.prog (Instr.loadAt 9 x27) w1_2.drew (fun x28 =>
    RD Tryz.prog (bo .eql 9 (.tmp 26) (.tmp 28) x26 x28) w1_2.drew (fun x29 =>
    BS x29 (RD Tryz.prog (Instr.build 69 #[(0, (.int .u8 118)), (3, (s 5))]) w1_2.drew (fun x31 =>
    WU Tryz.prog (Instr.storeAt 69 x4 x31) w1_2.drew (fun w1_3 =>
    RD Tryz.prog (Instr.loadAt 69 x4) w1_3 (fun r => R (.returned r) w1_3) NX) (PX R)) (PX R)) (RD Tryz.prog (bo .add 3 (.tmp 18) (.const (.int .i64 1)) (s 5) (.int .i64 1)) w1_2.drew (fun x19 =>
    rec (sOf [(5, x19)]) w1_2.drew) (PX R))) NX) NX) NX) NX) NX) NX) NX) (JN (fun j =>
    NC p0 fun x33 =>
    RD Tryz.prog (Instr.fieldAt 58 x33 2) w1_2 (fun x34 =>
    RD Tryz.prog (Instr.loadAt 38 x34) w1_2 (fun x35 =>
    RD Tryz.prog (Builtin.len_ #[38] 3 #[x35]) w1_2 (fun x36 =>
    RD Tryz.prog (bo .eql 3 (.tmp 36) (.const (.int .i64 12)) x36 (.int .i64 12)) w1_2 (fun x37 =>
    BS x37 (RD Tryz.prog (Instr.fieldAt 60 x3 2) w1_2 (fun x39 =>
    RD Tryz.prog (Instr.loadAt 3 x39) w1_2 (fun x40 =>
    CA Tryz.prog 17 #[p0, (.int .i64 4), x40] w1_2 (fun x41 w1_5 =>
    j (sOf []) w1_5) (PC R)) (PX R)) (PX R)) (j (sOf []) w1_2)) (PX R)) (PX R)) (PX R)) (PX R))
    (fun s_1 d_1 w1_4 =>
    HD fun S => S w1_4.drew ∧
    NC p0 fun x44 =>
    RDS Tryz.prog (Instr.fieldAt 58 x44 2) S (fun x45 =>
    RDS Tryz.prog (Instr.loadAt 38 x45) S (fun x46 =>
    RD Tryz.prog (Instr.fieldAt 60 x3 1) w1_4.drew (fun x47 =>
    RD Tryz.prog (Instr.loadAt 9 x47) w1_4.drew (fun x48 =>
    WR Tryz.prog (Instr.buildSlice 38 1 #[(0, x48)]) w1_4.drew (fun x49 w1_6 =>
    S w1_6 ∧
    WR Tryz.prog (Builtin.append_ #[38, 38] 38 #[x46, x49]) w1_6 (fun x50 w1_7 =>
    S w1_7 ∧
    NC p0 fun x51 =>
    RD Tryz.prog (Instr.fieldAt 58 x51 2) w1_7 (fun x52 =>
    WU Tryz.prog (Instr.storeAt 38 x52 x50) w1_7 (fun w1_8 =>
    NC p0 fun x54 =>
    RD Tryz.prog (Instr.fieldAt 58 x54 2) w1_8 (fun x55 =>
    RD Tryz.prog (Instr.loadAt 38 x55) w1_8 (fun x56 =>
    RD Tryz.prog (Builtin.len_ #[38] 3 #[x56]) w1_8 (fun x57 =>
    RD Tryz.prog (bo .sub 3 (.tmp 57) (.const (.int .i64 1)) x57 (.int .i64 1)) w1_8 (fun x58 =>
    RD Tryz.prog (Instr.build 69 #[(0, (.int .u8 118)), (3, x58)]) w1_8 (fun x59 =>
    WU Tryz.prog (Instr.storeAt 69 x4 x59) w1_8 (fun w1_9 =>
    RD Tryz.prog (Instr.loadAt 69 x4) w1_9 (fun r_1 => R (.returned r_1) w1_9) NX) (PX R)) (PX R)) (PX R)) (PX R)) (PX R)) (PX R)) NX) NX) NX) NX) NX) NX))))) (PX R)) (PX R)) (PX R)) (
    BS (.bool false) (NC p0 fun x21_1 =>
    RD Tryz.prog (Instr.fieldAt 58 x21_1 2) w1_2.drew (fun x22_1 =>
    RD Tryz.prog (Instr.loadAt 38 x22_1) w1_2.drew (fun x23_1 =>
    RD Tryz.prog (Instr.indexAt 38 x23_1 (s 5)) w1_2.drew (fun x25_1 =>
    RD Tryz.prog (Instr.loadAt 9 x25_1) w1_2.drew (fun x26_1 =>
    RD Tryz.prog (Instr.fieldAt 60 x3 1) w1_2.drew (fun x27_1 =>
    RD Tryz.prog (Instr.loadAt 9 x27_1) w1_2.drew (fun x28_1 =>
    RD Tryz.prog (bo .eql 9 (.tmp 26) (.tmp 28) x26_1 x28_1) w1_2.drew (fun x29_1 =>
    BS x29_1 (RD Tryz.prog (Instr.build 69 #[(0, (.int .u8 118)), (3, (s 5))]) w1_2.drew (fun x31_1 =>
    WU Tryz.prog (Instr.storeAt 69 x4 x31_1) w1_2.drew (fun w1_10 =>
    RD Tryz.prog (Instr.loadAt 69 x4) w1_10 (fun r_2 => R (.returned r_2) w1_10) NX) (PX R)) (PX R)) (RD Tryz.prog (bo .add 3 (.tmp 18) (.const (.int .i64 1)) (s 5) (.int .i64 1)) w1_2.drew (fun x19_1 =>
    rec (sOf [(5, x19_1)]) w1_2.drew) (PX R))) NX) NX) NX) NX) NX) NX) NX) (JN (fun j_1 =>
    NC p0 fun x33_1 =>
    RD Tryz.prog (Instr.fieldAt 58 x33_1 2) w1_2 (fun x34_1 =>
    RD Tryz.prog (Instr.loadAt 38 x34_1) w1_2 (fun x35_1 =>
    RD Tryz.prog (Builtin.len_ #[38] 3 #[x35_1]) w1_2 (fun x36_1 =>
    RD Tryz.prog (bo .eql 3 (.tmp 36) (.const (.int .i64 12)) x36_1 (.int .i64 12)) w1_2 (fun x37_1 =>
    BS x37_1 (RD Tryz.prog (Instr.fieldAt 60 x3 2) w1_2 (fun x39_1 =>
    RD Tryz.prog (Instr.loadAt 3 x39_1) w1_2 (fun x40_1 =>
    CA Tryz.prog 17 #[p0, (.int .i64 4), x40_1] w1_2 (fun x41_1 w1_12 =>
    j_1 (sOf []) w1_12) (PC R)) (PX R)) (PX R)) (j_1 (sOf []) w1_2)) (PX R)) (PX R)) (PX R)) (PX R))
    (fun s_2 d_2 w1_11 =>
    HD fun S_1 => S_1 w1_11.drew ∧
    NC p0 fun x44_1 =>
    RDS Tryz.prog (Instr.fieldAt 58 x44_1 2) S_1 (fun x45_1 =>
    RDS Tryz.prog (Instr.loadAt 38 x45_1) S_1 (fun x46_1 =>
    RD Tryz.prog (Instr.fieldAt 60 x3 1) w1_11.drew (fun x47_1 =>
    RD Tryz.prog (Instr.loadAt 9 x47_1) w1_11.drew (fun x48_1 =>
    WR Tryz.prog (Instr.buildSlice 38 1 #[(0, x48_1)]) w1_11.drew (fun x49_1 w1_13 =>
    S_1 w1_13 ∧
    WR Tryz.prog (Builtin.append_ #[38, 38] 38 #[x46_1, x49_1]) w1_13 (fun x50_1 w1_14 =>
    S_1 w1_14 ∧
    NC p0 fun x51_1 =>
    RD Tryz.prog (Instr.fieldAt 58 x51_1 2) w1_14 (fun x52_1 =>
    WU Tryz.prog (Instr.storeAt 38 x52_1 x50_1) w1_14 (fun w1_15 =>
    NC p0 fun x54_1 =>
    RD Tryz.prog (Instr.fieldAt 58 x54_1 2) w1_15 (fun x55_1 =>
    RD Tryz.prog (Instr.loadAt 38 x55_1) w1_15 (fun x56_1 =>
    RD Tryz.prog (Builtin.len_ #[38] 3 #[x56_1]) w1_15 (fun x57_1 =>
    RD Tryz.prog (bo .sub 3 (.tmp 57) (.const (.int .i64 1)) x57_1 (.int .i64 1)) w1_15 (fun x58_1 =>
    RD Tryz.prog (Instr.build 69 #[(0, (.int .u8 118)), (3, x58_1)]) w1_15 (fun x59_1 =>
    WU Tryz.prog (Instr.storeAt 69 x4 x59_1) w1_15 (fun w1_16 =>
    RD Tryz.prog (Instr.loadAt 69 x4) w1_16 (fun r_3 => R (.returned r_3) w1_16) NX) (PX R)) (PX R)) (PX R)) (PX R)) (PX R)) (PX R)) NX) NX) NX) NX) NX) NX)))))) (PX R)) (PX R)) (PX R)) (PX R))
    (sOf [(5, (.int .i64 0))]) w1_1) (PX R)) (PX R)
theorem sh_Pr_parser_variable_ok {p0 p1 : Value} {w : World} {R : Ending → World → Prop} (h : sh_Pr_parser_variable p0 p1 w R) : Calls Tryz.prog 108 #[p0, p1] w R :=
  callsEq (args := [p0, p1]) (good (fun n => match n with | 2 => [5] | _ => []) (fun n => match n with | 7001 => some [] | _ => none) (fun n => match n with | 4 => 10 | _ => 0) (fun n => match n with | 8 => some [12, 0, 1, 2, 3, 4, 5, 6, 7, 8, 9, 10, 11] | _ => none) (fun n => match n with | 2 => [] | _ => []) (fun n => match n with | 7001 => [] | _ => []) (fun _ => false) (fun n => match n with | 16 => true | 17 => true | 29 => true | 37 => true | _ => false)) Tryz.func108 rfl (by kernel_rfl) (by kernel_rfl) (Nat.le_of_ble_eq_true (by kernel_rfl)) [] (by kernel_rfl) h
def sh_r_value (p0 : Value) (w : World) (R : Ending → World → Prop) : Prop :=
  LoopW (fun rec s d w1 =>
    RD Tryz.prog (Builtin.len_ #[9] 3 #[p0]) w1 (fun x7 =>
    RD Tryz.prog (bo .lss 3 (.tmp 5) (.tmp 7) (s 4) x7) w1 (fun x8 =>
    BS x8 (RD Tryz.prog (bo .mul 2 (.const (.int .i64 10)) (.tmp 11) (.int .i64 10) (s 3)) w1 (fun x12 =>
    RD Tryz.prog (Instr.index 9 p0 (s 4)) w1 (fun x15 =>
    RD Tryz.prog (bo .sub 5 (.tmp 15) (.const (.int .u8 48)) x15 (.int .u8 48)) w1 (fun x16 =>
    WR Tryz.prog (convert 5 2 x16) w1 (fun x17 w1_1 =>
    RD Tryz.prog (bo .add 2 (.tmp 12) (.tmp 17) x12 x17) w1_1 (fun x18 =>
    RD Tryz.prog (bo .add 3 (.tmp 9) (.const (.int .i64 1)) (s 4) (.int .i64 1)) w1_1 (fun x10 =>
    rec (sOf [(3, x18), (4, x10)]) w1_1) (PX R)) (PX R)) (PX R)) (PX R)) (PX R)) (PX R)) (R (.returned (s 3)) w1)) (PX R)) (PX R))
    (sOf [(3, (.int .i64 0)), (4, (.int .i64 0))]) w
theorem sh_r_value_ok {p0 : Value} {w : World} {R : Ending → World → Prop} (h : sh_r_value p0 w R) : Calls Tryz.prog 107 #[p0] w R :=
  callsEq (args := [p0]) (good (fun n => match n with | 3 => [3, 4] | _ => []) (fun _ => none) (fun _ => 0) (fun _ => none) (fun n => match n with | 3 => [] | _ => []) (fun _ => []) (fun _ => false) (fun n => match n with | 8 => true | _ => false)) Tryz.func107 rfl (by kernel_rfl) (by kernel_rfl) (Nat.le_of_ble_eq_true (by kernel_rfl)) [] (by kernel_rfl) h
def sh_Pr_parser_bare (p0 : Value) (w : World) (R : Ending → World → Prop) : Prop :=
  WR Tryz.prog (Instr.alloc 69 true (.tuple #[])) w (fun x2 w1 =>
  CA Tryz.prog 16 #[p0] w1 (fun x13 w1_1 =>
  WR Tryz.prog (Instr.alloc 60 true (.tuple #[])) w1_1 (fun x3 w1_2 =>
  WU Tryz.prog (Instr.storeAt 60 x3 x13) w1_2 (fun w1_3 =>
  RD Tryz.prog (Instr.fieldAt 60 x3 0) w1_3 (fun x14 =>
  RD Tryz.prog (Instr.loadAt 5 x14) w1_3 (fun x15 =>
  RD Tryz.prog (bo .eql 5 (.tmp 15) (.const (.int .u8 110)) x15 (.int .u8 110)) w1_3 (fun x17 =>
  BS x17 (NC p0 fun x19 =>
  RD Tryz.prog (Instr.fieldAt 58 x19 1) w1_3 (fun x20 =>
  RD Tryz.prog (Instr.loadAt 3 x20) w1_3 (fun x21 =>
  RD Tryz.prog (bo .add 3 (.tmp 21) (.const (.int .i64 1)) x21 (.int .i64 1)) w1_3 (fun x22 =>
  NC p0 fun x23 =>
  RD Tryz.prog (Instr.fieldAt 58 x23 1) w1_3 (fun x24 =>
  WU Tryz.prog (Instr.storeAt 3 x24 x22) w1_3 (fun w1_4 =>
  RD Tryz.prog (Instr.fieldAt 60 x3 1) w1_4 (fun x25 =>
  RD Tryz.prog (Instr.loadAt 9 x25) w1_4 (fun x26 =>
  CA Tryz.prog 107 #[x26] w1_4 (fun x27 w1_5 =>
  RD Tryz.prog (Instr.build 69 #[(0, (.int .u8 110)), (2, x27)]) w1_5 (fun x29 =>
  WU Tryz.prog (Instr.storeAt 69 x2 x29) w1_5 (fun w1_6 =>
  RD Tryz.prog (Instr.loadAt 69 x2) w1_6 (fun r => R (.returned r) w1_6) NX) (PX R)) (PX R)) (PC R)) (PX R)) (PX R)) (PX R)) (PX R)) (PX R)) (PX R)) (PX R)) (RD Tryz.prog (bo .eql 5 (.tmp 15) (.const (.int .u8 118)) x15 (.int .u8 118)) w1_3 (fun x31 =>
  BS x31 (NC p0 fun x33 =>
  RD Tryz.prog (Instr.fieldAt 58 x33 1) w1_3 (fun x34 =>
  RD Tryz.prog (Instr.loadAt 3 x34) w1_3 (fun x35 =>
  RD Tryz.prog (bo .add 3 (.tmp 35) (.const (.int .i64 1)) x35 (.int .i64 1)) w1_3 (fun x36 =>
  NC p0 fun x37 =>
  RD Tryz.prog (Instr.fieldAt 58 x37 1) w1_3 (fun x38 =>
  WU Tryz.prog (Instr.storeAt 3 x38 x36) w1_3 (fun w1_7 =>
  RD Tryz.prog (Instr.loadAt 60 x3) w1_7 (fun x40 =>
  CA Tryz.prog 108 #[p0, x40] w1_7 (fun x41 w1_8 =>
  WU Tryz.prog (Instr.storeAt 69 x2 x41) w1_8 (fun w1_9 =>
  RD Tryz.prog (Instr.loadAt 69 x2) w1_9 (fun r_1 => R (.returned r_1) w1_9) NX) (PX R)) (PC R)) (PX R)) (PX R)) (PX R)) (PX R)) (PX R)) (PX R)) (RD Tryz.prog (bo .eql 5 (.tmp 15) (.const (.int .u8 97)) x15 (.int .u8 97)) w1_3 (fun x43 =>
  BS x43 (NC p0 fun x45 =>
  RD Tryz.prog (Instr.fieldAt 58 x45 1) w1_3 (fun x46 =>
  RD Tryz.prog (Instr.loadAt 3 x46) w1_3 (fun x47 =>
  RD Tryz.prog (bo .add 3 (.tmp 47) (.const (.int .i64 1)) x47 (.int .i64 1)) w1_3 (fun x48 =>
  NC p0 fun x49 =>
  RD Tryz.prog (Instr.fieldAt 58 x49 1) w1_3 (fun x50 =>
  WU Tryz.prog (Instr.storeAt 3 x50 x48) w1_3 (fun w1_10 =>
  RD Tryz.prog (Instr.fieldAt 60 x3 1) w1_10 (fun x51 =>
  RD Tryz.prog (Instr.loadAt 9 x51) w1_10 (fun x52 =>
  RD Tryz.prog (Instr.build 69 #[(0, (.int .u8 97)), (1, x52)]) w1_10 (fun x53 =>
  WR Tryz.prog (Instr.alloc 69 true (.tuple #[])) w1_10 (fun x5 w1_11 =>
  WU Tryz.prog (Instr.storeAt 69 x5 x53) w1_11 (fun w1_12 =>
  CA Tryz.prog 32 #[p0, (.string (bs [40]))] w1_12 (fun x55 w1_13 =>
  JN (fun j =>
    BS x55 (RD Tryz.prog (Instr.fieldAt 69 x5 0) w1_13 (fun x57 =>
    WU Tryz.prog (Instr.storeAt 5 x57 (.int .u8 99)) w1_13 (fun w1_15 =>
    RD Tryz.prog (Instr.fieldAt 60 x3 2) w1_15 (fun x59 =>
    RD Tryz.prog (Instr.loadAt 3 x59) w1_15 (fun x60 =>
    CA Tryz.prog 33 #[p0, x60] w1_15 (fun x61 w1_16 =>
    RD Tryz.prog (Instr.fieldAt 69 x5 4) w1_16 (fun x62 =>
    WU Tryz.prog (Instr.storeAt 34 x62 x61) w1_16 (fun w1_17 =>
    CA Tryz.prog 34 #[p0, (.string (bs [41]))] w1_17 (fun x64 w1_18 =>
    j (sOf []) w1_18) (PC R)) (PX R)) (PX R)) (PC R)) (PX R)) (PX R)) (PX R)) (PX R)) (j (sOf []) w1_13))
    (fun s d w1_14 =>
    RD Tryz.prog (Instr.loadAt 69 x5) w1_14 (fun x65 =>
    WU Tryz.prog (Instr.storeAt 69 x2 x65) w1_14 (fun w1_19 =>
    RD Tryz.prog (Instr.loadAt 69 x2) w1_19 (fun r_2 => R (.returned r_2) w1_19) NX) (PX R)) (PX R))) (PC R)) (PX R)) (PX R)) (PX R)) (PX R)) (PX R)) (PX R)) (PX R)) (PX R)) (PX R)) (PX R)) (CA Tryz.prog 32 #[p0, (.string (bs [45]))] w1_3 (fun x67 w1_20 =>
  BS x67 (CA Tryz.prog 16 #[p0] w1_20 (fun x70 w1_21 =>
  WU Tryz.prog (Instr.storeAt 60 x3 x70) w1_21 (fun w1_22 =>
  RD Tryz.prog (Instr.fieldAt 60 x3 0) w1_22 (fun x71 =>
  RD Tryz.prog (Instr.loadAt 5 x71) w1_22 (fun x72 =>
  RD Tryz.prog (bo .neq 5 (.tmp 72) (.const (.int .u8 110)) x72 (.int .u8 110)) w1_22 (fun x73 =>
  BS x73 (CA Tryz.prog 31 #[p0] w1_22 (fun x75 w1_23 =>
  RD Tryz.prog (Instr.build 69 #[]) w1_23 (fun x76 =>
  WU Tryz.prog (Instr.storeAt 69 x2 x76) w1_23 (fun w1_24 =>
  RD Tryz.prog (Instr.loadAt 69 x2) w1_24 (fun r_3 => R (.returned r_3) w1_24) NX) (PX R)) (PX R)) (PC R)) (NC p0 fun x78 =>
  RD Tryz.prog (Instr.fieldAt 58 x78 1) w1_22 (fun x79 =>
  RD Tryz.prog (Instr.loadAt 3 x79) w1_22 (fun x80 =>
  RD Tryz.prog (bo .add 3 (.tmp 80) (.const (.int .i64 1)) x80 (.int .i64 1)) w1_22 (fun x81 =>
  NC p0 fun x82 =>
  RD Tryz.prog (Instr.fieldAt 58 x82 1) w1_22 (fun x83 =>
  WU Tryz.prog (Instr.storeAt 3 x83 x81) w1_22 (fun w1_25 =>
  RD Tryz.prog (Instr.fieldAt 60 x3 1) w1_25 (fun x84 =>
  RD Tryz.prog (Instr.loadAt 9 x84) w1_25 (fun x85 =>
  CA Tryz.prog 107 #[x85] w1_25 (fun x86 w1_26 =>
  RD Tryz.prog (Op.unary .neg x86) w1_26 (fun x88 =>
  RD Tryz.prog (Instr.build 69 #[(0, (.int .u8 110)), (2, x88)]) w1_26 (fun x89 =>
  WU Tryz.prog (Instr.storeAt 69 x2 x89) w1_26 (fun w1_27 =>
  RD Tryz.prog (Instr.loadAt 69 x2) w1_27 (fun r_4 => R (.returned r_4) w1_27) NX) (PX R)) (PX R)) (PX R)) (PC R)) (PX R)) (PX R)) (PX R)) (PX R)) (PX R)) (PX R)) (PX R))) (PX R)) (PX R)) (PX R)) (PX R)) (PC R)) (CA Tryz.prog 32 #[p0, (.string (bs [40]))] w1_20 (fun x91 w1_28 =>
  BS x91 (CA Tryz.prog 22 #[p0] w1_28 (fun x94 w1_29 =>
  WR Tryz.prog (Instr.alloc 69 true (.tuple #[])) w1_29 (fun x10 w1_30 =>
  WU Tryz.prog (Instr.storeAt 69 x10 x94) w1_30 (fun w1_31 =>
  CA Tryz.prog 34 #[p0, (.string (bs [41]))] w1_31 (fun x96 w1_32 =>
  RD Tryz.prog (Instr.loadAt 69 x10) w1_32 (fun x97 =>
  WU Tryz.prog (Instr.storeAt 69 x2 x97) w1_32 (fun w1_33 =>
  RD Tryz.prog (Instr.loadAt 69 x2) w1_33 (fun r_5 => R (.returned r_5) w1_33) NX) (PX R)) (PX R)) (PC R)) (PX R)) (PX R)) (PC R)) (CA Tryz.prog 32 #[p0, (.string (bs [91]))] w1_28 (fun x99 w1_34 =>
  BS x99 (CA Tryz.prog 109 #[p0] w1_34 (fun x102 w1_35 =>
  WU Tryz.prog (Instr.storeAt 69 x2 x102) w1_35 (fun w1_36 =>
  RD Tryz.prog (Instr.loadAt 69 x2) w1_36 (fun r_6 => R (.returned r_6) w1_36) NX) (PX R)) (PC R)) (CA Tryz.prog 31 #[p0] w1_34 (fun x104 w1_37 =>
  RD Tryz.prog (Instr.build 69 #[]) w1_37 (fun x105 =>
  WU Tryz.prog (Instr.storeAt 69 x2 x105) w1_37 (fun w1_38 =>
  RD Tryz.prog (Instr.loadAt 69 x2) w1_38 (fun r_7 => R (.returned r_7) w1_38) NX) (PX R)) (PX R)) (PC R))) (PC R))) (PC R))) (PC R))) (PX R))) (PX R))) (PX R)) (PX R)) (PX R)) (PX R)) (PX R)) (PC R)) (PX R)
theorem sh_Pr_parser_bare_ok {p0 : Value} {w : World} {R : Ending → World → Prop} (h : sh_Pr_parser_bare p0 w R) : Calls Tryz.prog 93 #[p0] w R :=
  callsEq (args := [p0]) (good (fun _ => []) (fun n => match n with | 17003 => some [] | _ => none) (fun _ => 0) (fun _ => none) (fun _ => []) (fun n => match n with | 17003 => [] | _ => []) (fun _ => false) (fun n => match n with | 6 => true | 7 => true | 9 => true | 11 => true | 16 => true | 17 => true | 30 => true | 31 => true | 42 => true | 43 => true | 55 => true | 56 => true | 67 => true | 68 => true | 73 => true | 91 => true | 92 => true | 99 => true | 100 => true | _ => false)) Tryz.func93 rfl (by kernel_rfl) (by kernel_rfl) (Nat.le_of_ble_eq_true (by kernel_rfl)) [] (by kernel_rfl) h
def sh_Pr_parser_args (p0 p1 : Value) (w : World) (R : Ending → World → Prop) : Prop :=
  LoopW (fun rec s d w1 =>
    BS (s 6) (CA Tryz.prog 22 #[p0] w1 (fun x10 w1_1 =>
    WR Tryz.prog (Instr.alloc 69 true (.tuple #[])) w1_1 (fun x7 w1_2 =>
    WU Tryz.prog (Instr.storeAt 69 x7 x10) w1_2 (fun w1_3 =>
    RD Tryz.prog (Instr.loadAt 69 x7) w1_3 (fun x12 =>
    WR Tryz.prog (Instr.buildSlice 34 1 #[(0, x12)]) w1_3 (fun x13 w1_4 =>
    WR Tryz.prog (Builtin.append_ #[34, 34] 34 #[(s 5), x13]) w1_4 (fun x14 w1_5 =>
    CA Tryz.prog 32 #[p0, (.string (bs [44]))] w1_5 (fun x16 w1_6 =>
    rec (sOf [(5, x14), (6, x16)]) w1_6) (PC R)) (PX R)) (PX R)) (PX R)) (PX R)) (PX R)) (PC R)) (JN (fun j =>
    RD Tryz.prog (Builtin.len_ #[34] 3 #[(s 5)]) w1 (fun x18 =>
    RD Tryz.prog (bo .gtr 3 (.tmp 18) (.const (.int .i64 4)) x18 (.int .i64 4)) w1 (fun x19 =>
    BS x19 (CA Tryz.prog 17 #[p0, (.int .i64 4), p1] w1 (fun x22 w1_8 =>
    j (sOf []) w1_8) (PC R)) (j (sOf []) w1)) (PX R)) (PX R))
    (fun s_1 d_1 w1_7 =>
    R (.returned (s 5)) w1_7)))
    (sOf [(5, (.slice none 0 0)), (6, (.bool true))]) w
theorem sh_Pr_parser_args_ok {p0 p1 : Value} {w : World} {R : Ending → World → Prop} (h : sh_Pr_parser_args p0 p1 w R) : Calls Tryz.prog 33 #[p0, p1] w R :=
  callsEq (args := [p0, p1]) (good (fun n => match n with | 3 => [5, 6] | _ => []) (fun n => match n with | 8001 => some [] | _ => none) (fun _ => 0) (fun _ => none) (fun n => match n with | 3 => [] | _ => []) (fun n => match n with | 8001 => [] | _ => []) (fun _ => false) (fun n => match n with | 6 => true | 8 => true | 16 => true | 19 => true | _ => false)) Tryz.func33 rfl (by kernel_rfl) (by kernel_rfl) (Nat.le_of_ble_eq_true (by kernel_rfl)) [] (by kernel_rfl) h
def sh_Pr_parser_product (p0 : Value) (w : World) (R : Ending → World → Prop) : Prop :=
  WR Tryz.prog (Instr.alloc 69 true (.tuple #[])) w (fun x2 w1 =>
  CA Tryz.prog 75 #[p0] w1 (fun x7 w1_1 =>
  WR Tryz.prog (Instr.alloc 69 true (.tuple #[])) w1_1 (fun x3 w1_2 =>
  WU Tryz.prog (Instr.storeAt 69 x3 x7) w1_2 (fun w1_3 =>
  JN (fun j =>
    LoopW (fun rec s_1 d_1 w1_5 =>
      NC p0 fun x9 =>
      RD Tryz.prog (Instr.fieldAt 58 x9 4) w1_5 (fun x10 =>
      RD Tryz.prog (Instr.loadAt 29 x10) w1_5 (fun x11 =>
      RD Tryz.prog (bo .eql 29 (.tmp 11) (.const (.int .i64 0)) x11 (.int .i64 0)) w1_5 (fun x12 =>
      BS x12 (CA Tryz.prog 16 #[p0] w1_5 (fun x14 w1_6 =>
      WR Tryz.prog (Instr.alloc 60 true (.tuple #[])) w1_6 (fun x4 w1_7 =>
      WU Tryz.prog (Instr.storeAt 60 x4 x14) w1_7 (fun w1_8 =>
      RD Tryz.prog (Instr.fieldAt 60 x4 0) w1_8 (fun x15 =>
      RD Tryz.prog (Instr.loadAt 5 x15) w1_8 (fun x16 =>
      RD Tryz.prog (bo .neq 5 (.tmp 16) (.const (.int .u8 115)) x16 (.int .u8 115)) w1_8 (fun x17 => BS x17 (
      RD Tryz.prog (Instr.fieldAt 60 x4 0) w1_8 (fun x29 =>
      RD Tryz.prog (Instr.loadAt 5 x29) w1_8 (fun x30 =>
      RD Tryz.prog (bo .neq 5 (.tmp 30) (.const (.int .u8 97)) x30 (.int .u8 97)) w1_8 (fun x31 => BS x31 (
      BS (.bool true) (j (sOf []) w1_8) (NC p0 fun x39 =>
      RD Tryz.prog (Instr.fieldAt 58 x39 1) w1_8 (fun x40 =>
      RD Tryz.prog (Instr.loadAt 3 x40) w1_8 (fun x41 =>
      RD Tryz.prog (bo .add 3 (.tmp 41) (.const (.int .i64 1)) x41 (.int .i64 1)) w1_8 (fun x42 =>
      NC p0 fun x43 =>
      RD Tryz.prog (Instr.fieldAt 58 x43 1) w1_8 (fun x44 =>
      WU Tryz.prog (Instr.storeAt 3 x44 x42) w1_8 (fun w1_9 =>
      CA Tryz.prog 75 #[p0] w1_9 (fun x46 w1_10 =>
      WR Tryz.prog (Instr.alloc 69 true (.tuple #[])) w1_10 (fun x5 w1_11 =>
      WU Tryz.prog (Instr.storeAt 69 x5 x46) w1_11 (fun w1_12 =>
      RD Tryz.prog (Instr.fieldAt 60 x4 1) w1_12 (fun x47 =>
      RD Tryz.prog (Instr.loadAt 9 x47) w1_12 (fun x48 =>
      RD Tryz.prog (Instr.loadAt 69 x3) w1_12 (fun x49 =>
      RD Tryz.prog (Instr.loadAt 69 x5) w1_12 (fun x50 =>
      WR Tryz.prog (Instr.buildSlice 34 2 #[(0, x49), (1, x50)]) w1_12 (fun x51 w1_13 =>
      RD Tryz.prog (Instr.build 69 #[(0, (.int .u8 99)), (1, x48), (4, x51)]) w1_13 (fun x52 =>
      WU Tryz.prog (Instr.storeAt 69 x3 x52) w1_13 (fun w1_14 =>
      rec (sOf []) w1_14) (PX R)) (PX R)) (PX R)) (PX R)) (PX R)) (PX R)) (PX R)) (PX R)) (PX R)) (PC R)) (PX R)) (PX R)) (PX R)) (PX R)) (PX R))) (
      RD Tryz.prog (Instr.fieldAt 60 x4 1) w1_8 (fun x33 =>
      RD Tryz.prog (Instr.loadAt 9 x33) w1_8 (fun x34 =>
      RD Tryz.prog (bo .neq 9 (.tmp 34) (.const (.string (bs [109, 111, 100]))) x34 (.string (bs [109, 111, 100]))) w1_8 (fun x35 =>
      BS x35 (j (sOf []) w1_8) (NC p0 fun x39_1 =>
      RD Tryz.prog (Instr.fieldAt 58 x39_1 1) w1_8 (fun x40_1 =>
      RD Tryz.prog (Instr.loadAt 3 x40_1) w1_8 (fun x41_1 =>
      RD Tryz.prog (bo .add 3 (.tmp 41) (.const (.int .i64 1)) x41_1 (.int .i64 1)) w1_8 (fun x42_1 =>
      NC p0 fun x43_1 =>
      RD Tryz.prog (Instr.fieldAt 58 x43_1 1) w1_8 (fun x44_1 =>
      WU Tryz.prog (Instr.storeAt 3 x44_1 x42_1) w1_8 (fun w1_15 =>
      CA Tryz.prog 75 #[p0] w1_15 (fun x46_1 w1_16 =>
      WR Tryz.prog (Instr.alloc 69 true (.tuple #[])) w1_16 (fun x5_1 w1_17 =>
      WU Tryz.prog (Instr.storeAt 69 x5_1 x46_1) w1_17 (fun w1_18 =>
      RD Tryz.prog (Instr.fieldAt 60 x4 1) w1_18 (fun x47_1 =>
      RD Tryz.prog (Instr.loadAt 9 x47_1) w1_18 (fun x48_1 =>
      RD Tryz.prog (Instr.loadAt 69 x3) w1_18 (fun x49_1 =>
      RD Tryz.prog (Instr.loadAt 69 x5_1) w1_18 (fun x50_1 =>
      WR Tryz.prog (Instr.buildSlice 34 2 #[(0, x49_1), (1, x50_1)]) w1_18 (fun x51_1 w1_19 =>
      RD Tryz.prog (Instr.build 69 #[(0, (.int .u8 99)), (1, x48_1), (4, x51_1)]) w1_19 (fun x52_1 =>
      WU Tryz.prog (Instr.storeAt 69 x3 x52_1) w1_19 (fun w1_20 =>
      rec (sOf []) w1_20) (PX R)) (PX R)) (PX R)) (PX R)) (PX R)) (PX R)) (PX R)) (PX R)) (PX R)) (PC R)) (PX R)) (PX R)) (PX R)) (PX R)) (PX R))) (PX R)) (PX R)) (PX R))) (PX R)) (PX R)) (PX R)) (
      RD Tryz.prog (Instr.fieldAt 60 x4 1) w1_8 (fun x19 =>
      RD Tryz.prog (Instr.loadAt 9 x19) w1_8 (fun x20 =>
      RD Tryz.prog (bo .neq 9 (.tmp 20) (.const (.string (bs [42]))) x20 (.string (bs [42]))) w1_8 (fun x21 => BS x21 (
      RD Tryz.prog (Instr.fieldAt 60 x4 1) w1_8 (fun x23 =>
      RD Tryz.prog (Instr.loadAt 9 x23) w1_8 (fun x24 =>
      RD Tryz.prog (bo .neq 9 (.tmp 24) (.const (.string (bs [47, 47]))) x24 (.string (bs [47, 47]))) w1_8 (fun x25 => BS x25 (
      RD Tryz.prog (Instr.fieldAt 60 x4 0) w1_8 (fun x29_1 =>
      RD Tryz.prog (Instr.loadAt 5 x29_1) w1_8 (fun x30_1 =>
      RD Tryz.prog (bo .neq 5 (.tmp 30) (.const (.int .u8 97)) x30_1 (.int .u8 97)) w1_8 (fun x31_1 => BS x31_1 (
      BS (.bool true) (j (sOf []) w1_8) (NC p0 fun x39_2 =>
      RD Tryz.prog (Instr.fieldAt 58 x39_2 1) w1_8 (fun x40_2 =>
      RD Tryz.prog (Instr.loadAt 3 x40_2) w1_8 (fun x41_2 =>
      RD Tryz.prog (bo .add 3 (.tmp 41) (.const (.int .i64 1)) x41_2 (.int .i64 1)) w1_8 (fun x42_2 =>
      NC p0 fun x43_2 =>
      RD Tryz.prog (Instr.fieldAt 58 x43_2 1) w1_8 (fun x44_2 =>
      WU Tryz.prog (Instr.storeAt 3 x44_2 x42_2) w1_8 (fun w1_21 =>
      CA Tryz.prog 75 #[p0] w1_21 (fun x46_2 w1_22 =>
      WR Tryz.prog (Instr.alloc 69 true (.tuple #[])) w1_22 (fun x5_2 w1_23 =>
      WU Tryz.prog (Instr.storeAt 69 x5_2 x46_2) w1_23 (fun w1_24 =>
      RD Tryz.prog (Instr.fieldAt 60 x4 1) w1_24 (fun x47_2 =>
      RD Tryz.prog (Instr.loadAt 9 x47_2) w1_24 (fun x48_2 =>
      RD Tryz.prog (Instr.loadAt 69 x3) w1_24 (fun x49_2 =>
      RD Tryz.prog (Instr.loadAt 69 x5_2) w1_24 (fun x50_2 =>
      WR Tryz.prog (Instr.buildSlice 34 2 #[(0, x49_2), (1, x50_2)]) w1_24 (fun x51_2 w1_25 =>
      RD Tryz.prog (Instr.build 69 #[(0, (.int .u8 99)), (1, x48_2), (4, x51_2)]) w1_25 (fun x52_2 =>
      WU Tryz.prog (Instr.storeAt 69 x3 x52_2) w1_25 (fun w1_26 =>
      rec (sOf []) w1_26) (PX R)) (PX R)) (PX R)) (PX R)) (PX R)) (PX R)) (PX R)) (PX R)) (PX R)) (PC R)) (PX R)) (PX R)) (PX R)) (PX R)) (PX R))) (
      RD Tryz.prog (Instr.fieldAt 60 x4 1) w1_8 (fun x33_1 =>
      RD Tryz.prog (Instr.loadAt 9 x33_1) w1_8 (fun x34_1 =>
      RD Tryz.prog (bo .neq 9 (.tmp 34) (.const (.string (bs [109, 111, 100]))) x34_1 (.string (bs [109, 111, 100]))) w1_8 (fun x35_1 =>
      BS x35_1 (j (sOf []) w1_8) (NC p0 fun x39_3 =>
      RD Tryz.prog (Instr.fieldAt 58 x39_3 1) w1_8 (fun x40_3 =>
      RD Tryz.prog (Instr.loadAt 3 x40_3) w1_8 (fun x41_3 =>
      RD Tryz.prog (bo .add 3 (.tmp 41) (.const (.int .i64 1)) x41_3 (.int .i64 1)) w1_8 (fun x42_3 =>
      NC p0 fun x43_3 =>
      RD Tryz.prog (Instr.fieldAt 58 x43_3 1) w1_8 (fun x44_3 =>
      WU Tryz.prog (Instr.storeAt 3 x44_3 x42_3) w1_8 (fun w1_27 =>
      CA Tryz.prog 75 #[p0] w1_27 (fun x46_3 w1_28 =>
      WR Tryz.prog (Instr.alloc 69 true (.tuple #[])) w1_28 (fun x5_3 w1_29 =>
      WU Tryz.prog (Instr.storeAt 69 x5_3 x46_3) w1_29 (fun w1_30 =>
      RD Tryz.prog (Instr.fieldAt 60 x4 1) w1_30 (fun x47_3 =>
      RD Tryz.prog (Instr.loadAt 9 x47_3) w1_30 (fun x48_3 =>
      RD Tryz.prog (Instr.loadAt 69 x3) w1_30 (fun x49_3 =>
      RD Tryz.prog (Instr.loadAt 69 x5_3) w1_30 (fun x50_3 =>
      WR Tryz.prog (Instr.buildSlice 34 2 #[(0, x49_3), (1, x50_3)]) w1_30 (fun x51_3 w1_31 =>
      RD Tryz.prog (Instr.build 69 #[(0, (.int .u8 99)), (1, x48_3), (4, x51_3)]) w1_31 (fun x52_3 =>
      WU Tryz.prog (Instr.storeAt 69 x3 x52_3) w1_31 (fun w1_32 =>
      rec (sOf []) w1_32) (PX R)) (PX R)) (PX R)) (PX R)) (PX R)) (PX R)) (PX R)) (PX R)) (PX R)) (PC R)) (PX R)) (PX R)) (PX R)) (PX R)) (PX R))) (PX R)) (PX R)) (PX R))) (PX R)) (PX R)) (PX R)) (
      BS (.bool false) (j (sOf []) w1_8) (NC p0 fun x39_4 =>
      RD Tryz.prog (Instr.fieldAt 58 x39_4 1) w1_8 (fun x40_4 =>
      RD Tryz.prog (Instr.loadAt 3 x40_4) w1_8 (fun x41_4 =>
      RD Tryz.prog (bo .add 3 (.tmp 41) (.const (.int .i64 1)) x41_4 (.int .i64 1)) w1_8 (fun x42_4 =>
      NC p0 fun x43_4 =>
      RD Tryz.prog (Instr.fieldAt 58 x43_4 1) w1_8 (fun x44_4 =>
      WU Tryz.prog (Instr.storeAt 3 x44_4 x42_4) w1_8 (fun w1_33 =>
      CA Tryz.prog 75 #[p0] w1_33 (fun x46_4 w1_34 =>
      WR Tryz.prog (Instr.alloc 69 true (.tuple #[])) w1_34 (fun x5_4 w1_35 =>
      WU Tryz.prog (Instr.storeAt 69 x5_4 x46_4) w1_35 (fun w1_36 =>
      RD Tryz.prog (Instr.fieldAt 60 x4 1) w1_36 (fun x47_4 =>
      RD Tryz.prog (Instr.loadAt 9 x47_4) w1_36 (fun x48_4 =>
      RD Tryz.prog (Instr.loadAt 69 x3) w1_36 (fun x49_4 =>
      RD Tryz.prog (Instr.loadAt 69 x5_4) w1_36 (fun x50_4 =>
      WR Tryz.prog (Instr.buildSlice 34 2 #[(0, x49_4), (1, x50_4)]) w1_36 (fun x51_4 w1_37 =>
      RD Tryz.prog (Instr.build 69 #[(0, (.int .u8 99)), (1, x48_4), (4, x51_4)]) w1_37 (fun x52_4 =>
      WU Tryz.prog (Instr.storeAt 69 x3 x52_4) w1_37 (fun w1_38 =>
      rec (sOf []) w1_38) (PX R)) (PX R)) (PX R)) (PX R)) (PX R)) (PX R)) (PX R)) (PX R)) (PX R)) (PC R)) (PX R)) (PX R)) (PX R)) (PX R)) (PX R)))) (PX R)) (PX R)) (PX R)) (
      BS (.bool false) (j (sOf []) w1_8) (NC p0 fun x39_5 =>
      RD Tryz.prog (Instr.fieldAt 58 x39_5 1) w1_8 (fun x40_5 =>
      RD Tryz.prog (Instr.loadAt 3 x40_5) w1_8 (fun x41_5 =>
      RD Tryz.prog (bo .add 3 (.tmp 41) (.const (.int .i64 1)) x41_5 (.int .i64 1)) w1_8 (fun x42_5 =>
      NC p0 fun x43_5 =>
      RD Tryz.prog (Instr.fieldAt 58 x43_5 1) w1_8 (fun x44_5 =>
      WU Tryz.prog (Instr.storeAt 3 x44_5 x42_5) w1_8 (fun w1_39 =>
      CA Tryz.prog 75 #[p0] w1_39 (fun x46_5 w1_40 =>
      WR Tryz.prog (Instr.alloc 69 true (.tuple #[])) w1_40 (fun x5_5 w1_41 =>
      WU Tryz.prog (Instr.storeAt 69 x5_5 x46_5) w1_41 (fun w1_42 =>
      RD Tryz.prog (Instr.fieldAt 60 x4 1) w1_42 (fun x47_5 =>
      RD Tryz.prog (Instr.loadAt 9 x47_5) w1_42 (fun x48_5 =>
      RD Tryz.prog (Instr.loadAt 69 x3) w1_42 (fun x49_5 =>
      RD Tryz.prog (Instr.loadAt 69 x5_5) w1_42 (fun x50_5 =>
      WR Tryz.prog (Instr.buildSlice 34 2 #[(0, x49_5), (1, x50_5)]) w1_42 (fun x51_5 w1_43 =>
      RD Tryz.prog (Instr.build 69 #[(0, (.int .u8 99)), (1, x48_5), (4, x51_5)]) w1_43 (fun x52_5 =>
      WU Tryz.prog (Instr.storeAt 69 x3 x52_5) w1_43 (fun w1_44 =>
      rec (sOf []) w1_44) (PX R)) (PX R)) (PX R)) (PX R)) (PX R)) (PX R)) (PX R)) (PX R)) (PX R)) (PC R)) (PX R)) (PX R)) (PX R)) (PX R)) (PX R)))) (PX R)) (PX R)) (PX R))) (PX R)) (PX R)) (PX R)) (PX R)) (PX R)) (PC R)) (j (sOf []) w1_5)) (PX R)) (PX R)) (PX R))
      (sOf []) w1_3)
    (fun s d w1_4 =>
    RD Tryz.prog (Instr.loadAt 69 x3) w1_4 (fun x53 =>
    WU Tryz.prog (Instr.storeAt 69 x2 x53) w1_4 (fun w1_45 =>
    RD Tryz.prog (Instr.loadAt 69 x2) w1_45 (fun r => R (.returned r) w1_45) NX) (PX R)) (PX R))) (PX R)) (PX R)) (PC R)) (PX R)
theorem sh_Pr_parser_product_ok {p0 : Value} {w : World} {R : Ending → World → Prop} (h : sh_Pr_parser_product p0 w R) : Calls Tryz.prog 41 #[p0] w R :=
  callsEq (args := [p0]) (good (fun n => match n with | 2 => [] | _ => []) (fun n => match n with | 7005 => some [] | _ => none) (fun _ => 0) (fun _ => none) (fun n => match n with | 2 => [] | _ => []) (fun n => match n with | 7005 => [] | _ => []) (fun _ => false) (fun n => match n with | 12 => true | 35 => true | 36 => true | 37 => true | _ => false)) Tryz.func41 rfl (by kernel_rfl) (by kernel_rfl) (Nat.le_of_ble_eq_true (by kernel_rfl)) [] (by kernel_rfl) h
def sh_Pr_parser_expr (p0 : Value) (w : World) (R : Ending → World → Prop) : Prop :=
  WR Tryz.prog (Instr.alloc 69 true (.tuple #[])) w (fun x2 w1 =>
  CA Tryz.prog 41 #[p0] w1 (fun x7 w1_1 =>
  WR Tryz.prog (Instr.alloc 69 true (.tuple #[])) w1_1 (fun x3 w1_2 =>
  WU Tryz.prog (Instr.storeAt 69 x3 x7) w1_2 (fun w1_3 =>
  JN (fun j =>
    LoopW (fun rec s_1 d_1 w1_5 =>
      NC p0 fun x9 =>
      RD Tryz.prog (Instr.fieldAt 58 x9 4) w1_5 (fun x10 =>
      RD Tryz.prog (Instr.loadAt 29 x10) w1_5 (fun x11 =>
      RD Tryz.prog (bo .eql 29 (.tmp 11) (.const (.int .i64 0)) x11 (.int .i64 0)) w1_5 (fun x12 =>
      BS x12 (CA Tryz.prog 16 #[p0] w1_5 (fun x14 w1_6 =>
      WR Tryz.prog (Instr.alloc 60 true (.tuple #[])) w1_6 (fun x4 w1_7 =>
      WU Tryz.prog (Instr.storeAt 60 x4 x14) w1_7 (fun w1_8 =>
      RD Tryz.prog (Instr.fieldAt 60 x4 0) w1_8 (fun x15 =>
      RD Tryz.prog (Instr.loadAt 5 x15) w1_8 (fun x16 =>
      RD Tryz.prog (bo .neq 5 (.tmp 16) (.const (.int .u8 115)) x16 (.int .u8 115)) w1_8 (fun x17 => BS x17 (
      BS (.bool true) (j (sOf []) w1_8) (NC p0 fun x29 =>
      RD Tryz.prog (Instr.fieldAt 58 x29 1) w1_8 (fun x30 =>
      RD Tryz.prog (Instr.loadAt 3 x30) w1_8 (fun x31 =>
      RD Tryz.prog (bo .add 3 (.tmp 31) (.const (.int .i64 1)) x31 (.int .i64 1)) w1_8 (fun x32 =>
      NC p0 fun x33 =>
      RD Tryz.prog (Instr.fieldAt 58 x33 1) w1_8 (fun x34 =>
      WU Tryz.prog (Instr.storeAt 3 x34 x32) w1_8 (fun w1_9 =>
      CA Tryz.prog 41 #[p0] w1_9 (fun x36 w1_10 =>
      WR Tryz.prog (Instr.alloc 69 true (.tuple #[])) w1_10 (fun x5 w1_11 =>
      WU Tryz.prog (Instr.storeAt 69 x5 x36) w1_11 (fun w1_12 =>
      RD Tryz.prog (Instr.fieldAt 60 x4 1) w1_12 (fun x37 =>
      RD Tryz.prog (Instr.loadAt 9 x37) w1_12 (fun x38 =>
      RD Tryz.prog (Instr.loadAt 69 x3) w1_12 (fun x39 =>
      RD Tryz.prog (Instr.loadAt 69 x5) w1_12 (fun x40 =>
      WR Tryz.prog (Instr.buildSlice 34 2 #[(0, x39), (1, x40)]) w1_12 (fun x41 w1_13 =>
      RD Tryz.prog (Instr.build 69 #[(0, (.int .u8 99)), (1, x38), (4, x41)]) w1_13 (fun x42 =>
      WU Tryz.prog (Instr.storeAt 69 x3 x42) w1_13 (fun w1_14 =>
      rec (sOf []) w1_14) (PX R)) (PX R)) (PX R)) (PX R)) (PX R)) (PX R)) (PX R)) (PX R)) (PX R)) (PC R)) (PX R)) (PX R)) (PX R)) (PX R)) (PX R))) (
      RD Tryz.prog (Instr.fieldAt 60 x4 1) w1_8 (fun x19 =>
      RD Tryz.prog (Instr.loadAt 9 x19) w1_8 (fun x20 =>
      RD Tryz.prog (bo .neq 9 (.tmp 20) (.const (.string (bs [43]))) x20 (.string (bs [43]))) w1_8 (fun x21 => BS x21 (
      RD Tryz.prog (Instr.fieldAt 60 x4 1) w1_8 (fun x23 =>
      RD Tryz.prog (Instr.loadAt 9 x23) w1_8 (fun x24 =>
      RD Tryz.prog (bo .neq 9 (.tmp 24) (.const (.string (bs [45]))) x24 (.string (bs [45]))) w1_8 (fun x25 =>
      BS x25 (j (sOf []) w1_8) (NC p0 fun x29_1 =>
      RD Tryz.prog (Instr.fieldAt 58 x29_1 1) w1_8 (fun x30_1 =>
      RD Tryz.prog (Instr.loadAt 3 x30_1) w1_8 (fun x31_1 =>
      RD Tryz.prog (bo .add 3 (.tmp 31) (.const (.int .i64 1)) x31_1 (.int .i64 1)) w1_8 (fun x32_1 =>
      NC p0 fun x33_1 =>
      RD Tryz.prog (Instr.fieldAt 58 x33_1 1) w1_8 (fun x34_1 =>
      WU Tryz.prog (Instr.storeAt 3 x34_1 x32_1) w1_8 (fun w1_15 =>
      CA Tryz.prog 41 #[p0] w1_15 (fun x36_1 w1_16 =>
      WR Tryz.prog (Instr.alloc 69 true (.tuple #[])) w1_16 (fun x5_1 w1_17 =>
      WU Tryz.prog (Instr.storeAt 69 x5_1 x36_1) w1_17 (fun w1_18 =>
      RD Tryz.prog (Instr.fieldAt 60 x4 1) w1_18 (fun x37_1 =>
      RD Tryz.prog (Instr.loadAt 9 x37_1) w1_18 (fun x38_1 =>
      RD Tryz.prog (Instr.loadAt 69 x3) w1_18 (fun x39_1 =>
      RD Tryz.prog (Instr.loadAt 69 x5_1) w1_18 (fun x40_1 =>
      WR Tryz.prog (Instr.buildSlice 34 2 #[(0, x39_1), (1, x40_1)]) w1_18 (fun x41_1 w1_19 =>
      RD Tryz.prog (Instr.build 69 #[(0, (.int .u8 99)), (1, x38_1), (4, x41_1)]) w1_19 (fun x42_1 =>
      WU Tryz.prog (Instr.storeAt 69 x3 x42_1) w1_19 (fun w1_20 =>
      rec (sOf []) w1_20) (PX R)) (PX R)) (PX R)) (PX R)) (PX R)) (PX R)) (PX R)) (PX R)) (PX R)) (PC R)) (PX R)) (PX R)) (PX R)) (PX R)) (PX R))) (PX R)) (PX R)) (PX R)) (
      BS (.bool false) (j (sOf []) w1_8) (NC p0 fun x29_2 =>
      RD Tryz.prog (Instr.fieldAt 58 x29_2 1) w1_8 (fun x30_2 =>
      RD Tryz.prog (Instr.loadAt 3 x30_2) w1_8 (fun x31_2 =>
      RD Tryz.prog (bo .add 3 (.tmp 31) (.const (.int .i64 1)) x31_2 (.int .i64 1)) w1_8 (fun x32_2 =>
      NC p0 fun x33_2 =>
      RD Tryz.prog (Instr.fieldAt 58 x33_2 1) w1_8 (fun x34_2 =>
      WU Tryz.prog (Instr.storeAt 3 x34_2 x32_2) w1_8 (fun w1_21 =>
      CA Tryz.prog 41 #[p0] w1_21 (fun x36_2 w1_22 =>
      WR Tryz.prog (Instr.alloc 69 true (.tuple #[])) w1_22 (fun x5_2 w1_23 =>
      WU Tryz.prog (Instr.storeAt 69 x5_2 x36_2) w1_23 (fun w1_24 =>
      RD Tryz.prog (Instr.fieldAt 60 x4 1) w1_24 (fun x37_2 =>
      RD Tryz.prog (Instr.loadAt 9 x37_2) w1_24 (fun x38_2 =>
      RD Tryz.prog (Instr.loadAt 69 x3) w1_24 (fun x39_2 =>
      RD Tryz.prog (Instr.loadAt 69 x5_2) w1_24 (fun x40_2 =>
      WR Tryz.prog (Instr.buildSlice 34 2 #[(0, x39_2), (1, x40_2)]) w1_24 (fun x41_2 w1_25 =>
      RD Tryz.prog (Instr.build 69 #[(0, (.int .u8 99)), (1, x38_2), (4, x41_2)]) w1_25 (fun x42_2 =>
      WU Tryz.prog (Instr.storeAt 69 x3 x42_2) w1_25 (fun w1_26 =>
      rec (sOf []) w1_26) (PX R)) (PX R)) (PX R)) (PX R)) (PX R)) (PX R)) (PX R)) (PX R)) (PX R)) (PC R)) (PX R)) (PX R)) (PX R)) (PX R)) (PX R)))) (PX R)) (PX R)) (PX R))) (PX R)) (PX R)) (PX R)) (PX R)) (PX R)) (PC R)) (j (sOf []) w1_5)) (PX R)) (PX R)) (PX R))
      (sOf []) w1_3)
    (fun s d w1_4 =>
    RD Tryz.prog (Instr.loadAt 69 x3) w1_4 (fun x43 =>
    WU Tryz.prog (Instr.storeAt 69 x2 x43) w1_4 (fun w1_27 =>
    RD Tryz.prog (Instr.loadAt 69 x2) w1_27 (fun r => R (.returned r) w1_27) NX) (PX R)) (PX R))) (PX R)) (PX R)) (PC R)) (PX R)
theorem sh_Pr_parser_expr_ok {p0 : Value} {w : World} {R : Ending → World → Prop} (h : sh_Pr_parser_expr p0 w R) : Calls Tryz.prog 22 #[p0] w R :=
  callsEq (args := [p0]) (good (fun n => match n with | 2 => [] | _ => []) (fun n => match n with | 7005 => some [] | _ => none) (fun _ => 0) (fun _ => none) (fun n => match n with | 2 => [] | _ => []) (fun n => match n with | 7005 => [] | _ => []) (fun _ => false) (fun n => match n with | 12 => true | 25 => true | 26 => true | 27 => true | _ => false)) Tryz.func22 rfl (by kernel_rfl) (by kernel_rfl) (Nat.le_of_ble_eq_true (by kernel_rfl)) [] (by kernel_rfl) h
def sh_r_Tests (p0 : Value) (w : World) (R : Ending → World → Prop) : Prop :=
  JN (fun j =>
    RD Tryz.prog (bo .eql 9 (.tmp 3) (.const (.string (bs [116, 114, 117, 101]))) p0 (.string (bs [116, 114, 117, 101]))) w (fun x5 =>
    BS x5 (j (sOf [(4, x5)]) w) (RD Tryz.prog (bo .eql 9 (.tmp 3) (.const (.string (bs [102, 97, 105, 108]))) p0 (.string (bs [102, 97, 105, 108]))) w (fun x6 =>
    j (sOf [(4, x6)]) w) (PX R))) (PX R))
    (fun s d w1 =>
    BS (s 4) (R (.returned (.int .i64 0)) w1) (JN (fun j_1 =>
      RD Tryz.prog (bo .eql 9 (.tmp 3) (.const (.string (bs [118, 97, 114]))) p0 (.string (bs [118, 97, 114]))) w1 (fun x8 =>
      BS x8 (j_1 (sOf [(7, x8)]) w1) (RD Tryz.prog (bo .eql 9 (.tmp 3) (.const (.string (bs [110, 111, 110, 118, 97, 114]))) p0 (.string (bs [110, 111, 110, 118, 97, 114]))) w1 (fun x9 =>
      BS x9 (j_1 (sOf [(7, x9)]) w1) (RD Tryz.prog (bo .eql 9 (.tmp 3) (.const (.string (bs [97, 116, 111, 109]))) p0 (.string (bs [97, 116, 111, 109]))) w1 (fun x10 =>
      BS x10 (j_1 (sOf [(7, x10)]) w1) (RD Tryz.prog (bo .eql 9 (.tmp 3) (.const (.string (bs [105, 110, 116, 101, 103, 101, 114]))) p0 (.string (bs [105, 110, 116, 101, 103, 101, 114]))) w1 (fun x11 =>
      j_1 (sOf [(7, x11)]) w1) (PX R))) (PX R))) (PX R))) (PX R))
      (fun s_1 d_1 w1_1 =>
      BS (s_1 7) (R (.returned (.int .i64 1)) w1_1) (JN (fun j_2 =>
        RD Tryz.prog (bo .eql 9 (.tmp 3) (.const (.string (bs [61]))) p0 (.string (bs [61]))) w1_1 (fun x13 =>
        BS x13 (j_2 (sOf [(12, x13)]) w1_1) (RD Tryz.prog (bo .eql 9 (.tmp 3) (.const (.string (bs [92, 61]))) p0 (.string (bs [92, 61]))) w1_1 (fun x14 =>
        BS x14 (j_2 (sOf [(12, x14)]) w1_1) (RD Tryz.prog (bo .eql 9 (.tmp 3) (.const (.string (bs [61, 61]))) p0 (.string (bs [61, 61]))) w1_1 (fun x15 =>
        BS x15 (j_2 (sOf [(12, x15)]) w1_1) (RD Tryz.prog (bo .eql 9 (.tmp 3) (.const (.string (bs [105, 115]))) p0 (.string (bs [105, 115]))) w1_1 (fun x16 =>
        BS x16 (j_2 (sOf [(12, x16)]) w1_1) (RD Tryz.prog (bo .eql 9 (.tmp 3) (.const (.string (bs [60]))) p0 (.string (bs [60]))) w1_1 (fun x17 =>
        BS x17 (j_2 (sOf [(12, x17)]) w1_1) (RD Tryz.prog (bo .eql 9 (.tmp 3) (.const (.string (bs [62]))) p0 (.string (bs [62]))) w1_1 (fun x18 =>
        BS x18 (j_2 (sOf [(12, x18)]) w1_1) (RD Tryz.prog (bo .eql 9 (.tmp 3) (.const (.string (bs [61, 60]))) p0 (.string (bs [61, 60]))) w1_1 (fun x19 =>
        BS x19 (j_2 (sOf [(12, x19)]) w1_1) (RD Tryz.prog (bo .eql 9 (.tmp 3) (.const (.string (bs [62, 61]))) p0 (.string (bs [62, 61]))) w1_1 (fun x20 =>
        BS x20 (j_2 (sOf [(12, x20)]) w1_1) (RD Tryz.prog (bo .eql 9 (.tmp 3) (.const (.string (bs [61, 58, 61]))) p0 (.string (bs [61, 58, 61]))) w1_1 (fun x21 =>
        j_2 (sOf [(12, x21)]) w1_1) (PX R))) (PX R))) (PX R))) (PX R))) (PX R))) (PX R))) (PX R))) (PX R))) (PX R))
        (fun s_2 d_2 w1_2 =>
        BS (s_2 12) (R (.returned (.int .i64 2)) w1_2) (R (.returned (.int .i64 (-1))) w1_2))))))
theorem sh_r_Tests_ok {p0 : Value} {w : World} {R : Ending → World → Prop} (h : sh_r_Tests p0 w R) : Calls Tryz.prog 35 #[p0] w R :=
  callsEq (args := [p0]) (good (fun _ => []) (fun n => match n with | 3001 => some [4] | 8003 => some [7] | 18008 => some [12] | _ => none) (fun _ => 0) (fun _ => none) (fun _ => []) (fun n => match n with | 3001 => [] | 8003 => [] | 18008 => [] | _ => []) (fun _ => false) (fun n => match n with | 4 => true | 5 => true | 6 => true | 7 => true | 8 => true | 9 => true | 10 => true | 11 => true | 12 => true | 13 => true | 14 => true | 15 => true | 16 => true | 17 => true | 18 => true | 19 => true | 20 => true | 21 => true | _ => false)) Tryz.func35 rfl (by kernel_rfl) (by kernel_rfl) (Nat.le_of_ble_eq_true (by kernel_rfl)) [] (by kernel_rfl) h
end Go.Proofs.YtkmpelgfhjgddaaGreatDoor
namespace Go.Proofs.YtkmpelgfhjgddaaGreatDoor
open Go.Proofs.YtkmpelgfhjgddaaGreatDoor.Sx
set_option maxRecDepth 100000
set_option linter.unusedVariables false
def sh_Pr_parser_lit (p0 : Value) (w : World) (R : Ending → World → Prop) : Prop :=
  WR Tryz.prog (Instr.alloc 37 true (.tuple #[])) w (fun x2 w1 =>
  RD Tryz.prog (Instr.build 37 #[]) w1 (fun x5 =>
  WR Tryz.prog (Instr.alloc 37 true (.tuple #[])) w1 (fun x3 w1_1 =>
  WU Tryz.prog (Instr.storeAt 37 x3 x5) w1_1 (fun w1_2 =>
  CA Tryz.prog 84 #[p0] w1_2 (fun x7 w1_3 =>
  JN (fun j =>
    BS x7 (CA Tryz.prog 100 #[p0] w1_3 (fun x10 w1_5 =>
    WU Tryz.prog (Instr.storeAt 37 x3 x10) w1_5 (fun w1_6 =>
    j (sOf []) w1_6) (PX R)) (PC R)) (j (sOf []) w1_3))
    (fun s d w1_4 =>
    NC p0 fun x12 =>
    RD Tryz.prog (Instr.fieldAt 58 x12 3) w1_4 (fun x13 =>
    RD Tryz.prog (Instr.loadAt 3 x13) w1_4 (fun x14 =>
    RD Tryz.prog (bo .sub 3 (.tmp 14) (.const (.int .i64 1)) x14 (.int .i64 1)) w1_4 (fun x15 =>
    NC p0 fun x16 =>
    RD Tryz.prog (Instr.fieldAt 58 x16 3) w1_4 (fun x17 =>
    WU Tryz.prog (Instr.storeAt 3 x17 x15) w1_4 (fun w1_7 =>
    RD Tryz.prog (Instr.loadAt 37 x3) w1_7 (fun x18 =>
    WU Tryz.prog (Instr.storeAt 37 x2 x18) w1_7 (fun w1_8 =>
    RD Tryz.prog (Instr.loadAt 37 x2) w1_8 (fun r => R (.returned r) w1_8) NX) (PX R)) (PX R)) (PX R)) (PX R)) (PX R)) (PX R)) (PX R))) (PC R)) (PX R)) (PX R)) (PX R)) (PX R)
theorem sh_Pr_parser_lit_ok {p0 : Value} {w : World} {R : Ending → World → Prop} (h : sh_Pr_parser_lit p0 w R) : Calls Tryz.prog 83 #[p0] w R :=
  callsEq (args := [p0]) (good (fun _ => []) (fun n => match n with | 4001 => some [] | _ => none) (fun _ => 0) (fun _ => none) (fun _ => []) (fun n => match n with | 4001 => [] | _ => []) (fun _ => false) (fun n => match n with | 4 => true | 7 => true | 8 => true | _ => false)) Tryz.func83 rfl (by kernel_rfl) (by kernel_rfl) (Nat.le_of_ble_eq_true (by kernel_rfl)) [] (by kernel_rfl) h
def sh_Pr_parser_goal (p0 : Value) (w : World) (R : Ending → World → Prop) : Prop :=
  WR Tryz.prog (Instr.alloc 37 true (.tuple #[])) w (fun x2 w1 =>
  CA Tryz.prog 32 #[p0, (.string (bs [33]))] w1 (fun x16 w1_1 =>
  BS x16 (RD Tryz.prog (Instr.build 37 #[(0, (.int .u8 33))]) w1_1 (fun x18 =>
  WU Tryz.prog (Instr.storeAt 37 x2 x18) w1_1 (fun w1_2 =>
  RD Tryz.prog (Instr.loadAt 37 x2) w1_2 (fun r => R (.returned r) w1_2) NX) (PX R)) (PX R)) (CA Tryz.prog 32 #[p0, (.string (bs [92, 43]))] w1_1 (fun x20 w1_3 =>
  BS x20 (CA Tryz.prog 83 #[p0] w1_3 (fun x23 w1_4 =>
  WR Tryz.prog (Instr.alloc 37 true (.tuple #[])) w1_4 (fun x5 w1_5 =>
  WU Tryz.prog (Instr.storeAt 37 x5 x23) w1_5 (fun w1_6 =>
  RD Tryz.prog (Instr.loadAt 37 x5) w1_6 (fun x24 =>
  WR Tryz.prog (Instr.buildSlice 35 1 #[(0, x24)]) w1_6 (fun x25 w1_7 =>
  RD Tryz.prog (Instr.build 37 #[(0, (.int .u8 126)), (3, x25)]) w1_7 (fun x26 =>
  WU Tryz.prog (Instr.storeAt 37 x2 x26) w1_7 (fun w1_8 =>
  RD Tryz.prog (Instr.loadAt 37 x2) w1_8 (fun r_1 => R (.returned r_1) w1_8) NX) (PX R)) (PX R)) (PX R)) (PX R)) (PX R)) (PX R)) (PC R)) (CA Tryz.prog 32 #[p0, (.string (bs [40]))] w1_3 (fun x28 w1_9 =>
  BS x28 (CA Tryz.prog 36 #[p0] w1_9 (fun x31 w1_10 =>
  WR Tryz.prog (Instr.alloc 37 true (.tuple #[])) w1_10 (fun x7 w1_11 =>
  WU Tryz.prog (Instr.storeAt 37 x7 x31) w1_11 (fun w1_12 =>
  CA Tryz.prog 34 #[p0, (.string (bs [41]))] w1_12 (fun x33 w1_13 =>
  RD Tryz.prog (Instr.loadAt 37 x7) w1_13 (fun x34 =>
  WU Tryz.prog (Instr.storeAt 37 x2 x34) w1_13 (fun w1_14 =>
  RD Tryz.prog (Instr.loadAt 37 x2) w1_14 (fun r_2 => R (.returned r_2) w1_14) NX) (PX R)) (PX R)) (PC R)) (PX R)) (PX R)) (PC R)) (CA Tryz.prog 16 #[p0] w1_9 (fun x36 w1_15 =>
  WR Tryz.prog (Instr.alloc 60 true (.tuple #[])) w1_15 (fun x8 w1_16 =>
  WU Tryz.prog (Instr.storeAt 60 x8 x36) w1_16 (fun w1_17 =>
  CA Tryz.prog 22 #[p0] w1_17 (fun x38 w1_18 =>
  WR Tryz.prog (Instr.alloc 69 true (.tuple #[])) w1_18 (fun x9 w1_19 =>
  WU Tryz.prog (Instr.storeAt 69 x9 x38) w1_19 (fun w1_20 =>
  CA Tryz.prog 16 #[p0] w1_20 (fun x40 w1_21 =>
  WR Tryz.prog (Instr.alloc 60 true (.tuple #[])) w1_21 (fun x10 w1_22 =>
  WU Tryz.prog (Instr.storeAt 60 x10 x40) w1_22 (fun w1_23 =>
  RD Tryz.prog (Instr.fieldAt 60 x10 1) w1_23 (fun x41 =>
  RD Tryz.prog (Instr.loadAt 9 x41) w1_23 (fun x42 =>
  CA Tryz.prog 35 #[x42] w1_23 (fun x43 w1_24 =>
  JS (fun j =>
    NC p0 fun x45 =>
    RD Tryz.prog (Instr.fieldAt 58 x45 4) w1_24 (fun x46 =>
    RD Tryz.prog (Instr.loadAt 29 x46) w1_24 (fun x47 =>
    RD Tryz.prog (bo .eql 29 (.tmp 47) (.const (.int .i64 0)) x47 (.int .i64 0)) w1_24 (fun x48 => BS x48 (
    RD Tryz.prog (bo .eql 3 (.tmp 50) (.const (.int .i64 2)) x43 (.int .i64 2)) w1_24 (fun x51 => BS x51 (
    RD Tryz.prog (Instr.fieldAt 60 x10 0) w1_24 (fun x54 =>
    RD Tryz.prog (Instr.loadAt 5 x54) w1_24 (fun x55 =>
    RD Tryz.prog (bo .eql 5 (.tmp 55) (.const (.int .u8 115)) x55 (.int .u8 115)) w1_24 (fun x56 => BS x56 (
    j (sOf [(62, (.bool true))]) w1_24) (
    RD Tryz.prog (Instr.fieldAt 60 x10 0) w1_24 (fun x58 =>
    RD Tryz.prog (Instr.loadAt 5 x58) w1_24 (fun x59 =>
    RD Tryz.prog (bo .eql 5 (.tmp 59) (.const (.int .u8 97)) x59 (.int .u8 97)) w1_24 (fun x60 =>
    j (sOf [(62, x60)]) w1_24) (PX R)) (PX R)) (PX R))) (PX R)) (PX R)) (PX R)) (
    j (sOf [(62, (.bool false))]) w1_24)) (PX R)) (
    j (sOf [(62, (.bool false))]) w1_24)) (PX R)) (PX R)) (PX R))
    (fun s d w1_25 =>
    BS (s 62) (NC p0 fun x64 =>
    RD Tryz.prog (Instr.fieldAt 58 x64 1) w1_25 (fun x65 =>
    RD Tryz.prog (Instr.loadAt 3 x65) w1_25 (fun x66 =>
    RD Tryz.prog (bo .add 3 (.tmp 66) (.const (.int .i64 1)) x66 (.int .i64 1)) w1_25 (fun x67 =>
    NC p0 fun x68 =>
    RD Tryz.prog (Instr.fieldAt 58 x68 1) w1_25 (fun x69 =>
    WU Tryz.prog (Instr.storeAt 3 x69 x67) w1_25 (fun w1_26 =>
    CA Tryz.prog 22 #[p0] w1_26 (fun x71 w1_27 =>
    WR Tryz.prog (Instr.alloc 69 true (.tuple #[])) w1_27 (fun x12 w1_28 =>
    WU Tryz.prog (Instr.storeAt 69 x12 x71) w1_28 (fun w1_29 =>
    RD Tryz.prog (Instr.fieldAt 60 x10 1) w1_29 (fun x72 =>
    RD Tryz.prog (Instr.loadAt 9 x72) w1_29 (fun x73 =>
    RD Tryz.prog (Instr.loadAt 69 x9) w1_29 (fun x74 =>
    RD Tryz.prog (Instr.loadAt 69 x12) w1_29 (fun x75 =>
    WR Tryz.prog (Instr.buildSlice 34 2 #[(0, x74), (1, x75)]) w1_29 (fun x76 w1_30 =>
    RD Tryz.prog (Instr.build 37 #[(0, (.int .u8 103)), (1, x73), (2, x76)]) w1_30 (fun x77 =>
    WU Tryz.prog (Instr.storeAt 37 x2 x77) w1_30 (fun w1_31 =>
    RD Tryz.prog (Instr.loadAt 37 x2) w1_31 (fun r_3 => R (.returned r_3) w1_31) NX) (PX R)) (PX R)) (PX R)) (PX R)) (PX R)) (PX R)) (PX R)) (PX R)) (PX R)) (PC R)) (PX R)) (PX R)) (PX R)) (PX R)) (PX R)) (JS (fun j_1 =>
    RD Tryz.prog (Instr.fieldAt 69 x9 0) w1_25 (fun x78 =>
    RD Tryz.prog (Instr.loadAt 5 x78) w1_25 (fun x79 =>
    RD Tryz.prog (bo .eql 5 (.tmp 79) (.const (.int .u8 99)) x79 (.int .u8 99)) w1_25 (fun x80 => BS x80 (
    RD Tryz.prog (Instr.fieldAt 69 x9 1) w1_25 (fun x82 =>
    RD Tryz.prog (Instr.loadAt 9 x82) w1_25 (fun x83 =>
    RD Tryz.prog (bo .eql 9 (.tmp 83) (.const (.string (bs [43]))) x83 (.string (bs [43]))) w1_25 (fun x84 => BS x84 (
    j_1 (sOf [(13, (.bool true))]) w1_25) (
    RD Tryz.prog (Instr.fieldAt 69 x9 1) w1_25 (fun x86 =>
    RD Tryz.prog (Instr.loadAt 9 x86) w1_25 (fun x87 =>
    RD Tryz.prog (bo .eql 9 (.tmp 87) (.const (.string (bs [45]))) x87 (.string (bs [45]))) w1_25 (fun x88 => BS x88 (
    j_1 (sOf [(13, (.bool true))]) w1_25) (
    RD Tryz.prog (Instr.fieldAt 69 x9 1) w1_25 (fun x91 =>
    RD Tryz.prog (Instr.loadAt 9 x91) w1_25 (fun x92 =>
    RD Tryz.prog (bo .eql 9 (.tmp 92) (.const (.string (bs [42]))) x92 (.string (bs [42]))) w1_25 (fun x93 => BS x93 (
    j_1 (sOf [(13, (.bool true))]) w1_25) (
    RD Tryz.prog (Instr.fieldAt 69 x9 1) w1_25 (fun x96 =>
    RD Tryz.prog (Instr.loadAt 9 x96) w1_25 (fun x97 =>
    RD Tryz.prog (bo .eql 9 (.tmp 97) (.const (.string (bs [47, 47]))) x97 (.string (bs [47, 47]))) w1_25 (fun x98 => BS x98 (
    j_1 (sOf [(13, (.bool true))]) w1_25) (
    RD Tryz.prog (Instr.fieldAt 69 x9 1) w1_25 (fun x101 =>
    RD Tryz.prog (Instr.loadAt 9 x101) w1_25 (fun x102 =>
    RD Tryz.prog (bo .eql 9 (.tmp 102) (.const (.string (bs [109, 111, 100]))) x102 (.string (bs [109, 111, 100]))) w1_25 (fun x103 => BS x103 (
    RD Tryz.prog (Instr.fieldAt 69 x9 4) w1_25 (fun x105 =>
    RD Tryz.prog (Instr.loadAt 34 x105) w1_25 (fun x106 =>
    RD Tryz.prog (Builtin.len_ #[34] 3 #[x106]) w1_25 (fun x107 =>
    RD Tryz.prog (bo .eql 3 (.tmp 107) (.const (.int .i64 2)) x107 (.int .i64 2)) w1_25 (fun x108 => BS x108 (
    j_1 (sOf [(13, (.bool true))]) w1_25) (
    j_1 (sOf [(13, (.bool false))]) w1_25)) (PX R)) (PX R)) (PX R)) (PX R)) (
    j_1 (sOf [(13, (.bool false))]) w1_25)) (PX R)) (PX R)) (PX R))) (PX R)) (PX R)) (PX R))) (PX R)) (PX R)) (PX R))) (PX R)) (PX R)) (PX R))) (PX R)) (PX R)) (PX R)) (
    j_1 (sOf [(13, (.bool false))]) w1_25)) (PX R)) (PX R)) (PX R))
    (fun s_1 d_1 w1_32 =>
    BS (s_1 13) (
    JS (fun j_2 =>
      RD Tryz.prog (Instr.fieldAt 69 x9 0) w1_32 (fun x112 =>
      RD Tryz.prog (Instr.loadAt 5 x112) w1_32 (fun x113 =>
      RD Tryz.prog (bo .neq 5 (.tmp 113) (.const (.int .u8 97)) x113 (.int .u8 97)) w1_32 (fun x114 => BS x114 (
      RD Tryz.prog (Instr.fieldAt 69 x9 0) w1_32 (fun x116 =>
      RD Tryz.prog (Instr.loadAt 5 x116) w1_32 (fun x117 =>
      RD Tryz.prog (bo .neq 5 (.tmp 117) (.const (.int .u8 99)) x117 (.int .u8 99)) w1_32 (fun x118 => BS x118 (
      j_2 (sOf [(132, (.bool true))]) w1_32) (
      j_2 (sOf [(132, (.bool true))]) w1_32)) (PX R)) (PX R)) (PX R)) (
      j_2 (sOf [(132, (.bool true))]) w1_32)) (PX R)) (PX R)) (PX R))
      (fun s_2 d_2 w1_33 =>
      BS (s_2 132) (RD Tryz.prog (Instr.fieldAt 60 x8 2) w1_33 (fun x134 =>
      RD Tryz.prog (Instr.loadAt 3 x134) w1_33 (fun x135 =>
      CA Tryz.prog 17 #[p0, (.int .i64 2), x135] w1_33 (fun x136 w1_34 =>
      RD Tryz.prog (Instr.build 37 #[]) w1_34 (fun x137 =>
      WU Tryz.prog (Instr.storeAt 37 x2 x137) w1_34 (fun w1_35 =>
      RD Tryz.prog (Instr.loadAt 37 x2) w1_35 (fun r_4 => R (.returned r_4) w1_35) NX) (PX R)) (PX R)) (PC R)) (PX R)) (PX R)) (RD Tryz.prog (Instr.fieldAt 69 x9 1) w1_33 (fun x138 =>
    RD Tryz.prog (Instr.loadAt 9 x138) w1_33 (fun x139 =>
    CA Tryz.prog 35 #[x139] w1_33 (fun x140 w1_36 =>
    JN (fun j_3 =>
      JS (fun j_4 =>
        RD Tryz.prog (bo .geq 3 (.tmp 141) (.const (.int .i64 0)) x140 (.int .i64 0)) w1_36 (fun x142 => BS x142 (
        RD Tryz.prog (Instr.fieldAt 69 x9 4) w1_36 (fun x145 =>
        RD Tryz.prog (Instr.loadAt 34 x145) w1_36 (fun x146 =>
        RD Tryz.prog (Builtin.len_ #[34] 3 #[x146]) w1_36 (fun x147 =>
        RD Tryz.prog (bo .neq 3 (.tmp 144) (.tmp 147) x140 x147) w1_36 (fun x148 =>
        j_4 (sOf [(149, x148)]) w1_36) (PX R)) (PX R)) (PX R)) (PX R)) (
        j_4 (sOf [(149, (.bool false))]) w1_36)) (PX R))
        (fun s_4 d_4 w1_38 =>
        BS (s_4 149) (RD Tryz.prog (Instr.fieldAt 60 x8 2) w1_38 (fun x151 =>
        RD Tryz.prog (Instr.loadAt 3 x151) w1_38 (fun x152 =>
        CA Tryz.prog 17 #[p0, (.int .i64 3), x152] w1_38 (fun x153 w1_39 =>
        j_3 (sOf []) w1_39) (PC R)) (PX R)) (PX R)) (j_3 (sOf []) w1_38)))
      (fun s_3 d_3 w1_37 =>
      RD Tryz.prog (Instr.fieldAt 69 x9 1) w1_37 (fun x154 =>
      RD Tryz.prog (Instr.loadAt 9 x154) w1_37 (fun x155 =>
      RD Tryz.prog (Instr.fieldAt 69 x9 4) w1_37 (fun x156 =>
      RD Tryz.prog (Instr.loadAt 34 x156) w1_37 (fun x157 =>
      RD Tryz.prog (Instr.build 37 #[(0, (.int .u8 103)), (1, x155), (2, x157)]) w1_37 (fun x158 =>
      WU Tryz.prog (Instr.storeAt 37 x2 x158) w1_37 (fun w1_40 =>
      RD Tryz.prog (Instr.loadAt 37 x2) w1_40 (fun r_5 => R (.returned r_5) w1_40) NX) (PX R)) (PX R)) (PX R)) (PX R)) (PX R)) (PX R))) (PC R)) (PX R)) (PX R)))) (
    JS (fun j_5 =>
      RD Tryz.prog (Instr.fieldAt 69 x9 0) w1_32 (fun x112_1 =>
      RD Tryz.prog (Instr.loadAt 5 x112_1) w1_32 (fun x113_1 =>
      RD Tryz.prog (bo .neq 5 (.tmp 113) (.const (.int .u8 97)) x113_1 (.int .u8 97)) w1_32 (fun x114_1 => BS x114_1 (
      RD Tryz.prog (Instr.fieldAt 69 x9 0) w1_32 (fun x116_1 =>
      RD Tryz.prog (Instr.loadAt 5 x116_1) w1_32 (fun x117_1 =>
      RD Tryz.prog (bo .neq 5 (.tmp 117) (.const (.int .u8 99)) x117_1 (.int .u8 99)) w1_32 (fun x118_1 => BS x118_1 (
      j_5 (sOf [(132, (.bool true))]) w1_32) (
      RD Tryz.prog (Instr.fieldAt 69 x9 1) w1_32 (fun x124 =>
      RD Tryz.prog (Instr.loadAt 9 x124) w1_32 (fun x125 =>
      RD Tryz.prog (bo .eql 9 (.tmp 125) (.const (.string (bs [46]))) x125 (.string (bs [46]))) w1_32 (fun x126 => BS x126 (
      j_5 (sOf [(132, (.bool true))]) w1_32) (
      RD Tryz.prog (Instr.fieldAt 69 x9 1) w1_32 (fun x129 =>
      RD Tryz.prog (Instr.loadAt 9 x129) w1_32 (fun x130 =>
      RD Tryz.prog (bo .eql 9 (.tmp 130) (.const (.string (bs [91, 93]))) x130 (.string (bs [91, 93]))) w1_32 (fun x131 =>
      j_5 (sOf [(132, x131)]) w1_32) (PX R)) (PX R)) (PX R))) (PX R)) (PX R)) (PX R))) (PX R)) (PX R)) (PX R)) (
      RD Tryz.prog (Instr.fieldAt 69 x9 1) w1_32 (fun x124_1 =>
      RD Tryz.prog (Instr.loadAt 9 x124_1) w1_32 (fun x125_1 =>
      RD Tryz.prog (bo .eql 9 (.tmp 125) (.const (.string (bs [46]))) x125_1 (.string (bs [46]))) w1_32 (fun x126_1 => BS x126_1 (
      j_5 (sOf [(132, (.bool true))]) w1_32) (
      RD Tryz.prog (Instr.fieldAt 69 x9 1) w1_32 (fun x129_1 =>
      RD Tryz.prog (Instr.loadAt 9 x129_1) w1_32 (fun x130_1 =>
      RD Tryz.prog (bo .eql 9 (.tmp 130) (.const (.string (bs [91, 93]))) x130_1 (.string (bs [91, 93]))) w1_32 (fun x131_1 =>
      j_5 (sOf [(132, x131_1)]) w1_32) (PX R)) (PX R)) (PX R))) (PX R)) (PX R)) (PX R))) (PX R)) (PX R)) (PX R))
      (fun s_5 d_5 w1_41 =>
      BS (s_5 132) (RD Tryz.prog (Instr.fieldAt 60 x8 2) w1_41 (fun x134_1 =>
      RD Tryz.prog (Instr.loadAt 3 x134_1) w1_41 (fun x135_1 =>
      CA Tryz.prog 17 #[p0, (.int .i64 2), x135_1] w1_41 (fun x136_1 w1_42 =>
      RD Tryz.prog (Instr.build 37 #[]) w1_42 (fun x137_1 =>
      WU Tryz.prog (Instr.storeAt 37 x2 x137_1) w1_42 (fun w1_43 =>
      RD Tryz.prog (Instr.loadAt 37 x2) w1_43 (fun r_6 => R (.returned r_6) w1_43) NX) (PX R)) (PX R)) (PC R)) (PX R)) (PX R)) (RD Tryz.prog (Instr.fieldAt 69 x9 1) w1_41 (fun x138_1 =>
    RD Tryz.prog (Instr.loadAt 9 x138_1) w1_41 (fun x139_1 =>
    CA Tryz.prog 35 #[x139_1] w1_41 (fun x140_1 w1_44 =>
    JN (fun j_6 =>
      JS (fun j_7 =>
        RD Tryz.prog (bo .geq 3 (.tmp 141) (.const (.int .i64 0)) x140_1 (.int .i64 0)) w1_44 (fun x142_1 => BS x142_1 (
        RD Tryz.prog (Instr.fieldAt 69 x9 4) w1_44 (fun x145_1 =>
        RD Tryz.prog (Instr.loadAt 34 x145_1) w1_44 (fun x146_1 =>
        RD Tryz.prog (Builtin.len_ #[34] 3 #[x146_1]) w1_44 (fun x147_1 =>
        RD Tryz.prog (bo .neq 3 (.tmp 144) (.tmp 147) x140_1 x147_1) w1_44 (fun x148_1 =>
        j_7 (sOf [(149, x148_1)]) w1_44) (PX R)) (PX R)) (PX R)) (PX R)) (
        j_7 (sOf [(149, (.bool false))]) w1_44)) (PX R))
        (fun s_7 d_7 w1_46 =>
        BS (s_7 149) (RD Tryz.prog (Instr.fieldAt 60 x8 2) w1_46 (fun x151_1 =>
        RD Tryz.prog (Instr.loadAt 3 x151_1) w1_46 (fun x152_1 =>
        CA Tryz.prog 17 #[p0, (.int .i64 3), x152_1] w1_46 (fun x153_1 w1_47 =>
        j_6 (sOf []) w1_47) (PC R)) (PX R)) (PX R)) (j_6 (sOf []) w1_46)))
      (fun s_6 d_6 w1_45 =>
      RD Tryz.prog (Instr.fieldAt 69 x9 1) w1_45 (fun x154_1 =>
      RD Tryz.prog (Instr.loadAt 9 x154_1) w1_45 (fun x155_1 =>
      RD Tryz.prog (Instr.fieldAt 69 x9 4) w1_45 (fun x156_1 =>
      RD Tryz.prog (Instr.loadAt 34 x156_1) w1_45 (fun x157_1 =>
      RD Tryz.prog (Instr.build 37 #[(0, (.int .u8 103)), (1, x155_1), (2, x157_1)]) w1_45 (fun x158_1 =>
      WU Tryz.prog (Instr.storeAt 37 x2 x158_1) w1_45 (fun w1_48 =>
      RD Tryz.prog (Instr.loadAt 37 x2) w1_48 (fun r_7 => R (.returned r_7) w1_48) NX) (PX R)) (PX R)) (PX R)) (PX R)) (PX R)) (PX R))) (PC R)) (PX R)) (PX R)))))))) (PC R)) (PX R)) (PX R)) (PX R)) (PX R)) (PC R)) (PX R)) (PX R)) (PC R)) (PX R)) (PX R)) (PC R))) (PC R))) (PC R))) (PC R)) (PX R)
theorem sh_Pr_parser_goal_ok {p0 : Value} {w : World} {R : Ending → World → Prop} (h : sh_Pr_parser_goal p0 w R) : Calls Tryz.prog 100 #[p0] w R :=
  callsEq (args := [p0]) (good (fun _ => []) (fun n => match n with | 17000 => some [62] | 21000 => some [13] | 22000 => some [132] | 26000 => some [149] | 27001 => some [] | _ => none) (fun _ => 0) (fun _ => none) (fun _ => []) (fun n => match n with | 17000 => [] | 21000 => [13] | 22000 => [] | 26000 => [] | 27001 => [] | _ => []) (fun n => match n with | 17000 => true | 21000 => true | 22000 => true | 26000 => true | _ => false) (fun n => match n with | 3 => true | 4 => true | 6 => true | 16 => true | 17 => true | 20 => true | 21 => true | 28 => true | 29 => true | 60 => true | 61 => true | 62 => true | 131 => true | 132 => true | 148 => true | 149 => true | _ => false)) Tryz.func100 rfl (by kernel_rfl) (by kernel_rfl) (Nat.le_of_ble_eq_true (by kernel_rfl)) [] (by kernel_rfl) h
def sh_Pr_parser_row (p0 : Value) (w : World) (R : Ending → World → Prop) : Prop :=
  WR Tryz.prog (Instr.alloc 37 true (.tuple #[])) w (fun x2 w1 =>
  LoopW (fun rec s d w1_1 =>
    BS (s 4) (CA Tryz.prog 83 #[p0] w1_1 (fun x8 w1_2 =>
    WR Tryz.prog (Instr.alloc 37 true (.tuple #[])) w1_2 (fun x5 w1_3 =>
    WU Tryz.prog (Instr.storeAt 37 x5 x8) w1_3 (fun w1_4 =>
    RD Tryz.prog (Instr.loadAt 37 x5) w1_4 (fun x10 =>
    WR Tryz.prog (Instr.buildSlice 35 1 #[(0, x10)]) w1_4 (fun x11 w1_5 =>
    WR Tryz.prog (Builtin.append_ #[35, 35] 35 #[(s 3), x11]) w1_5 (fun x12 w1_6 =>
    CA Tryz.prog 32 #[p0, (.string (bs [44]))] w1_6 (fun x14 w1_7 =>
    rec (sOf [(3, x12), (4, x14)]) w1_7) (PC R)) (PX R)) (PX R)) (PX R)) (PX R)) (PX R)) (PC R)) (RD Tryz.prog (Builtin.len_ #[35] 3 #[(s 3)]) w1_1 (fun x16 =>
  RD Tryz.prog (bo .eql 3 (.tmp 16) (.const (.int .i64 1)) x16 (.int .i64 1)) w1_1 (fun x17 =>
  BS x17 (RD Tryz.prog (Instr.indexAt 35 (s 3) (.int .i64 0)) w1_1 (fun x19 =>
  RD Tryz.prog (Instr.loadAt 37 x19) w1_1 (fun x20 =>
  WU Tryz.prog (Instr.storeAt 37 x2 x20) w1_1 (fun w1_8 =>
  RD Tryz.prog (Instr.loadAt 37 x2) w1_8 (fun r => R (.returned r) w1_8) NX) (PX R)) (PX R)) (PX R)) (RD Tryz.prog (Instr.build 37 #[(0, (.int .u8 44)), (3, (s 3))]) w1_1 (fun x22 =>
  WU Tryz.prog (Instr.storeAt 37 x2 x22) w1_1 (fun w1_9 =>
  RD Tryz.prog (Instr.loadAt 37 x2) w1_9 (fun r_1 => R (.returned r_1) w1_9) NX) (PX R)) (PX R))) (PX R)) (PX R)))
    (sOf [(3, (.slice none 0 0)), (4, (.bool true))]) w1) (PX R)
theorem sh_Pr_parser_row_ok {p0 : Value} {w : World} {R : Ending → World → Prop} (h : sh_Pr_parser_row p0 w R) : Calls Tryz.prog 64 #[p0] w R :=
  callsEq (args := [p0]) (good (fun n => match n with | 3 => [3, 4] | _ => []) (fun _ => none) (fun _ => 0) (fun _ => none) (fun n => match n with | 3 => [] | _ => []) (fun _ => []) (fun _ => false) (fun n => match n with | 4 => true | 6 => true | 14 => true | 17 => true | _ => false)) Tryz.func64 rfl (by kernel_rfl) (by kernel_rfl) (Nat.le_of_ble_eq_true (by kernel_rfl)) [] (by kernel_rfl) h
def sh_Pr_parser_rest (p0 : Value) (w : World) (R : Ending → World → Prop) : Prop :=
  WR Tryz.prog (Instr.alloc 37 true (.tuple #[])) w (fun x2 w1 =>
  RD Tryz.prog (Instr.build 37 #[]) w1 (fun x5 =>
  WR Tryz.prog (Instr.alloc 37 true (.tuple #[])) w1 (fun x3 w1_1 =>
  WU Tryz.prog (Instr.storeAt 37 x3 x5) w1_1 (fun w1_2 =>
  CA Tryz.prog 84 #[p0] w1_2 (fun x7 w1_3 =>
  JN (fun j =>
    BS x7 (CA Tryz.prog 36 #[p0] w1_3 (fun x10 w1_5 =>
    WU Tryz.prog (Instr.storeAt 37 x3 x10) w1_5 (fun w1_6 =>
    j (sOf []) w1_6) (PX R)) (PC R)) (j (sOf []) w1_3))
    (fun s d w1_4 =>
    NC p0 fun x12 =>
    RD Tryz.prog (Instr.fieldAt 58 x12 3) w1_4 (fun x13 =>
    RD Tryz.prog (Instr.loadAt 3 x13) w1_4 (fun x14 =>
    RD Tryz.prog (bo .sub 3 (.tmp 14) (.const (.int .i64 1)) x14 (.int .i64 1)) w1_4 (fun x15 =>
    NC p0 fun x16 =>
    RD Tryz.prog (Instr.fieldAt 58 x16 3) w1_4 (fun x17 =>
    WU Tryz.prog (Instr.storeAt 3 x17 x15) w1_4 (fun w1_7 =>
    RD Tryz.prog (Instr.loadAt 37 x3) w1_7 (fun x18 =>
    WU Tryz.prog (Instr.storeAt 37 x2 x18) w1_7 (fun w1_8 =>
    RD Tryz.prog (Instr.loadAt 37 x2) w1_8 (fun r => R (.returned r) w1_8) NX) (PX R)) (PX R)) (PX R)) (PX R)) (PX R)) (PX R)) (PX R))) (PC R)) (PX R)) (PX R)) (PX R)) (PX R)
theorem sh_Pr_parser_rest_ok {p0 : Value} {w : World} {R : Ending → World → Prop} (h : sh_Pr_parser_rest p0 w R) : Calls Tryz.prog 65 #[p0] w R :=
  callsEq (args := [p0]) (good (fun _ => []) (fun n => match n with | 4001 => some [] | _ => none) (fun _ => 0) (fun _ => none) (fun _ => []) (fun n => match n with | 4001 => [] | _ => []) (fun _ => false) (fun n => match n with | 4 => true | 7 => true | 8 => true | _ => false)) Tryz.func65 rfl (by kernel_rfl) (by kernel_rfl) (Nat.le_of_ble_eq_true (by kernel_rfl)) [] (by kernel_rfl) h
def sh_Pr_parser_body (p0 : Value) (w : World) (R : Ending → World → Prop) : Prop :=
  WR Tryz.prog (Instr.alloc 37 true (.tuple #[])) w (fun x2 w1 =>
  CA Tryz.prog 64 #[p0] w1 (fun x11 w1_1 =>
  WR Tryz.prog (Instr.alloc 37 true (.tuple #[])) w1_1 (fun x3 w1_2 =>
  WU Tryz.prog (Instr.storeAt 37 x3 x11) w1_2 (fun w1_3 =>
  CA Tryz.prog 32 #[p0, (.string (bs [45, 62]))] w1_3 (fun x13 w1_4 =>
  BS x13 (CA Tryz.prog 64 #[p0] w1_4 (fun x16 w1_5 =>
  WR Tryz.prog (Instr.alloc 37 true (.tuple #[])) w1_5 (fun x5 w1_6 =>
  WU Tryz.prog (Instr.storeAt 37 x5 x16) w1_6 (fun w1_7 =>
  RD Tryz.prog (Instr.build 37 #[(0, (.int .u8 103)), (1, (.string (bs [102, 97, 105, 108])))]) w1_7 (fun x17 =>
  WR Tryz.prog (Instr.alloc 37 true (.tuple #[])) w1_7 (fun x6 w1_8 =>
  WU Tryz.prog (Instr.storeAt 37 x6 x17) w1_8 (fun w1_9 =>
  CA Tryz.prog 32 #[p0, (.string (bs [59]))] w1_9 (fun x19 w1_10 =>
  JN (fun j =>
    BS x19 (CA Tryz.prog 65 #[p0] w1_10 (fun x22 w1_12 =>
    WU Tryz.prog (Instr.storeAt 37 x6 x22) w1_12 (fun w1_13 =>
    j (sOf []) w1_13) (PX R)) (PC R)) (j (sOf []) w1_10))
    (fun s d w1_11 =>
    RD Tryz.prog (Instr.loadAt 37 x3) w1_11 (fun x23 =>
    RD Tryz.prog (Instr.loadAt 37 x5) w1_11 (fun x24 =>
    RD Tryz.prog (Instr.loadAt 37 x6) w1_11 (fun x25 =>
    WR Tryz.prog (Instr.buildSlice 35 3 #[(0, x23), (1, x24), (2, x25)]) w1_11 (fun x26 w1_14 =>
    RD Tryz.prog (Instr.build 37 #[(0, (.int .u8 63)), (3, x26)]) w1_14 (fun x27 =>
    WU Tryz.prog (Instr.storeAt 37 x2 x27) w1_14 (fun w1_15 =>
    RD Tryz.prog (Instr.loadAt 37 x2) w1_15 (fun r => R (.returned r) w1_15) NX) (PX R)) (PX R)) (PX R)) (PX R)) (PX R)) (PX R))) (PC R)) (PX R)) (PX R)) (PX R)) (PX R)) (PX R)) (PC R)) (CA Tryz.prog 32 #[p0, (.string (bs [59]))] w1_4 (fun x29 w1_16 =>
  BS x29 (CA Tryz.prog 65 #[p0] w1_16 (fun x32 w1_17 =>
  WR Tryz.prog (Instr.alloc 37 true (.tuple #[])) w1_17 (fun x9 w1_18 =>
  WU Tryz.prog (Instr.storeAt 37 x9 x32) w1_18 (fun w1_19 =>
  RD Tryz.prog (Instr.loadAt 37 x3) w1_19 (fun x33 =>
  RD Tryz.prog (Instr.loadAt 37 x9) w1_19 (fun x34 =>
  WR Tryz.prog (Instr.buildSlice 35 2 #[(0, x33), (1, x34)]) w1_19 (fun x35 w1_20 =>
  RD Tryz.prog (Instr.build 37 #[(0, (.int .u8 59)), (3, x35)]) w1_20 (fun x36 =>
  WU Tryz.prog (Instr.storeAt 37 x2 x36) w1_20 (fun w1_21 =>
  RD Tryz.prog (Instr.loadAt 37 x2) w1_21 (fun r_1 => R (.returned r_1) w1_21) NX) (PX R)) (PX R)) (PX R)) (PX R)) (PX R)) (PX R)) (PX R)) (PC R)) (RD Tryz.prog (Instr.loadAt 37 x3) w1_16 (fun x37 =>
  WU Tryz.prog (Instr.storeAt 37 x2 x37) w1_16 (fun w1_22 =>
  RD Tryz.prog (Instr.loadAt 37 x2) w1_22 (fun r_2 => R (.returned r_2) w1_22) NX) (PX R)) (PX R))) (PC R))) (PC R)) (PX R)) (PX R)) (PC R)) (PX R)
theorem sh_Pr_parser_body_ok {p0 : Value} {w : World} {R : Ending → World → Prop} (h : sh_Pr_parser_body p0 w R) : Calls Tryz.prog 36 #[p0] w R :=
  callsEq (args := [p0]) (good (fun _ => []) (fun n => match n with | 8001 => some [] | _ => none) (fun _ => 0) (fun _ => none) (fun _ => []) (fun n => match n with | 8001 => [] | _ => []) (fun _ => false) (fun n => match n with | 4 => true | 7 => true | 8 => true | 13 => true | 14 => true | 19 => true | 20 => true | 29 => true | 30 => true | _ => false)) Tryz.func36 rfl (by kernel_rfl) (by kernel_rfl) (Nat.le_of_ble_eq_true (by kernel_rfl)) [] (by kernel_rfl) h
def sh_Pr_parser_finished (p0 : Value) (w : World) (R : Ending → World → Prop) : Prop :=
  CA Tryz.prog 16 #[p0] w (fun x4 w1 =>
  WR Tryz.prog (Instr.alloc 60 true (.tuple #[])) w1 (fun x2 w1_1 =>
  WU Tryz.prog (Instr.storeAt 60 x2 x4) w1_1 (fun w1_2 =>
  JN (fun j =>
    NC p0 fun x6 =>
    RD Tryz.prog (Instr.fieldAt 58 x6 4) w1_2 (fun x7 =>
    RD Tryz.prog (Instr.loadAt 29 x7) w1_2 (fun x8 =>
    RD Tryz.prog (bo .eql 29 (.tmp 8) (.const (.int .i64 0)) x8 (.int .i64 0)) w1_2 (fun x9 => BS x9 (
    RD Tryz.prog (Instr.fieldAt 60 x2 0) w1_2 (fun x11 =>
    RD Tryz.prog (Instr.loadAt 5 x11) w1_2 (fun x12 =>
    RD Tryz.prog (bo .neq 5 (.tmp 12) (.const (.int .u8 101)) x12 (.int .u8 101)) w1_2 (fun x13 =>
    j (sOf [(14, x13)]) w1_2) (PX R)) (PX R)) (PX R)) (
    j (sOf [(14, (.bool false))]) w1_2)) (PX R)) (PX R)) (PX R))
    (fun s d w1_3 =>
    BS (s 14) (CA Tryz.prog 31 #[p0] w1_3 (fun x16 w1_4 =>
    R (.returned (.tuple #[])) w1_4) (PC R)) (R (.returned (.tuple #[])) w1_3))) (PX R)) (PX R)) (PC R)
theorem sh_Pr_parser_finished_ok {p0 : Value} {w : World} {R : Ending → World → Prop} (h : sh_Pr_parser_finished p0 w R) : Calls Tryz.prog 23 #[p0] w R :=
  callsEq (args := [p0]) (good (fun _ => []) (fun n => match n with | 1000 => some [14] | _ => none) (fun _ => 0) (fun _ => none) (fun _ => []) (fun n => match n with | 1000 => [] | _ => []) (fun _ => false) (fun n => match n with | 13 => true | 14 => true | _ => false)) Tryz.func23 rfl (by kernel_rfl) (by kernel_rfl) (Nat.le_of_ble_eq_true (by kernel_rfl)) [] (by kernel_rfl) h
def sh_Pr_parser_clause (p0 : Value) (w : World) (R : Ending → World → Prop) : Prop :=
  WR Tryz.prog (Instr.alloc 40 true (.tuple #[])) w (fun x2 w1 =>
  NC p0 fun x9 =>
  RD Tryz.prog (Instr.fieldAt 58 x9 2) w1 (fun x10 =>
  WU Tryz.prog (Instr.storeAt 38 x10 (.slice none 0 0)) w1 (fun w1_1 =>
  CA Tryz.prog 16 #[p0] w1_1 (fun x12 w1_2 =>
  WR Tryz.prog (Instr.alloc 60 true (.tuple #[])) w1_2 (fun x3 w1_3 =>
  WU Tryz.prog (Instr.storeAt 60 x3 x12) w1_3 (fun w1_4 =>
  RD Tryz.prog (Instr.fieldAt 60 x3 0) w1_4 (fun x13 =>
  RD Tryz.prog (Instr.loadAt 5 x13) w1_4 (fun x14 =>
  RD Tryz.prog (bo .neq 5 (.tmp 14) (.const (.int .u8 97)) x14 (.int .u8 97)) w1_4 (fun x15 =>
  BS x15 (CA Tryz.prog 31 #[p0] w1_4 (fun x17 w1_5 =>
  RD Tryz.prog (Instr.build 40 #[]) w1_5 (fun x18 =>
  WU Tryz.prog (Instr.storeAt 40 x2 x18) w1_5 (fun w1_6 =>
  RD Tryz.prog (Instr.loadAt 40 x2) w1_6 (fun r => R (.returned r) w1_6) NX) (PX R)) (PX R)) (PC R)) (NC p0 fun x20 =>
  RD Tryz.prog (Instr.fieldAt 58 x20 1) w1_4 (fun x21 =>
  RD Tryz.prog (Instr.loadAt 3 x21) w1_4 (fun x22 =>
  RD Tryz.prog (bo .add 3 (.tmp 22) (.const (.int .i64 1)) x22 (.int .i64 1)) w1_4 (fun x23 =>
  NC p0 fun x24 =>
  RD Tryz.prog (Instr.fieldAt 58 x24 1) w1_4 (fun x25 =>
  WU Tryz.prog (Instr.storeAt 3 x25 x23) w1_4 (fun w1_7 =>
  RD Tryz.prog (Instr.fieldAt 60 x3 1) w1_7 (fun x26 =>
  RD Tryz.prog (Instr.loadAt 9 x26) w1_7 (fun x27 =>
  RD Tryz.prog (Instr.build 37 #[(0, (.int .u8 103)), (1, (.string (bs [116, 114, 117, 101])))]) w1_7 (fun x28 =>
  RD Tryz.prog (Instr.build 40 #[(0, x27), (2, x28)]) w1_7 (fun x29 =>
  WR Tryz.prog (Instr.alloc 40 true (.tuple #[])) w1_7 (fun x4 w1_8 =>
  WU Tryz.prog (Instr.storeAt 40 x4 x29) w1_8 (fun w1_9 =>
  CA Tryz.prog 32 #[p0, (.string (bs [40]))] w1_9 (fun x31 w1_10 =>
  JS (fun j =>
    BS x31 (RD Tryz.prog (Instr.fieldAt 60 x3 2) w1_10 (fun x34 =>
    RD Tryz.prog (Instr.loadAt 3 x34) w1_10 (fun x35 =>
    CA Tryz.prog 33 #[p0, x35] w1_10 (fun x36 w1_12 =>
    RD Tryz.prog (Instr.fieldAt 40 x4 1) w1_12 (fun x37 =>
    WU Tryz.prog (Instr.storeAt 34 x37 x36) w1_12 (fun w1_13 =>
    CA Tryz.prog 34 #[p0, (.string (bs [41]))] w1_13 (fun x39 w1_14 =>
    j (sOf []) w1_14) (PC R)) (PX R)) (PX R)) (PC R)) (PX R)) (PX R)) (j (sOf []) w1_10))
    (fun s d w1_11 =>
    RD Tryz.prog (Instr.fieldAt 60 x3 1) w1_11 (fun x40 =>
    RD Tryz.prog (Instr.loadAt 9 x40) w1_11 (fun x41 =>
    CA Tryz.prog 35 #[x41] w1_11 (fun x42 w1_15 =>
    JS (fun j_1 =>
      JS (fun j_2 =>
        NC p0 fun x44 =>
        RD Tryz.prog (Instr.fieldAt 58 x44 4) w1_15 (fun x45 =>
        RD Tryz.prog (Instr.loadAt 29 x45) w1_15 (fun x46 =>
        RD Tryz.prog (bo .eql 29 (.tmp 46) (.const (.int .i64 0)) x46 (.int .i64 0)) w1_15 (fun x47 => BS x47 (
        RD Tryz.prog (bo .geq 3 (.tmp 49) (.const (.int .i64 0)) x42 (.int .i64 0)) w1_15 (fun x50 => BS x50 (
        j_2 (sOf [(56, (.bool true))]) w1_15) (
        RD Tryz.prog (Instr.fieldAt 60 x3 1) w1_15 (fun x52 =>
        RD Tryz.prog (Instr.loadAt 9 x52) w1_15 (fun x53 =>
        RD Tryz.prog (bo .eql 9 (.tmp 53) (.const (.string (bs [109, 111, 100]))) x53 (.string (bs [109, 111, 100]))) w1_15 (fun x54 =>
        j_2 (sOf [(56, x54)]) w1_15) (PX R)) (PX R)) (PX R))) (PX R)) (
        j_2 (sOf [(56, (.bool false))]) w1_15)) (PX R)) (PX R)) (PX R))
        (fun s_2 d_2 w1_17 =>
        BS (s_2 56) (RD Tryz.prog (Instr.fieldAt 60 x3 2) w1_17 (fun x58 =>
        RD Tryz.prog (Instr.loadAt 3 x58) w1_17 (fun x59 =>
        CA Tryz.prog 17 #[p0, (.int .i64 3), x59] w1_17 (fun x60 w1_18 =>
        j_1 (sOf []) w1_18) (PC R)) (PX R)) (PX R)) (j_1 (sOf []) w1_17)))
      (fun s_1 d_1 w1_16 =>
      NC p0 fun x62 =>
      RD Tryz.prog (Instr.fieldAt 58 x62 4) w1_16 (fun x63 =>
      RD Tryz.prog (Instr.loadAt 29 x63) w1_16 (fun x64 =>
      RD Tryz.prog (bo .neq 29 (.tmp 64) (.const (.int .i64 0)) x64 (.int .i64 0)) w1_16 (fun x65 =>
      BS x65 (RD Tryz.prog (Instr.loadAt 40 x4) w1_16 (fun x66 =>
      WU Tryz.prog (Instr.storeAt 40 x2 x66) w1_16 (fun w1_19 =>
      RD Tryz.prog (Instr.loadAt 40 x2) w1_19 (fun r_1 => R (.returned r_1) w1_19) NX) (PX R)) (PX R)) (CA Tryz.prog 32 #[p0, (.string (bs [58, 45]))] w1_16 (fun x68 w1_20 =>
      JS (fun j_3 =>
        BS x68 (CA Tryz.prog 36 #[p0] w1_20 (fun x71 w1_22 =>
        RD Tryz.prog (Instr.fieldAt 40 x4 2) w1_22 (fun x72 =>
        WU Tryz.prog (Instr.storeAt 37 x72 x71) w1_22 (fun w1_23 =>
        j_3 (sOf []) w1_23) (PX R)) (PX R)) (PC R)) (j_3 (sOf []) w1_20))
        (fun s_3 d_3 w1_21 =>
        JS (fun j_4 =>
          NC p0 fun x74 =>
          RD Tryz.prog (Instr.fieldAt 58 x74 4) w1_21 (fun x75 =>
          RD Tryz.prog (Instr.loadAt 29 x75) w1_21 (fun x76 =>
          RD Tryz.prog (bo .eql 29 (.tmp 76) (.const (.int .i64 0)) x76 (.int .i64 0)) w1_21 (fun x77 =>
          BS x77 (CA Tryz.prog 34 #[p0, (.string (bs [46]))] w1_21 (fun x79 w1_25 =>
          j_4 (sOf []) w1_25) (PC R)) (j_4 (sOf []) w1_21)) (PX R)) (PX R)) (PX R))
          (fun s_4 d_4 w1_24 =>
          NC p0 fun x81 =>
          RD Tryz.prog (Instr.fieldAt 58 x81 2) w1_24 (fun x82 =>
          RD Tryz.prog (Instr.loadAt 38 x82) w1_24 (fun x83 =>
          RD Tryz.prog (Instr.fieldAt 40 x4 3) w1_24 (fun x84 =>
          WU Tryz.prog (Instr.storeAt 38 x84 x83) w1_24 (fun w1_26 =>
          RD Tryz.prog (Instr.loadAt 40 x4) w1_26 (fun x85 =>
          WU Tryz.prog (Instr.storeAt 40 x2 x85) w1_26 (fun w1_27 =>
          RD Tryz.prog (Instr.loadAt 40 x2) w1_27 (fun r_2 => R (.returned r_2) w1_27) NX) (PX R)) (PX R)) (PX R)) (PX R)) (PX R)) (PX R)))) (PC R))) (PX R)) (PX R)) (PX R))) (PC R)) (PX R)) (PX R))) (PC R)) (PX R)) (PX R)) (PX R)) (PX R)) (PX R)) (PX R)) (PX R)) (PX R)) (PX R)) (PX R)) (PX R))) (PX R)) (PX R)) (PX R)) (PX R)) (PX R)) (PC R)) (PX R)) (PX R)) (PX R)
theorem sh_Pr_parser_clause_ok {p0 : Value} {w : World} {R : Ending → World → Prop} (h : sh_Pr_parser_clause p0 w R) : Calls Tryz.prog 18 #[p0] w R :=
  callsEq (args := [p0]) (good (fun _ => []) (fun n => match n with | 11002 => some [] | 13000 => some [56] | 14001 => some [] | 19001 => some [] | 21001 => some [] | _ => none) (fun _ => 0) (fun _ => none) (fun _ => []) (fun n => match n with | 11002 => [] | 13000 => [] | 14001 => [] | 19001 => [] | 21001 => [] | _ => []) (fun n => match n with | 11002 => true | 13000 => true | 14001 => true | 19001 => true | 21001 => true | _ => false) (fun n => match n with | 5 => true | 7 => true | 15 => true | 31 => true | 32 => true | 54 => true | 55 => true | 56 => true | 65 => true | 68 => true | 69 => true | 77 => true | _ => false)) Tryz.func18 rfl (by kernel_rfl) (by kernel_rfl) (Nat.le_of_ble_eq_true (by kernel_rfl)) [] (by kernel_rfl) h
def sh_r_size (p0 : Value) (w : World) (R : Ending → World → Prop) : Prop :=
  LoopW (fun rec s d w1 =>
    RD Tryz.prog (Builtin.len_ #[34] 3 #[p0]) w1 (fun x8 =>
    RD Tryz.prog (bo .lss 3 (.tmp 6) (.tmp 8) (s 4) x8) w1 (fun x9 =>
    BS x9 (RD Tryz.prog (Instr.indexAt 34 p0 (s 4)) w1 (fun x14 =>
    RD Tryz.prog (Instr.fieldAt 69 x14 4) w1 (fun x15 =>
    RD Tryz.prog (Instr.loadAt 34 x15) w1 (fun x16 =>
    CA Tryz.prog 19 #[x16] w1 (fun x17 w1_1 =>
    RD Tryz.prog (bo .add 3 (.tmp 18) (.const (.int .i64 1)) (s 3) (.int .i64 1)) w1_1 (fun x19 =>
    RD Tryz.prog (bo .add 3 (.tmp 19) (.tmp 20) x19 x17) w1_1 (fun x21 =>
    RD Tryz.prog (bo .add 3 (.tmp 10) (.const (.int .i64 1)) (s 4) (.int .i64 1)) w1_1 (fun x11 =>
    rec (sOf [(3, x21), (4, x11)]) w1_1) (PX R)) (PX R)) (PX R)) (PC R)) (PX R)) (PX R)) (PX R)) (R (.returned (s 3)) w1)) (PX R)) (PX R))
    (sOf [(3, (.int .i64 0)), (4, (.int .i64 0))]) w
theorem sh_r_size_ok {p0 : Value} {w : World} {R : Ending → World → Prop} (h : sh_r_size p0 w R) : Calls Tryz.prog 19 #[p0] w R :=
  callsEq (args := [p0]) (good (fun n => match n with | 3 => [3, 4] | _ => []) (fun _ => none) (fun _ => 0) (fun _ => none) (fun n => match n with | 3 => [] | _ => []) (fun _ => []) (fun _ => false) (fun n => match n with | 9 => true | _ => false)) Tryz.func19 rfl (by kernel_rfl) (by kernel_rfl) (Nat.le_of_ble_eq_true (by kernel_rfl)) [] (by kernel_rfl) h
end Go.Proofs.YtkmpelgfhjgddaaGreatDoor
namespace Go.Proofs.YtkmpelgfhjgddaaGreatDoor
open Go.Proofs.YtkmpelgfhjgddaaGreatDoor.Sx
set_option maxRecDepth 100000
set_option linter.unusedVariables false
def sh_r_begun (p0 : Value) (w : World) (R : Ending → World → Prop) : Prop :=
  RD Tryz.prog (Builtin.len_ #[9] 3 #[p0]) w (fun x8 =>
  RD Tryz.prog (bo .gtr 3 (.tmp 8) (.const (.int .i64 2000)) x8 (.int .i64 2000)) w (fun x9 =>
  BS x9 (R (.returned (.tuple #[(.pointer none), (.int .i64 1), (.int .i64 0)])) w) (CA Tryz.prog 30 #[p0] w (fun x12 w1 =>
  RD Tryz.prog (Instr.extract x12 0) w1 (fun x13 =>
  RD Tryz.prog (Instr.extract x12 1) w1 (fun x14 =>
  RD Tryz.prog (bo .geq 3 (.tmp 15) (.const (.int .i64 0)) x14 (.int .i64 0)) w1 (fun x16 =>
  BS x16 (R (.returned (.tuple #[(.pointer none), (.int .i64 2), x14])) w1) (RD Tryz.prog (Instr.build 58 #[(0, x13)]) w1 (fun x19 =>
  WR Tryz.prog (Instr.box 58 x19) w1 (fun x20 w1_1 =>
  R (.returned (.tuple #[x20, (.int .i64 0), (.int .i64 (-1))])) w1_1) (PX R)) (PX R))) (PX R)) (PX R)) (PX R)) (PC R))) (PX R)) (PX R)
theorem sh_r_begun_ok {p0 : Value} {w : World} {R : Ending → World → Prop} (h : sh_r_begun p0 w R) : Calls Tryz.prog 15 #[p0] w R :=
  callsEq (args := [p0]) (good (fun _ => []) (fun _ => none) (fun _ => 0) (fun _ => none) (fun _ => []) (fun _ => []) (fun _ => false) (fun n => match n with | 9 => true | 16 => true | _ => false)) Tryz.func15 rfl (by kernel_rfl) (by kernel_rfl) (Nat.le_of_ble_eq_true (by kernel_rfl)) [] (by kernel_rfl) h
def sh_r_Program (p0 : Value) (w : World) (R : Ending → World → Prop) : Prop :=
  CA Tryz.prog 15 #[p0] w (fun x13 w1 =>
  RD Tryz.prog (Instr.extract x13 0) w1 (fun x14 =>
  RD Tryz.prog (Instr.extract x13 1) w1 (fun x15 =>
  RD Tryz.prog (Instr.extract x13 2) w1 (fun x16 =>
  RD Tryz.prog (bo .eql 53 (.tmp 17) (.const (.pointer none)) x14 (.pointer none)) w1 (fun x18 =>
  BS x18 (R (.returned (.tuple #[(.slice none 0 0), x15, x16])) w1) (JS (fun j =>
    LoopW (fun rec s_1 d_1 w1_2 =>
      NC x14 fun x22 =>
      RD Tryz.prog (Instr.fieldAt 58 x22 4) w1_2 (fun x23 =>
      RD Tryz.prog (Instr.loadAt 29 x23) w1_2 (fun x24 =>
      RD Tryz.prog (bo .eql 29 (.tmp 24) (.const (.int .i64 0)) x24 (.int .i64 0)) w1_2 (fun x25 =>
      BS x25 (CA Tryz.prog 16 #[x14] w1_2 (fun x27 w1_3 =>
      WR Tryz.prog (Instr.alloc 60 true (.tuple #[])) w1_3 (fun x9 w1_4 =>
      WU Tryz.prog (Instr.storeAt 60 x9 x27) w1_4 (fun w1_5 =>
      RD Tryz.prog (Instr.fieldAt 60 x9 0) w1_5 (fun x28 =>
      RD Tryz.prog (Instr.loadAt 5 x28) w1_5 (fun x29 =>
      RD Tryz.prog (bo .eql 5 (.tmp 29) (.const (.int .u8 101)) x29 (.int .u8 101)) w1_5 (fun x30 =>
      BS x30 (R (.returned (.tuple #[(s_1 8), (.int .i64 0), (.int .i64 (-1))])) w1_5) (RD Tryz.prog (Builtin.len_ #[23] 3 #[(s_1 8)]) w1_5 (fun x33 =>
      RD Tryz.prog (bo .eql 3 (.tmp 33) (.const (.int .i64 40)) x33 (.int .i64 40)) w1_5 (fun x34 =>
      BS x34 (RD Tryz.prog (Instr.fieldAt 60 x9 2) w1_5 (fun x36 =>
      RD Tryz.prog (Instr.loadAt 3 x36) w1_5 (fun x37 =>
      CA Tryz.prog 17 #[x14, (.int .i64 4), x37] w1_5 (fun x38 w1_6 =>
      j (sOf []) w1_6) (PC R)) (PX R)) (PX R)) (CA Tryz.prog 18 #[x14] w1_5 (fun x40 w1_7 =>
      WR Tryz.prog (Instr.alloc 40 true (.tuple #[])) w1_7 (fun x10 w1_8 =>
      WU Tryz.prog (Instr.storeAt 40 x10 x40) w1_8 (fun w1_9 =>
      RD Tryz.prog (Instr.loadAt 40 x10) w1_9 (fun x42 =>
      WR Tryz.prog (Instr.buildSlice 23 1 #[(0, x42)]) w1_9 (fun x43 w1_10 =>
      WR Tryz.prog (Builtin.append_ #[23, 23] 23 #[(s_1 8), x43]) w1_10 (fun x44 w1_11 =>
      rec (sOf [(8, x44)]) w1_11) (PX R)) (PX R)) (PX R)) (PX R)) (PX R)) (PC R))) (PX R)) (PX R))) (PX R)) (PX R)) (PX R)) (PX R)) (PX R)) (PC R)) (j (sOf []) w1_2)) (PX R)) (PX R)) (PX R))
      (sOf [(8, (.slice none 0 0))]) w1)
    (fun s d w1_1 =>
    NC x14 fun x46 =>
    RD Tryz.prog (Instr.fieldAt 58 x46 4) w1_1.drew (fun x47 =>
    RD Tryz.prog (Instr.loadAt 29 x47) w1_1.drew (fun x48 =>
    NC x14 fun x50 =>
    RD Tryz.prog (Instr.fieldAt 58 x50 5) w1_1.drew (fun x51 =>
    RD Tryz.prog (Instr.loadAt 3 x51) w1_1.drew (fun x52 =>
    R (.returned (.tuple #[(.slice none 0 0), x48, x52])) w1_1.drew) NX) NX) NX) NX))) (PX R)) (PX R)) (PX R)) (PX R)) (PC R)
theorem sh_r_Program_ok {p0 : Value} {w : World} {R : Ending → World → Prop} (h : sh_r_Program p0 w R) : Calls Tryz.prog 8 #[p0] w R :=
  callsEq (args := [p0]) (good (fun n => match n with | 5 => [8] | _ => []) (fun n => match n with | 12007 => some [] | _ => none) (fun n => match n with | 13 => 11 | _ => 0) (fun _ => none) (fun n => match n with | 5 => [] | _ => []) (fun n => match n with | 12007 => [] | _ => []) (fun n => match n with | 12007 => true | _ => false) (fun n => match n with | 18 => true | 25 => true | 30 => true | 34 => true | _ => false)) Tryz.func8 rfl (by kernel_rfl) (by kernel_rfl) (Nat.le_of_ble_eq_true (by kernel_rfl)) [] (by kernel_rfl) h
def sh_r_lex (p0 : Value) (w : World) (R : Ending → World → Prop) : Prop :=
  CA Tryz.prog 61 #[] w (fun x13 w1 =>
  LoopW (fun rec s d w1_1 =>
    RD Tryz.prog (Builtin.len_ #[9] 3 #[p0]) w1_1 (fun x16 =>
    RD Tryz.prog (bo .lss 3 (.tmp 14) (.tmp 16) (s 6) x16) w1_1 (fun x17 =>
    BS x17 (RD Tryz.prog (Instr.index 9 p0 (s 6)) w1_1 (fun x20 =>
    JS (fun j =>
      JS (fun j_1 =>
        RD Tryz.prog (bo .eql 5 (.tmp 21) (.const (.int .u8 32)) x20 (.int .u8 32)) w1_1 (fun x22 => BS x22 (
        j_1 (sOf [(26, (.bool true))]) w1_1) (
        RD Tryz.prog (bo .eql 5 (.tmp 24) (.const (.int .u8 10)) x20 (.int .u8 10)) w1_1 (fun x25 =>
        j_1 (sOf [(26, x25)]) w1_1) (PX R))) (PX R))
        (fun s_2 d_2 w1_3 =>
        BS (s_2 26) (RD Tryz.prog (bo .add 3 (.tmp 27) (.const (.int .i64 1)) (s 6) (.int .i64 1)) w1_3 (fun x28 =>
        rec (sOf [(4, (s 4)), (6, x28)]) w1_3) (PX R)) (j (sOf [(6, (s 6))]) w1_3)))
      (fun s_1 d_1 w1_2 =>
      JS (fun j_2 =>
        LoopW (fun rec_1 s_4 d_4 w1_5 =>
          RD Tryz.prog (Builtin.len_ #[9] 3 #[p0]) w1_5 (fun x32 =>
          RD Tryz.prog (bo .lss 3 (.tmp 30) (.tmp 32) (s_4 8) x32) w1_5 (fun x33 => BS x33 (
          RD Tryz.prog (Instr.index 9 p0 (s_4 8)) w1_5 (fun x37 =>
          CA Tryz.prog 62 #[x37] w1_5 (fun x38 w1_6 =>
          RD Tryz.prog (bo .neq 5 (.tmp 38) (.const (.int .u8 0)) x38 (.int .u8 0)) w1_6 (fun x39 =>
          BS x39 (RD Tryz.prog (bo .add 3 (.tmp 41) (.const (.int .i64 1)) (s_4 8) (.int .i64 1)) w1_6 (fun x42 =>
          rec_1 (sOf [(8, x42)]) w1_6) (PX R)) (j_2 (sOf [(8, (s_4 8))]) w1_6)) (PX R)) (PC R)) (PX R)) (
          BS (.bool false) (RD Tryz.prog (bo .add 3 (.tmp 41) (.const (.int .i64 1)) (s_4 8) (.int .i64 1)) w1_5 (fun x42_1 =>
          rec_1 (sOf [(8, x42_1)]) w1_5) (PX R)) (j_2 (sOf [(8, (s_4 8))]) w1_5))) (PX R)) (PX R))
          (sOf [(8, (s_1 6))]) w1_2)
        (fun s_3 d_3 w1_4 =>
        RD Tryz.prog (bo .gtr 3 (.tmp 43) (.tmp 44) (s_3 8) (s_1 6)) w1_4 (fun x45 =>
        BS x45 (RD Tryz.prog (Instr.sliceAt 9 p0 (some (s_1 6)) (some (s_3 8)) none) w1_4 (fun x49 =>
        CA Tryz.prog 63 #[x49, (s_1 6)] w1_4 (fun x51 w1_7 =>
        WR Tryz.prog (Instr.alloc 60 true (.tuple #[])) w1_7 (fun x9 w1_8 =>
        WU Tryz.prog (Instr.storeAt 60 x9 x51) w1_8 (fun w1_9 =>
        RD Tryz.prog (Instr.fieldAt 60 x9 0) w1_9 (fun x52 =>
        RD Tryz.prog (Instr.loadAt 5 x52) w1_9 (fun x53 =>
        RD Tryz.prog (bo .eql 5 (.tmp 53) (.const (.int .u8 0)) x53 (.int .u8 0)) w1_9 (fun x54 =>
        BS x54 (R (.returned (.tuple #[(.slice none 0 0), (s_1 6)])) w1_9) (RD Tryz.prog (Instr.loadAt 60 x9) w1_9 (fun x57 =>
        WR Tryz.prog (Instr.buildSlice 56 1 #[(0, x57)]) w1_9 (fun x58 w1_10 =>
        WR Tryz.prog (Builtin.append_ #[56, 56] 56 #[(s 4), x58]) w1_10 (fun x59 w1_11 =>
        rec (sOf [(4, x59), (6, (s_3 8))]) w1_11) (PX R)) (PX R)) (PX R))) (PX R)) (PX R)) (PX R)) (PX R)) (PX R)) (PC R)) (PX R)) (JS (fun j_3 =>
          JS (fun j_4 =>
            RD Tryz.prog (bo .eql 5 (.tmp 61) (.const (.int .u8 46)) x20 (.int .u8 46)) w1_4 (fun x62 => BS x62 (
            RD Tryz.prog (bo .add 3 (.tmp 64) (.const (.int .i64 1)) (s_1 6) (.int .i64 1)) w1_4 (fun x65 =>
            RD Tryz.prog (Builtin.len_ #[9] 3 #[p0]) w1_4 (fun x67 =>
            RD Tryz.prog (bo .eql 3 (.tmp 65) (.tmp 67) x65 x67) w1_4 (fun x68 => BS x68 (
            j_4 (sOf [(83, (.bool true))]) w1_4) (
            RD Tryz.prog (bo .add 3 (.tmp 71) (.const (.int .i64 1)) (s_1 6) (.int .i64 1)) w1_4 (fun x72 =>
            RD Tryz.prog (Instr.index 9 p0 x72) w1_4 (fun x73 =>
            RD Tryz.prog (bo .eql 5 (.tmp 73) (.const (.int .u8 32)) x73 (.int .u8 32)) w1_4 (fun x74 => BS x74 (
            j_4 (sOf [(83, (.bool true))]) w1_4) (
            RD Tryz.prog (bo .add 3 (.tmp 78) (.const (.int .i64 1)) (s_1 6) (.int .i64 1)) w1_4 (fun x79 =>
            RD Tryz.prog (Instr.index 9 p0 x79) w1_4 (fun x80 =>
            RD Tryz.prog (bo .eql 5 (.tmp 80) (.const (.int .u8 10)) x80 (.int .u8 10)) w1_4 (fun x81 =>
            j_4 (sOf [(83, x81)]) w1_4) (PX R)) (PX R)) (PX R))) (PX R)) (PX R)) (PX R))) (PX R)) (PX R)) (PX R)) (
            j_4 (sOf [(83, (.bool false))]) w1_4)) (PX R))
            (fun s_6 d_6 w1_13 =>
            BS (s_6 83) (j_3 (sOf [(10, (.string (bs [46])))]) w1_13) (j_3 (sOf [(10, (.string (bs [])))]) w1_13)))
          (fun s_5 d_5 w1_12 =>
          JS (fun j_5 =>
            LoopW (fun rec_2 s_8 d_8 w1_15 =>
              RD Tryz.prog (Builtin.len_ #[38] 3 #[x13]) w1_15 (fun x86 =>
              RD Tryz.prog (bo .lss 3 (.tmp 84) (.tmp 86) (s_8 11) x86) w1_15 (fun x87 => BS x87 (
              RD Tryz.prog (bo .eql 9 (.tmp 89) (.const (.string (bs []))) (s_8 10) (.string (bs []))) w1_15 (fun x90 =>
              BS x90 (JS (fun j_6 =>
                RD Tryz.prog (Instr.indexAt 38 x13 (s_8 11)) w1_15 (fun x96 =>
                RD Tryz.prog (Instr.loadAt 9 x96) w1_15 (fun x97 =>
                JS (fun j_7 =>
                  RD Tryz.prog (Builtin.len_ #[9] 3 #[x97]) w1_15 (fun x100 =>
                  RD Tryz.prog (bo .add 3 (.tmp 98) (.tmp 100) (s_1 6) x100) w1_15 (fun x101 =>
                  RD Tryz.prog (Builtin.len_ #[9] 3 #[p0]) w1_15 (fun x103 =>
                  RD Tryz.prog (bo .leq 3 (.tmp 101) (.tmp 103) x101 x103) w1_15 (fun x104 => BS x104 (
                  RD Tryz.prog (Builtin.len_ #[9] 3 #[x97]) w1_15 (fun x110 =>
                  RD Tryz.prog (bo .add 3 (.tmp 108) (.tmp 110) (s_1 6) x110) w1_15 (fun x111 =>
                  RD Tryz.prog (Instr.sliceAt 9 p0 (some (s_1 6)) (some x111) none) w1_15 (fun x112 =>
                  RD Tryz.prog (bo .eql 9 (.tmp 112) (.tmp 113) x112 x97) w1_15 (fun x114 =>
                  j_7 (sOf [(115, x114)]) w1_15) (PX R)) (PX R)) (PX R)) (PX R)) (
                  j_7 (sOf [(115, (.bool false))]) w1_15)) (PX R)) (PX R)) (PX R)) (PX R))
                  (fun s_10 d_10 w1_17 =>
                  BS (s_10 115) (j_6 (sOf [(10, x97)]) w1_17) (j_6 (sOf [(10, (s_8 10))]) w1_17))) (PX R)) (PX R))
                (fun s_9 d_9 w1_16 =>
                RD Tryz.prog (bo .add 3 (.tmp 92) (.const (.int .i64 1)) (s_8 11) (.int .i64 1)) w1_16 (fun x93 =>
                rec_2 (sOf [(10, (s_9 10)), (11, x93)]) w1_16) (PX R))) (j_5 (sOf [(10, (s_8 10))]) w1_15)) (PX R)) (
              BS (.bool false) (JS (fun j_8 =>
                RD Tryz.prog (Instr.indexAt 38 x13 (s_8 11)) w1_15 (fun x96_1 =>
                RD Tryz.prog (Instr.loadAt 9 x96_1) w1_15 (fun x97_1 =>
                JS (fun j_9 =>
                  RD Tryz.prog (Builtin.len_ #[9] 3 #[x97_1]) w1_15 (fun x100_1 =>
                  RD Tryz.prog (bo .add 3 (.tmp 98) (.tmp 100) (s_1 6) x100_1) w1_15 (fun x101_1 =>
                  RD Tryz.prog (Builtin.len_ #[9] 3 #[p0]) w1_15 (fun x103_1 =>
                  RD Tryz.prog (bo .leq 3 (.tmp 101) (.tmp 103) x101_1 x103_1) w1_15 (fun x104_1 => BS x104_1 (
                  RD Tryz.prog (Builtin.len_ #[9] 3 #[x97_1]) w1_15 (fun x110_1 =>
                  RD Tryz.prog (bo .add 3 (.tmp 108) (.tmp 110) (s_1 6) x110_1) w1_15 (fun x111_1 =>
                  RD Tryz.prog (Instr.sliceAt 9 p0 (some (s_1 6)) (some x111_1) none) w1_15 (fun x112_1 =>
                  RD Tryz.prog (bo .eql 9 (.tmp 112) (.tmp 113) x112_1 x97_1) w1_15 (fun x114_1 =>
                  j_9 (sOf [(115, x114_1)]) w1_15) (PX R)) (PX R)) (PX R)) (PX R)) (
                  j_9 (sOf [(115, (.bool false))]) w1_15)) (PX R)) (PX R)) (PX R)) (PX R))
                  (fun s_12 d_12 w1_19 =>
                  BS (s_12 115) (j_8 (sOf [(10, x97_1)]) w1_19) (j_8 (sOf [(10, (s_8 10))]) w1_19))) (PX R)) (PX R))
                (fun s_11 d_11 w1_18 =>
                RD Tryz.prog (bo .add 3 (.tmp 92) (.const (.int .i64 1)) (s_8 11) (.int .i64 1)) w1_18 (fun x93_1 =>
                rec_2 (sOf [(10, (s_11 10)), (11, x93_1)]) w1_18) (PX R))) (j_5 (sOf [(10, (s_8 10))]) w1_15))) (PX R)) (PX R))
              (sOf [(10, (s_5 10)), (11, (.int .i64 0))]) w1_12)
            (fun s_7 d_7 w1_14 =>
            RD Tryz.prog (bo .eql 9 (.tmp 117) (.const (.string (bs []))) (s_7 10) (.string (bs []))) w1_14 (fun x118 =>
            BS x118 (R (.returned (.tuple #[(.slice none 0 0), (s_1 6)])) w1_14) (RD Tryz.prog (Instr.build 60 #[(0, (.int .u8 115)), (1, (s_7 10)), (2, (s_1 6))]) w1_14 (fun x123 =>
            WR Tryz.prog (Instr.buildSlice 56 1 #[(0, x123)]) w1_14 (fun x124 w1_20 =>
            WR Tryz.prog (Builtin.append_ #[56, 56] 56 #[(s 4), x124]) w1_20 (fun x125 w1_21 =>
            RD Tryz.prog (Builtin.len_ #[9] 3 #[(s_7 10)]) w1_21 (fun x128 =>
            RD Tryz.prog (bo .add 3 (.tmp 126) (.tmp 128) (s_1 6) x128) w1_21 (fun x129 =>
            rec (sOf [(4, x125), (6, x129)]) w1_21) (PX R)) (PX R)) (PX R)) (PX R)) (PX R))) (PX R))))) (PX R)))) (PX R)) (RD Tryz.prog (Builtin.len_ #[9] 3 #[p0]) w1_1 (fun x132 =>
  RD Tryz.prog (Instr.build 60 #[(0, (.int .u8 101)), (2, x132)]) w1_1 (fun x133 =>
  WR Tryz.prog (Instr.buildSlice 56 1 #[(0, x133)]) w1_1 (fun x134 w1_22 =>
  WR Tryz.prog (Builtin.append_ #[56, 56] 56 #[(s 4), x134]) w1_22 (fun x135 w1_23 =>
  R (.returned (.tuple #[x135, (.int .i64 (-1))])) w1_23) (PX R)) (PX R)) (PX R)) (PX R))) (PX R)) (PX R))
    (sOf [(4, (.slice none 0 0)), (6, (.int .i64 0))]) w1) (PC R)
theorem sh_r_lex_ok {p0 : Value} {w : World} {R : Ending → World → Prop} (h : sh_r_lex p0 w R) : Calls Tryz.prog 30 #[p0] w R :=
  callsEq (args := [p0]) (good (fun n => match n with | 4 => [4, 6] | 9 => [8] | 21 => [10, 11] | _ => []) (fun n => match n with | 6000 => some [26] | 7001 => some [6] | 10001 => some [8] | 18000 => some [83] | 19001 => some [10] | 22005 => some [10] | 24000 => some [115] | 25002 => some [10] | _ => none) (fun _ => 0) (fun _ => none) (fun n => match n with | 4 => [] | 9 => [] | 21 => [] | _ => []) (fun n => match n with | 6000 => [] | 7001 => [] | 10001 => [] | 18000 => [] | 19001 => [] | 22005 => [] | 24000 => [] | 25002 => [] | _ => []) (fun n => match n with | 6000 => true | 7001 => true | 10001 => true | 18000 => true | 19001 => true | 22005 => true | 24000 => true | 25002 => true | _ => false) (fun n => match n with | 17 => true | 25 => true | 26 => true | 39 => true | 40 => true | 45 => true | 54 => true | 81 => true | 82 => true | 83 => true | 90 => true | 91 => true | 114 => true | 115 => true | 118 => true | _ => false)) Tryz.func30 rfl (by kernel_rfl) (by kernel_rfl) (Nat.le_of_ble_eq_true (by kernel_rfl)) [] (by kernel_rfl) h
def sh_r_word (p0 p1 : Value) (w : World) (R : Ending → World → Prop) : Prop :=
  WR Tryz.prog (Instr.alloc 60 true (.tuple #[])) w (fun x4 w1 =>
  RD Tryz.prog (Instr.index 9 p0 (.int .i64 0)) w1 (fun x8 =>
  CA Tryz.prog 62 #[x8] w1 (fun x9 w1_1 =>
  JN (fun j =>
    RD Tryz.prog (bo .eql 5 (.tmp 10) (.const (.int .u8 115)) x9 (.int .u8 115)) w1_1 (fun x11 => BS x11 (
    RD Tryz.prog (Builtin.len_ #[9] 3 #[p0]) w1_1 (fun x14 =>
    RD Tryz.prog (bo .leq 3 (.tmp 14) (.const (.int .i64 8)) x14 (.int .i64 8)) w1_1 (fun x15 =>
    j (sOf [(16, x15)]) w1_1) (PX R)) (PX R)) (
    j (sOf [(16, (.bool false))]) w1_1)) (PX R))
    (fun s d w1_2 =>
    BS (s 16) (RD Tryz.prog (Instr.build 60 #[(0, (.int .u8 97)), (1, p0), (2, p1)]) w1_2 (fun x19 =>
    WU Tryz.prog (Instr.storeAt 60 x4 x19) w1_2 (fun w1_3 =>
    RD Tryz.prog (Instr.loadAt 60 x4) w1_3 (fun r => R (.returned r) w1_3) NX) (PX R)) (PX R)) (JN (fun j_1 =>
    RD Tryz.prog (bo .eql 5 (.tmp 20) (.const (.int .u8 99)) x9 (.int .u8 99)) w1_2 (fun x21 => BS x21 (
    RD Tryz.prog (Builtin.len_ #[9] 3 #[p0]) w1_2 (fun x24 =>
    RD Tryz.prog (bo .leq 3 (.tmp 24) (.const (.int .i64 8)) x24 (.int .i64 8)) w1_2 (fun x25 =>
    j_1 (sOf [(26, x25)]) w1_2) (PX R)) (PX R)) (
    j_1 (sOf [(26, (.bool false))]) w1_2)) (PX R))
    (fun s_1 d_1 w1_4 =>
    BS (s_1 26) (RD Tryz.prog (Instr.build 60 #[(0, (.int .u8 118)), (1, p0), (2, p1)]) w1_4 (fun x29 =>
    WU Tryz.prog (Instr.storeAt 60 x4 x29) w1_4 (fun w1_5 =>
    RD Tryz.prog (Instr.loadAt 60 x4) w1_5 (fun r_1 => R (.returned r_1) w1_5) NX) (PX R)) (PX R)) (JN (fun j_2 =>
    RD Tryz.prog (bo .neq 5 (.tmp 30) (.const (.int .u8 100)) x9 (.int .u8 100)) w1_4 (fun x31 => BS x31 (
    j_2 (sOf [(46, (.bool true))]) w1_4) (
    RD Tryz.prog (Builtin.len_ #[9] 3 #[p0]) w1_4 (fun x34 =>
    RD Tryz.prog (bo .gtr 3 (.tmp 34) (.const (.int .i64 9)) x34 (.int .i64 9)) w1_4 (fun x35 => BS x35 (
    j_2 (sOf [(46, (.bool true))]) w1_4) (
    RD Tryz.prog (Instr.index 9 p0 (.int .i64 0)) w1_4 (fun x39 =>
    RD Tryz.prog (bo .eql 5 (.tmp 39) (.const (.int .u8 48)) x39 (.int .u8 48)) w1_4 (fun x40 => BS x40 (
    RD Tryz.prog (Builtin.len_ #[9] 3 #[p0]) w1_4 (fun x43 =>
    RD Tryz.prog (bo .gtr 3 (.tmp 43) (.const (.int .i64 1)) x43 (.int .i64 1)) w1_4 (fun x44 =>
    j_2 (sOf [(46, x44)]) w1_4) (PX R)) (PX R)) (
    j_2 (sOf [(46, (.bool false))]) w1_4)) (PX R)) (PX R))) (PX R)) (PX R))) (PX R))
    (fun s_2 d_2 w1_6 =>
    BS (s_2 46) (RD Tryz.prog (Instr.build 60 #[]) w1_6 (fun x47 =>
    WU Tryz.prog (Instr.storeAt 60 x4 x47) w1_6 (fun w1_7 =>
    RD Tryz.prog (Instr.loadAt 60 x4) w1_7 (fun r_2 => R (.returned r_2) w1_7) NX) (PX R)) (PX R)) (LoopW (fun rec s_3 d_3 w1_8 =>
    RD Tryz.prog (Builtin.len_ #[9] 3 #[p0]) w1_8 (fun x50 =>
    RD Tryz.prog (bo .lss 3 (.tmp 48) (.tmp 50) (s_3 6) x50) w1_8 (fun x51 =>
    BS x51 (JN (fun j_3 =>
      RD Tryz.prog (Instr.index 9 p0 (s_3 6)) w1_8 (fun x56 =>
      RD Tryz.prog (bo .lss 5 (.tmp 56) (.const (.int .u8 48)) x56 (.int .u8 48)) w1_8 (fun x57 => BS x57 (
      j_3 (sOf [(63, (.bool true))]) w1_8) (
      RD Tryz.prog (Instr.index 9 p0 (s_3 6)) w1_8 (fun x61 =>
      RD Tryz.prog (bo .gtr 5 (.tmp 61) (.const (.int .u8 57)) x61 (.int .u8 57)) w1_8 (fun x62 =>
      j_3 (sOf [(63, x62)]) w1_8) (PX R)) (PX R))) (PX R)) (PX R))
      (fun s_4 d_4 w1_9 =>
      BS (s_4 63) (RD Tryz.prog (Instr.build 60 #[]) w1_9 (fun x64 =>
      WU Tryz.prog (Instr.storeAt 60 x4 x64) w1_9 (fun w1_10 =>
      RD Tryz.prog (Instr.loadAt 60 x4) w1_10 (fun r_3 => R (.returned r_3) w1_10) NX) (PX R)) (PX R)) (RD Tryz.prog (bo .add 3 (.tmp 52) (.const (.int .i64 1)) (s_3 6) (.int .i64 1)) w1_9 (fun x53 =>
    rec (sOf [(6, x53)]) w1_9) (PX R)))) (RD Tryz.prog (Instr.build 60 #[(0, (.int .u8 110)), (1, p0), (2, p1)]) w1_8 (fun x67 =>
  WU Tryz.prog (Instr.storeAt 60 x4 x67) w1_8 (fun w1_11 =>
  RD Tryz.prog (Instr.loadAt 60 x4) w1_11 (fun r_4 => R (.returned r_4) w1_11) NX) (PX R)) (PX R))) (PX R)) (PX R))
    (sOf [(6, (.int .i64 0))]) w1_6))))))) (PC R)) (PX R)) (PX R)
theorem sh_r_word_ok {p0 p1 : Value} {w : World} {R : Ending → World → Prop} (h : sh_r_word p0 p1 w R) : Calls Tryz.prog 63 #[p0, p1] w R :=
  callsEq (args := [p0, p1]) (good (fun n => match n with | 9 => [6] | _ => []) (fun n => match n with | 2000 => some [16] | 4000 => some [26] | 6000 => some [46] | 11000 => some [63] | _ => none) (fun _ => 0) (fun _ => none) (fun n => match n with | 9 => [] | _ => []) (fun n => match n with | 2000 => [] | 4000 => [] | 6000 => [] | 11000 => [] | _ => []) (fun _ => false) (fun n => match n with | 15 => true | 16 => true | 25 => true | 26 => true | 44 => true | 45 => true | 46 => true | 51 => true | 62 => true | 63 => true | _ => false)) Tryz.func63 rfl (by kernel_rfl) (by kernel_rfl) (Nat.le_of_ble_eq_true (by kernel_rfl)) [] (by kernel_rfl) h
def sh_r_class (p0 : Value) (w : World) (R : Ending → World → Prop) : Prop :=
  JN (fun j =>
    RD Tryz.prog (bo .geq 5 (.tmp 3) (.const (.int .u8 97)) p0 (.int .u8 97)) w (fun x4 => BS x4 (
    RD Tryz.prog (bo .leq 5 (.tmp 6) (.const (.int .u8 122)) p0 (.int .u8 122)) w (fun x7 =>
    j (sOf [(8, x7)]) w) (PX R)) (
    j (sOf [(8, (.bool false))]) w)) (PX R))
    (fun s d w1 =>
    BS (s 8) (R (.returned (.int .u8 115)) w1) (JN (fun j_1 =>
    RD Tryz.prog (bo .geq 5 (.tmp 9) (.const (.int .u8 65)) p0 (.int .u8 65)) w1 (fun x10 => BS x10 (
    RD Tryz.prog (bo .leq 5 (.tmp 12) (.const (.int .u8 90)) p0 (.int .u8 90)) w1 (fun x13 => BS x13 (
    j_1 (sOf [(18, (.bool true))]) w1) (
    RD Tryz.prog (bo .eql 5 (.tmp 16) (.const (.int .u8 95)) p0 (.int .u8 95)) w1 (fun x17 =>
    j_1 (sOf [(18, x17)]) w1) (PX R))) (PX R)) (
    RD Tryz.prog (bo .eql 5 (.tmp 16) (.const (.int .u8 95)) p0 (.int .u8 95)) w1 (fun x17_1 =>
    j_1 (sOf [(18, x17_1)]) w1) (PX R))) (PX R))
    (fun s_1 d_1 w1_1 =>
    BS (s_1 18) (R (.returned (.int .u8 99)) w1_1) (JN (fun j_2 =>
    RD Tryz.prog (bo .geq 5 (.tmp 19) (.const (.int .u8 48)) p0 (.int .u8 48)) w1_1 (fun x20 => BS x20 (
    RD Tryz.prog (bo .leq 5 (.tmp 22) (.const (.int .u8 57)) p0 (.int .u8 57)) w1_1 (fun x23 =>
    j_2 (sOf [(24, x23)]) w1_1) (PX R)) (
    j_2 (sOf [(24, (.bool false))]) w1_1)) (PX R))
    (fun s_2 d_2 w1_2 =>
    BS (s_2 24) (R (.returned (.int .u8 100)) w1_2) (R (.returned (.int .u8 0)) w1_2))))))
theorem sh_r_class_ok {p0 : Value} {w : World} {R : Ending → World → Prop} (h : sh_r_class p0 w R) : Calls Tryz.prog 62 #[p0] w R :=
  callsEq (args := [p0]) (good (fun _ => []) (fun n => match n with | 1000 => some [8] | 3000 => some [18] | 5000 => some [24] | _ => none) (fun _ => 0) (fun _ => none) (fun _ => []) (fun n => match n with | 1000 => [] | 3000 => [] | 5000 => [] | _ => []) (fun _ => false) (fun n => match n with | 7 => true | 8 => true | 17 => true | 18 => true | 23 => true | 24 => true | _ => false)) Tryz.func62 rfl (by kernel_rfl) (by kernel_rfl) (Nat.le_of_ble_eq_true (by kernel_rfl)) [] (by kernel_rfl) h
def sh_r_signs (w : World) (R : Ending → World → Prop) : Prop :=
  WR Tryz.prog (Instr.buildSlice 38 23 #[(0, (.string (bs [61, 58, 61]))), (1, (.string (bs [58, 45]))), (2, (.string (bs [45, 62]))), (3, (.string (bs [92, 43]))), (4, (.string (bs [92, 61]))), (5, (.string (bs [61, 61]))), (6, (.string (bs [61, 60]))), (7, (.string (bs [62, 61]))), (8, (.string (bs [47, 47]))), (9, (.string (bs [40]))), (10, (.string (bs [41]))), (11, (.string (bs [91]))), (12, (.string (bs [93]))), (13, (.string (bs [44]))), (14, (.string (bs [124]))), (15, (.string (bs [59]))), (16, (.string (bs [33]))), (17, (.string (bs [61]))), (18, (.string (bs [60]))), (19, (.string (bs [62]))), (20, (.string (bs [43]))), (21, (.string (bs [45]))), (22, (.string (bs [42])))]) w (fun x1 w1 =>
  R (.returned x1) w1) (PX R)
theorem sh_r_signs_ok {w : World} {R : Ending → World → Prop} (h : sh_r_signs  w R) : Calls Tryz.prog 61 #[] w R :=
  callsEq (args := []) (good (fun _ => []) (fun _ => none) (fun _ => 0) (fun _ => none) (fun _ => []) (fun _ => []) (fun _ => false) (fun _ => false)) Tryz.func61 rfl (by kernel_rfl) (by kernel_rfl) (Nat.le_of_ble_eq_true (by kernel_rfl)) [] (by kernel_rfl) h
end Go.Proofs.YtkmpelgfhjgddaaGreatDoor
