/- A part of one proof (ShR5, SlU); no conditions beyond what each theorem names. -/
import Derived.Test.YtkmpelgfhjgddaaGreatDoorPkRAT
set_option linter.all false
set_option linter.unusedVariables false
set_option linter.unusedSimpArgs false
namespace Go.Proofs.YtkmpelgfhjgddaaGreatDoor
open Go.Proofs.YtkmpelgfhjgddaaGreatDoor.Sx
set_option maxRecDepth 100000
set_option linter.unusedVariables false
def sh_Pr_Heap_add (p0 p1 p2 p3 p4 : Value) (w : World) (R : Ending → World → Prop) : Prop :=
  NC p0 fun x13 =>
  RD Tryz.prog (Instr.fieldAt 129 x13 0) w (fun x14 =>
  RD Tryz.prog (Instr.loadAt 116 x14) w (fun x15 =>
  WR Tryz.prog (Instr.buildSlice 116 1 #[(0, p1)]) w (fun x17 w1 =>
  WR Tryz.prog (Builtin.append_ #[116, 116] 116 #[x15, x17]) w1 (fun x18 w1_1 =>
  NC p0 fun x19 =>
  RD Tryz.prog (Instr.fieldAt 129 x19 0) w1_1 (fun x20 =>
  WU Tryz.prog (Instr.storeAt 116 x20 x18) w1_1 (fun w1_2 =>
  NC p0 fun x23 =>
  RD Tryz.prog (Instr.fieldAt 129 x23 1) w1_2 (fun x24 =>
  RD Tryz.prog (Instr.loadAt 38 x24) w1_2 (fun x25 =>
  WR Tryz.prog (Instr.buildSlice 38 1 #[(0, p2)]) w1_2 (fun x27 w1_3 =>
  WR Tryz.prog (Builtin.append_ #[38, 38] 38 #[x25, x27]) w1_3 (fun x28 w1_4 =>
  NC p0 fun x29 =>
  RD Tryz.prog (Instr.fieldAt 129 x29 1) w1_4 (fun x30 =>
  WU Tryz.prog (Instr.storeAt 38 x30 x28) w1_4 (fun w1_5 =>
  NC p0 fun x33 =>
  RD Tryz.prog (Instr.fieldAt 129 x33 2) w1_5 (fun x34 =>
  RD Tryz.prog (Instr.loadAt 126 x34) w1_5 (fun x35 =>
  WR Tryz.prog (Instr.buildSlice 126 1 #[(0, p3)]) w1_5 (fun x37 w1_6 =>
  WR Tryz.prog (Builtin.append_ #[126, 126] 126 #[x35, x37]) w1_6 (fun x38 w1_7 =>
  NC p0 fun x39 =>
  RD Tryz.prog (Instr.fieldAt 129 x39 2) w1_7 (fun x40 =>
  WU Tryz.prog (Instr.storeAt 126 x40 x38) w1_7 (fun w1_8 =>
  NC p0 fun x43 =>
  RD Tryz.prog (Instr.fieldAt 129 x43 3) w1_8 (fun x44 =>
  RD Tryz.prog (Instr.loadAt 127 x44) w1_8 (fun x45 =>
  WR Tryz.prog (Instr.buildSlice 127 1 #[(0, p4)]) w1_8 (fun x47 w1_9 =>
  WR Tryz.prog (Builtin.append_ #[127, 127] 127 #[x45, x47]) w1_9 (fun x48 w1_10 =>
  NC p0 fun x49 =>
  RD Tryz.prog (Instr.fieldAt 129 x49 3) w1_10 (fun x50 =>
  WU Tryz.prog (Instr.storeAt 127 x50 x48) w1_10 (fun w1_11 =>
  NC p0 fun x53 =>
  RD Tryz.prog (Instr.fieldAt 129 x53 4) w1_11 (fun x54 =>
  RD Tryz.prog (Instr.loadAt 73 x54) w1_11 (fun x55 =>
  WR Tryz.prog (Instr.buildSlice 73 1 #[(0, (.int .i64 (-1)))]) w1_11 (fun x56 w1_12 =>
  WR Tryz.prog (Builtin.append_ #[73, 73] 73 #[x55, x56]) w1_12 (fun x57 w1_13 =>
  NC p0 fun x58 =>
  RD Tryz.prog (Instr.fieldAt 129 x58 4) w1_13 (fun x59 =>
  WU Tryz.prog (Instr.storeAt 73 x59 x57) w1_13 (fun w1_14 =>
  NC p0 fun x61 =>
  RD Tryz.prog (Instr.fieldAt 129 x61 0) w1_14 (fun x62 =>
  RD Tryz.prog (Instr.loadAt 116 x62) w1_14 (fun x63 =>
  RD Tryz.prog (Builtin.len_ #[116] 3 #[x63]) w1_14 (fun x64 =>
  RD Tryz.prog (bo .sub 3 (.tmp 64) (.const (.int .i64 1)) x64 (.int .i64 1)) w1_14 (fun x65 =>
  R (.returned x65) w1_14) (PX R)) (PX R)) (PX R)) (PX R)) (PX R)) (PX R)) (PX R)) (PX R)) (PX R)) (PX R)) (PX R)) (PX R)) (PX R)) (PX R)) (PX R)) (PX R)) (PX R)) (PX R)) (PX R)) (PX R)) (PX R)) (PX R)) (PX R)) (PX R)) (PX R)) (PX R)) (PX R)) (PX R)) (PX R)) (PX R)) (PX R)) (PX R)) (PX R)) (PX R)
theorem sh_Pr_Heap_add_ok {p0 p1 p2 p3 p4 : Value} {w : World} {R : Ending → World → Prop} (h : sh_Pr_Heap_add p0 p1 p2 p3 p4 w R) : Calls Tryz.prog 42 #[p0, p1, p2, p3, p4] w R :=
  callsEq (args := [p0, p1, p2, p3, p4]) (good (fun _ => []) (fun _ => none) (fun _ => 0) (fun _ => none) (fun _ => []) (fun _ => []) (fun _ => false) (fun _ => false)) Tryz.func42 rfl (by kernel_rfl) (by kernel_rfl) (Nat.le_of_ble_eq_true (by kernel_rfl)) [] (by kernel_rfl) h
def sh_Pr_Heap_Spent (p0 : Value) (w : World) (R : Ending → World → Prop) : Prop :=
  NC p0 fun x4 =>
  RD Tryz.prog (Instr.fieldAt 129 x4 6) w.drew (fun x5 =>
  RD Tryz.prog (Instr.loadAt 3 x5) w.drew (fun x6 =>
  NC p0 fun x8 =>
  RD Tryz.prog (Instr.fieldAt 129 x8 7) w.drew (fun x9 =>
  RD Tryz.prog (Instr.loadAt 3 x9) w.drew (fun x10 =>
  RD Tryz.prog (bo .gtr 3 (.tmp 6) (.tmp 10) x6 x10) w.drew (fun x11 => BS x11 (
  R (.returned (.bool true)) w.drew) (
  NC p0 fun x14 =>
  RD Tryz.prog (Instr.fieldAt 129 x14 8) w.drew (fun x15 =>
  RD Tryz.prog (Instr.loadAt 29 x15) w.drew (fun x16 =>
  RD Tryz.prog (bo .neq 29 (.tmp 16) (.const (.int .i64 0)) x16 (.int .i64 0)) w.drew (fun x17 =>
  R (.returned x17) w.drew) NX) NX) NX)) NX) NX) NX) NX) NX
theorem sh_Pr_Heap_Spent_ok {p0 : Value} {w : World} {R : Ending → World → Prop} (h : sh_Pr_Heap_Spent p0 w R) : Calls Tryz.prog 43 #[p0] w R :=
  callsEq (args := [p0]) (good (fun _ => []) (fun _ => none) (fun n => match n with | 1 => 17 | _ => 0) (fun _ => none) (fun _ => []) (fun _ => []) (fun _ => false) (fun n => match n with | 2 => true | 17 => true | 18 => true | _ => false)) Tryz.func43 rfl (by kernel_rfl) (by kernel_rfl) (Nat.le_of_ble_eq_true (by kernel_rfl)) [] (by kernel_rfl) h
def sh_Pr_Heap_walk (p0 p1 : Value) (w : World) (R : Ending → World → Prop) : Prop :=
  JS (fun j =>
    LoopW (fun rec s_1 d_1 w1_1 =>
      NC p0 fun x6 =>
      RD Tryz.prog (Instr.fieldAt 129 x6 0) w1_1 (fun x7 =>
      RD Tryz.prog (Instr.loadAt 116 x7) w1_1 (fun x8 =>
      RD Tryz.prog (Instr.indexAt 116 x8 (s_1 1)) w1_1 (fun x10 =>
      RD Tryz.prog (Instr.loadAt 5 x10) w1_1 (fun x11 =>
      RD Tryz.prog (bo .eql 5 (.tmp 11) (.const (.int .u8 118)) x11 (.int .u8 118)) w1_1 (fun x12 => BS x12 (
      NC p0 fun x15 =>
      RD Tryz.prog (Instr.fieldAt 129 x15 4) w1_1 (fun x16 =>
      RD Tryz.prog (Instr.loadAt 73 x16) w1_1 (fun x17 =>
      RD Tryz.prog (Instr.indexAt 73 x17 (s_1 1)) w1_1 (fun x19 =>
      RD Tryz.prog (Instr.loadAt 3 x19) w1_1 (fun x20 =>
      RD Tryz.prog (bo .geq 3 (.tmp 20) (.const (.int .i64 0)) x20 (.int .i64 0)) w1_1 (fun x21 =>
      BS x21 (NC p0 fun x24 =>
      RD Tryz.prog (Instr.fieldAt 129 x24 4) w1_1 (fun x25 =>
      RD Tryz.prog (Instr.loadAt 73 x25) w1_1 (fun x26 =>
      RD Tryz.prog (Instr.indexAt 73 x26 (s_1 1)) w1_1 (fun x28 =>
      RD Tryz.prog (Instr.loadAt 3 x28) w1_1 (fun x29 =>
      rec (sOf [(1, x29)]) w1_1) (PX R)) (PX R)) (PX R)) (PX R)) (j (sOf [(1, (s_1 1))]) w1_1)) (PX R)) (PX R)) (PX R)) (PX R)) (PX R)) (
      BS (.bool false) (NC p0 fun x24_1 =>
      RD Tryz.prog (Instr.fieldAt 129 x24_1 4) w1_1 (fun x25_1 =>
      RD Tryz.prog (Instr.loadAt 73 x25_1) w1_1 (fun x26_1 =>
      RD Tryz.prog (Instr.indexAt 73 x26_1 (s_1 1)) w1_1 (fun x28_1 =>
      RD Tryz.prog (Instr.loadAt 3 x28_1) w1_1 (fun x29_1 =>
      rec (sOf [(1, x29_1)]) w1_1) (PX R)) (PX R)) (PX R)) (PX R)) (j (sOf [(1, (s_1 1))]) w1_1))) (PX R)) (PX R)) (PX R)) (PX R)) (PX R))
      (sOf [(1, p1)]) w)
    (fun s d w1 =>
    R (.returned (s 1)) w1)
theorem sh_Pr_Heap_walk_ok {p0 p1 : Value} {w : World} {R : Ending → World → Prop} (h : sh_Pr_Heap_walk p0 p1 w R) : Calls Tryz.prog 44 #[p0, p1] w R :=
  callsEq (args := [p0, p1]) (good (fun n => match n with | 1 => [1] | _ => []) (fun n => match n with | 2001 => some [1] | _ => none) (fun _ => 0) (fun _ => none) (fun n => match n with | 1 => [] | _ => []) (fun n => match n with | 2001 => [] | _ => []) (fun n => match n with | 2001 => true | _ => false) (fun n => match n with | 21 => true | 22 => true | _ => false)) Tryz.func44 rfl (by kernel_rfl) (by kernel_rfl) (Nat.le_of_ble_eq_true (by kernel_rfl)) [] (by kernel_rfl) h
def sh_Pr_Heap_fresh (p0 p1 : Value) (w : World) (R : Ending → World → Prop) : Prop :=
  LoopW (fun rec s d w1 =>
    RD Tryz.prog (bo .lss 3 (.tmp 8) (.tmp 9) (s 6) p1) w1 (fun x10 =>
    BS x10 (CA Tryz.prog 42 #[p0, (.int .u8 118), (.string (bs [])), (.int .i64 0), (.slice none 0 0)] w1 (fun x14 w1_1 =>
    WR Tryz.prog (Instr.buildSlice 73 1 #[(0, x14)]) w1_1 (fun x17 w1_2 =>
    WR Tryz.prog (Builtin.append_ #[73, 73] 73 #[(s 5), x17]) w1_2 (fun x18 w1_3 =>
    RD Tryz.prog (bo .add 3 (.tmp 11) (.const (.int .i64 1)) (s 6) (.int .i64 1)) w1_3 (fun x12 =>
    rec (sOf [(5, x18), (6, x12)]) w1_3) (PX R)) (PX R)) (PX R)) (PC R)) (R (.returned (s 5)) w1)) (PX R))
    (sOf [(5, (.slice none 0 0)), (6, (.int .i64 0))]) w
theorem sh_Pr_Heap_fresh_ok {p0 p1 : Value} {w : World} {R : Ending → World → Prop} (h : sh_Pr_Heap_fresh p0 p1 w R) : Calls Tryz.prog 25 #[p0, p1] w R :=
  callsEq (args := [p0, p1]) (good (fun n => match n with | 3 => [5, 6] | _ => []) (fun _ => none) (fun _ => 0) (fun _ => none) (fun n => match n with | 3 => [] | _ => []) (fun _ => []) (fun _ => false) (fun n => match n with | 10 => true | _ => false)) Tryz.func25 rfl (by kernel_rfl) (by kernel_rfl) (Nat.le_of_ble_eq_true (by kernel_rfl)) [] (by kernel_rfl) h
def sh_Pr_Heap_made (p0 p1 p2 : Value) (w : World) (R : Ending → World → Prop) : Prop :=
  WR Tryz.prog (Instr.box 69 p1) w (fun x4 w1 =>
  RD Tryz.prog (Instr.fieldAt 69 x4 0) w1 (fun x10 =>
  RD Tryz.prog (Instr.loadAt 5 x10) w1 (fun x11 =>
  RD Tryz.prog (bo .eql 5 (.tmp 11) (.const (.int .u8 118)) x11 (.int .u8 118)) w1 (fun x12 =>
  BS x12 (RD Tryz.prog (Instr.fieldAt 69 x4 3) w1 (fun x14 =>
  RD Tryz.prog (Instr.loadAt 3 x14) w1 (fun x15 =>
  RD Tryz.prog (Instr.indexAt 73 p2 x15) w1 (fun x16 =>
  RD Tryz.prog (Instr.loadAt 3 x16) w1 (fun x17 =>
  R (.returned x17) w1) (PX R)) (PX R)) (PX R)) (PX R)) (LoopW (fun rec s d w1_1 =>
    RD Tryz.prog (Instr.fieldAt 69 x4 4) w1_1 (fun x19 =>
    RD Tryz.prog (Instr.loadAt 34 x19) w1_1 (fun x20 =>
    RD Tryz.prog (Builtin.len_ #[34] 3 #[x20]) w1_1 (fun x21 =>
    RD Tryz.prog (bo .lss 3 (.tmp 18) (.tmp 21) (s 8) x21) w1_1 (fun x22 =>
    BS x22 (RD Tryz.prog (Instr.fieldAt 69 x4 4) w1_1 (fun x26 =>
    RD Tryz.prog (Instr.loadAt 34 x26) w1_1 (fun x27 =>
    RD Tryz.prog (Instr.indexAt 34 x27 (s 8)) w1_1 (fun x29 =>
    RD Tryz.prog (Instr.loadAt 69 x29) w1_1 (fun x30 =>
    CA Tryz.prog 26 #[p0, x30, p2] w1_1 (fun x32 w1_2 =>
    WR Tryz.prog (Instr.buildSlice 73 1 #[(0, x32)]) w1_2 (fun x35 w1_3 =>
    WR Tryz.prog (Builtin.append_ #[73, 73] 73 #[(s 7), x35]) w1_3 (fun x36 w1_4 =>
    RD Tryz.prog (bo .add 3 (.tmp 23) (.const (.int .i64 1)) (s 8) (.int .i64 1)) w1_4 (fun x24 =>
    rec (sOf [(7, x36), (8, x24)]) w1_4) (PX R)) (PX R)) (PX R)) (PC R)) (PX R)) (PX R)) (PX R)) (PX R)) (RD Tryz.prog (Instr.fieldAt 69 x4 0) w1_1 (fun x38 =>
  RD Tryz.prog (Instr.loadAt 5 x38) w1_1 (fun x39 =>
  RD Tryz.prog (Instr.fieldAt 69 x4 1) w1_1 (fun x40 =>
  RD Tryz.prog (Instr.loadAt 9 x40) w1_1 (fun x41 =>
  RD Tryz.prog (Instr.fieldAt 69 x4 2) w1_1 (fun x42 =>
  RD Tryz.prog (Instr.loadAt 2 x42) w1_1 (fun x43 =>
  CA Tryz.prog 42 #[p0, x39, x41, x43, (s 7)] w1_1 (fun x45 w1_5 =>
  R (.returned x45) w1_5) (PC R)) (PX R)) (PX R)) (PX R)) (PX R)) (PX R)) (PX R))) (PX R)) (PX R)) (PX R)) (PX R))
    (sOf [(7, (.slice none 0 0)), (8, (.int .i64 0))]) w1)) (PX R)) (PX R)) (PX R)) (PX R)
theorem sh_Pr_Heap_made_ok {p0 p1 p2 : Value} {w : World} {R : Ending → World → Prop} (h : sh_Pr_Heap_made p0 p1 p2 w R) : Calls Tryz.prog 26 #[p0, p1, p2] w R :=
  callsEq (args := [p0, p1, p2]) (good (fun n => match n with | 5 => [7, 8] | _ => []) (fun _ => none) (fun _ => 0) (fun _ => none) (fun n => match n with | 5 => [] | _ => []) (fun _ => []) (fun _ => false) (fun n => match n with | 12 => true | 22 => true | _ => false)) Tryz.func26 rfl (by kernel_rfl) (by kernel_rfl) (Nat.le_of_ble_eq_true (by kernel_rfl)) [] (by kernel_rfl) h
def sh_r_decimal (p0 : Value) (w : World) (R : Ending → World → Prop) : Prop :=
  RD Tryz.prog (bo .lss 2 (.tmp 6) (.const (.int .i64 0)) p0 (.int .i64 0)) w (fun x7 =>
  BS x7 (RD Tryz.prog (Op.unary .neg p0) w (fun x10 =>
  RD Tryz.prog (bo .eql 2 (.tmp 8) (.tmp 10) p0 x10) w (fun x11 =>
  BS x11 (R (.returned (.string (bs [45, 57, 50, 50, 51, 51, 55, 50, 48, 51, 54, 56, 53, 52, 55, 55, 53, 56, 48, 56]))) w) (RD Tryz.prog (Op.unary .neg p0) w (fun x13 =>
  CA Tryz.prog 45 #[x13] w (fun x14 w1 =>
  RD Tryz.prog (bo .add 9 (.const (.string (bs [45]))) (.tmp 15) (.string (bs [45])) x14) w1 (fun x16 =>
  R (.returned x16) w1) (PX R)) (PC R)) (PX R))) (PX R)) (PX R)) (RD Tryz.prog (bo .rem 2 (.tmp 17) (.const (.int .i64 10)) p0 (.int .i64 10)) w (fun x18 =>
  RD Tryz.prog (bo .rem 2 (.tmp 19) (.const (.int .i64 10)) p0 (.int .i64 10)) w (fun x20 =>
  RD Tryz.prog (bo .add 2 (.tmp 20) (.const (.int .i64 1)) x20 (.int .i64 1)) w (fun x21 =>
  RD Tryz.prog (Instr.sliceAt 9 (.string (bs [48, 49, 50, 51, 52, 53, 54, 55, 56, 57])) (some x18) (some x21) none) w (fun x22 =>
  RD Tryz.prog (bo .lss 2 (.tmp 23) (.const (.int .i64 10)) p0 (.int .i64 10)) w (fun x24 =>
  BS x24 (R (.returned x22) w) (RD Tryz.prog (bo .quo 2 (.tmp 26) (.const (.int .i64 10)) p0 (.int .i64 10)) w (fun x27 =>
  CA Tryz.prog 45 #[x27] w (fun x28 w1_1 =>
  RD Tryz.prog (bo .add 9 (.tmp 29) (.tmp 30) x28 x22) w1_1 (fun x31 =>
  R (.returned x31) w1_1) (PX R)) (PC R)) (PX R))) (PX R)) (PX R)) (PX R)) (PX R)) (PX R))) (PX R)
theorem sh_r_decimal_ok {p0 : Value} {w : World} {R : Ending → World → Prop} (h : sh_r_decimal p0 w R) : Calls Tryz.prog 45 #[p0] w R :=
  callsEq (args := [p0]) (good (fun _ => []) (fun _ => none) (fun _ => 0) (fun _ => none) (fun _ => []) (fun _ => []) (fun _ => false) (fun n => match n with | 7 => true | 11 => true | 24 => true | _ => false)) Tryz.func45 rfl (by kernel_rfl) (by kernel_rfl) (Nat.le_of_ble_eq_true (by kernel_rfl)) [] (by kernel_rfl) h
def sh_Pr_writer_power (p0 p1 : Value) (w : World) (R : Ending → World → Prop) : Prop :=
  JS (fun j =>
    JS (fun j_1 =>
      NC p0 fun x6 =>
      RD Tryz.prog (Instr.fieldAt 78 x6 0) w (fun x7 =>
      RD Tryz.prog (Instr.loadAt 71 x7) w (fun x8 =>
      NC x8 fun x9 =>
      RD Tryz.prog (Instr.fieldAt 129 x9 0) w (fun x10 =>
      RD Tryz.prog (Instr.loadAt 116 x10) w (fun x11 =>
      RD Tryz.prog (Instr.indexAt 116 x11 p1) w (fun x13 =>
      RD Tryz.prog (Instr.loadAt 5 x13) w (fun x14 =>
      RD Tryz.prog (bo .neq 5 (.tmp 14) (.const (.int .u8 99)) x14 (.int .u8 99)) w (fun x15 => BS x15 (
      j_1 (sOf [(29, (.bool true))]) w) (
      NC p0 fun x18 =>
      RD Tryz.prog (Instr.fieldAt 78 x18 0) w (fun x19 =>
      RD Tryz.prog (Instr.loadAt 71 x19) w (fun x20 =>
      NC x20 fun x21 =>
      RD Tryz.prog (Instr.fieldAt 129 x21 3) w (fun x22 =>
      RD Tryz.prog (Instr.loadAt 127 x22) w (fun x23 =>
      RD Tryz.prog (Instr.indexAt 127 x23 p1) w (fun x25 =>
      RD Tryz.prog (Instr.loadAt 73 x25) w (fun x26 =>
      RD Tryz.prog (Builtin.len_ #[73] 3 #[x26]) w (fun x27 =>
      RD Tryz.prog (bo .neq 3 (.tmp 27) (.const (.int .i64 2)) x27 (.int .i64 2)) w (fun x28 =>
      j_1 (sOf [(29, x28)]) w) (PX R)) (PX R)) (PX R)) (PX R)) (PX R)) (PX R)) (PX R)) (PX R))) (PX R)) (PX R)) (PX R)) (PX R)) (PX R)) (PX R)) (PX R))
      (fun s_1 d_1 w1_1 =>
      BS (s_1 29) (R (.returned (.int .i64 0)) w1_1) (j (sOf []) w1_1)))
    (fun s d w1 =>
    NC p0 fun x31 =>
    RD Tryz.prog (Instr.fieldAt 78 x31 0) w1 (fun x32 =>
    RD Tryz.prog (Instr.loadAt 71 x32) w1 (fun x33 =>
    NC x33 fun x34 =>
    RD Tryz.prog (Instr.fieldAt 129 x34 1) w1 (fun x35 =>
    RD Tryz.prog (Instr.loadAt 38 x35) w1 (fun x36 =>
    RD Tryz.prog (Instr.indexAt 38 x36 p1) w1 (fun x38 =>
    RD Tryz.prog (Instr.loadAt 9 x38) w1 (fun x39 =>
    JS (fun j_2 =>
      RD Tryz.prog (bo .eql 9 (.tmp 39) (.const (.string (bs [43]))) x39 (.string (bs [43]))) w1 (fun x41 =>
      BS x41 (j_2 (sOf [(40, x41)]) w1) (RD Tryz.prog (bo .eql 9 (.tmp 39) (.const (.string (bs [45]))) x39 (.string (bs [45]))) w1 (fun x42 =>
      j_2 (sOf [(40, x42)]) w1) (PX R))) (PX R))
      (fun s_2 d_2 w1_2 =>
      BS (s_2 40) (R (.returned (.int .i64 1)) w1_2) (JS (fun j_3 =>
        RD Tryz.prog (bo .eql 9 (.tmp 39) (.const (.string (bs [42]))) x39 (.string (bs [42]))) w1_2 (fun x44 =>
        BS x44 (j_3 (sOf [(43, x44)]) w1_2) (RD Tryz.prog (bo .eql 9 (.tmp 39) (.const (.string (bs [47, 47]))) x39 (.string (bs [47, 47]))) w1_2 (fun x45 =>
        BS x45 (j_3 (sOf [(43, x45)]) w1_2) (RD Tryz.prog (bo .eql 9 (.tmp 39) (.const (.string (bs [109, 111, 100]))) x39 (.string (bs [109, 111, 100]))) w1_2 (fun x46 =>
        j_3 (sOf [(43, x46)]) w1_2) (PX R))) (PX R))) (PX R))
        (fun s_3 d_3 w1_3 =>
        BS (s_3 43) (R (.returned (.int .i64 2)) w1_3) (R (.returned (.int .i64 0)) w1_3))))) (PX R)) (PX R)) (PX R)) (PX R)) (PX R)) (PX R))
theorem sh_Pr_writer_power_ok {p0 p1 : Value} {w : World} {R : Ending → World → Prop} (h : sh_Pr_writer_power p0 p1 w R) : Calls Tryz.prog 46 #[p0, p1] w R :=
  callsEq (args := [p0, p1]) (good (fun _ => []) (fun n => match n with | 1000 => some [29] | 2001 => some [] | 5001 => some [40] | 9002 => some [43] | _ => none) (fun _ => 0) (fun _ => none) (fun _ => []) (fun n => match n with | 1000 => [] | 2001 => [] | 5001 => [] | 9002 => [] | _ => []) (fun n => match n with | 1000 => true | 2001 => true | 5001 => true | 9002 => true | _ => false) (fun n => match n with | 28 => true | 29 => true | 40 => true | 41 => true | 42 => true | 43 => true | 44 => true | 45 => true | 46 => true | _ => false)) Tryz.func46 rfl (by kernel_rfl) (by kernel_rfl) (Nat.le_of_ble_eq_true (by kernel_rfl)) [] (by kernel_rfl) h
def sh_Pr_writer_text (p0 p1 p2 : Value) (w : World) (R : Ending → World → Prop) : Prop :=
  NC p0 fun x20 =>
  RD Tryz.prog (Instr.fieldAt 78 x20 0) w (fun x21 =>
  RD Tryz.prog (Instr.loadAt 71 x21) w (fun x22 =>
  NC x22 fun x23 =>
  RD Tryz.prog (Instr.fieldAt 129 x23 6) w (fun x24 =>
  RD Tryz.prog (Instr.loadAt 3 x24) w (fun x25 =>
  RD Tryz.prog (bo .add 3 (.tmp 25) (.const (.int .i64 1)) x25 (.int .i64 1)) w (fun x26 =>
  NC x22 fun x27 =>
  RD Tryz.prog (Instr.fieldAt 129 x27 6) w (fun x28 =>
  WU Tryz.prog (Instr.storeAt 3 x28 x26) w (fun w1 =>
  NC p0 fun x30 =>
  RD Tryz.prog (Instr.fieldAt 78 x30 0) w1 (fun x31 =>
  RD Tryz.prog (Instr.loadAt 71 x31) w1 (fun x32 =>
  CA Tryz.prog 43 #[x32] w1 (fun x33 w1_1 =>
  BS x33 (R (.returned (.string (bs []))) w1_1) (NC p0 fun x36 =>
  RD Tryz.prog (Instr.fieldAt 78 x36 0) w1_1 (fun x37 =>
  RD Tryz.prog (Instr.loadAt 71 x37) w1_1 (fun x38 =>
  CA Tryz.prog 44 #[x38, p1] w1_1 (fun x40 w1_2 =>
  NC p0 fun x42 =>
  RD Tryz.prog (Instr.fieldAt 78 x42 0) w1_2 (fun x43 =>
  RD Tryz.prog (Instr.loadAt 71 x43) w1_2 (fun x44 =>
  NC x44 fun x45 =>
  RD Tryz.prog (Instr.fieldAt 129 x45 0) w1_2 (fun x46 =>
  RD Tryz.prog (Instr.loadAt 116 x46) w1_2 (fun x47 =>
  RD Tryz.prog (Instr.indexAt 116 x47 x40) w1_2 (fun x49 =>
  RD Tryz.prog (Instr.loadAt 5 x49) w1_2 (fun x50 =>
  RD Tryz.prog (bo .eql 5 (.tmp 50) (.const (.int .u8 97)) x50 (.int .u8 97)) w1_2 (fun x52 =>
  BS x52 (NC p0 fun x54 =>
  RD Tryz.prog (Instr.fieldAt 78 x54 0) w1_2 (fun x55 =>
  RD Tryz.prog (Instr.loadAt 71 x55) w1_2 (fun x56 =>
  NC x56 fun x57 =>
  RD Tryz.prog (Instr.fieldAt 129 x57 1) w1_2 (fun x58 =>
  RD Tryz.prog (Instr.loadAt 38 x58) w1_2 (fun x59 =>
  RD Tryz.prog (Instr.indexAt 38 x59 x40) w1_2 (fun x61 =>
  RD Tryz.prog (Instr.loadAt 9 x61) w1_2 (fun x62 =>
  R (.returned x62) w1_2) (PX R)) (PX R)) (PX R)) (PX R)) (PX R)) (PX R)) (RD Tryz.prog (bo .eql 5 (.tmp 50) (.const (.int .u8 110)) x50 (.int .u8 110)) w1_2 (fun x64 =>
  BS x64 (NC p0 fun x66 =>
  RD Tryz.prog (Instr.fieldAt 78 x66 0) w1_2 (fun x67 =>
  RD Tryz.prog (Instr.loadAt 71 x67) w1_2 (fun x68 =>
  NC x68 fun x69 =>
  RD Tryz.prog (Instr.fieldAt 129 x69 2) w1_2 (fun x70 =>
  RD Tryz.prog (Instr.loadAt 126 x70) w1_2 (fun x71 =>
  RD Tryz.prog (Instr.indexAt 126 x71 x40) w1_2 (fun x73 =>
  RD Tryz.prog (Instr.loadAt 2 x73) w1_2 (fun x74 =>
  CA Tryz.prog 45 #[x74] w1_2 (fun x75 w1_3 =>
  R (.returned x75) w1_3) (PC R)) (PX R)) (PX R)) (PX R)) (PX R)) (PX R)) (PX R)) (RD Tryz.prog (bo .eql 5 (.tmp 50) (.const (.int .u8 118)) x50 (.int .u8 118)) w1_2 (fun x77 =>
  BS x77 (LoopW (fun rec s d w1_4 =>
    NC p0 fun x80 =>
    RD Tryz.prog (Instr.fieldAt 78 x80 1) w1_4 (fun x81 =>
    RD Tryz.prog (Instr.loadAt 73 x81) w1_4 (fun x82 =>
    RD Tryz.prog (Builtin.len_ #[73] 3 #[x82]) w1_4 (fun x83 =>
    RD Tryz.prog (bo .lss 3 (.tmp 78) (.tmp 83) (s 8) x83) w1_4 (fun x84 =>
    BS x84 (NC p0 fun x88 =>
    RD Tryz.prog (Instr.fieldAt 78 x88 1) w1_4 (fun x89 =>
    RD Tryz.prog (Instr.loadAt 73 x89) w1_4 (fun x90 =>
    RD Tryz.prog (Instr.indexAt 73 x90 (s 8)) w1_4 (fun x92 =>
    RD Tryz.prog (Instr.loadAt 3 x92) w1_4 (fun x93 =>
    RD Tryz.prog (bo .eql 3 (.tmp 93) (.tmp 94) x93 x40) w1_4 (fun x95 =>
    BS x95 (RD Tryz.prog (bo .add 3 (.tmp 96) (.const (.int .i64 1)) (s 8) (.int .i64 1)) w1_4 (fun x97 =>
    CA Tryz.prog 45 #[x97] w1_4 (fun x98 w1_5 =>
    RD Tryz.prog (bo .add 9 (.const (.string (bs [95]))) (.tmp 99) (.string (bs [95])) x98) w1_5 (fun x100 =>
    R (.returned x100) w1_5) (PX R)) (PC R)) (PX R)) (RD Tryz.prog (bo .add 3 (.tmp 85) (.const (.int .i64 1)) (s 8) (.int .i64 1)) w1_4 (fun x86 =>
    rec (sOf [(8, x86)]) w1_4) (PX R))) (PX R)) (PX R)) (PX R)) (PX R)) (PX R)) (NC p0 fun x103 =>
  RD Tryz.prog (Instr.fieldAt 78 x103 1) w1_4 (fun x104 =>
  RD Tryz.prog (Instr.loadAt 73 x104) w1_4 (fun x105 =>
  WR Tryz.prog (Instr.buildSlice 73 1 #[(0, x40)]) w1_4 (fun x107 w1_6 =>
  WR Tryz.prog (Builtin.append_ #[73, 73] 73 #[x105, x107]) w1_6 (fun x108 w1_7 =>
  NC p0 fun x109 =>
  RD Tryz.prog (Instr.fieldAt 78 x109 1) w1_7 (fun x110 =>
  WU Tryz.prog (Instr.storeAt 73 x110 x108) w1_7 (fun w1_8 =>
  NC p0 fun x112 =>
  RD Tryz.prog (Instr.fieldAt 78 x112 1) w1_8 (fun x113 =>
  RD Tryz.prog (Instr.loadAt 73 x113) w1_8 (fun x114 =>
  RD Tryz.prog (Builtin.len_ #[73] 3 #[x114]) w1_8 (fun x115 =>
  CA Tryz.prog 45 #[x115] w1_8 (fun x116 w1_9 =>
  RD Tryz.prog (bo .add 9 (.const (.string (bs [95]))) (.tmp 117) (.string (bs [95])) x116) w1_9 (fun x118 =>
  R (.returned x118) w1_9) (PX R)) (PC R)) (PX R)) (PX R)) (PX R)) (PX R)) (PX R)) (PX R)) (PX R)) (PX R)) (PX R))) (PX R)) (PX R)) (PX R)) (PX R))
    (sOf [(8, (.int .i64 0))]) w1_2) (CA Tryz.prog 46 #[p0, x40] w1_2 (fun x121 w1_10 =>
  NC p0 fun x123 =>
  RD Tryz.prog (Instr.fieldAt 78 x123 0) w1_10 (fun x124 =>
  RD Tryz.prog (Instr.loadAt 71 x124) w1_10 (fun x125 =>
  NC x125 fun x126 =>
  RD Tryz.prog (Instr.fieldAt 129 x126 3) w1_10 (fun x127 =>
  RD Tryz.prog (Instr.loadAt 127 x127) w1_10 (fun x128 =>
  RD Tryz.prog (Instr.indexAt 127 x128 x40) w1_10 (fun x130 =>
  RD Tryz.prog (Instr.loadAt 73 x130) w1_10 (fun x131 =>
  RD Tryz.prog (bo .gtr 3 (.tmp 132) (.const (.int .i64 0)) x121 (.int .i64 0)) w1_10 (fun x133 =>
  BS x133 (RD Tryz.prog (Instr.indexAt 73 x131 (.int .i64 0)) w1_10 (fun x136 =>
  RD Tryz.prog (Instr.loadAt 3 x136) w1_10 (fun x137 =>
  CA Tryz.prog 27 #[p0, x137, x121] w1_10 (fun x139 w1_11 =>
  RD Tryz.prog (Instr.indexAt 73 x131 (.int .i64 1)) w1_11 (fun x142 =>
  RD Tryz.prog (Instr.loadAt 3 x142) w1_11 (fun x143 =>
  RD Tryz.prog (bo .add 3 (.tmp 144) (.const (.int .i64 1)) x121 (.int .i64 1)) w1_11 (fun x145 =>
  CA Tryz.prog 27 #[p0, x143, x145] w1_11 (fun x146 w1_12 =>
  NC p0 fun x148 =>
  RD Tryz.prog (Instr.fieldAt 78 x148 0) w1_12 (fun x149 =>
  RD Tryz.prog (Instr.loadAt 71 x149) w1_12 (fun x150 =>
  NC x150 fun x151 =>
  RD Tryz.prog (Instr.fieldAt 129 x151 1) w1_12 (fun x152 =>
  RD Tryz.prog (Instr.loadAt 38 x152) w1_12 (fun x153 =>
  RD Tryz.prog (Instr.indexAt 38 x153 x40) w1_12 (fun x155 =>
  RD Tryz.prog (Instr.loadAt 9 x155) w1_12 (fun x156 =>
  JS (fun j =>
    RD Tryz.prog (bo .eql 9 (.tmp 157) (.const (.string (bs [109, 111, 100]))) x156 (.string (bs [109, 111, 100]))) w1_12 (fun x158 =>
    BS x158 (j (sOf [(15, (.string (bs [32, 109, 111, 100, 32])))]) w1_12) (j (sOf [(15, x156)]) w1_12)) (PX R))
    (fun s_1 d_1 w1_13 =>
    RD Tryz.prog (bo .lss 3 (.tmp 159) (.tmp 160) x121 p2) w1_13 (fun x161 =>
    BS x161 (RD Tryz.prog (bo .add 9 (.const (.string (bs [40]))) (.tmp 162) (.string (bs [40])) x139) w1_13 (fun x163 =>
    RD Tryz.prog (bo .add 9 (.tmp 163) (.tmp 164) x163 (s_1 15)) w1_13 (fun x165 =>
    RD Tryz.prog (bo .add 9 (.tmp 165) (.tmp 166) x165 x146) w1_13 (fun x167 =>
    RD Tryz.prog (bo .add 9 (.tmp 167) (.const (.string (bs [41]))) x167 (.string (bs [41]))) w1_13 (fun x168 =>
    R (.returned x168) w1_13) (PX R)) (PX R)) (PX R)) (PX R)) (RD Tryz.prog (bo .add 9 (.tmp 169) (.tmp 170) x139 (s_1 15)) w1_13 (fun x171 =>
    RD Tryz.prog (bo .add 9 (.tmp 171) (.tmp 172) x171 x146) w1_13 (fun x173 =>
    R (.returned x173) w1_13) (PX R)) (PX R))) (PX R))) (PX R)) (PX R)) (PX R)) (PX R)) (PX R)) (PX R)) (PC R)) (PX R)) (PX R)) (PX R)) (PC R)) (PX R)) (PX R)) (JS (fun j_1 =>
    JS (fun j_2 =>
      NC p0 fun x175 =>
      RD Tryz.prog (Instr.fieldAt 78 x175 0) w1_10 (fun x176 =>
      RD Tryz.prog (Instr.loadAt 71 x176) w1_10 (fun x177 =>
      NC x177 fun x178 =>
      RD Tryz.prog (Instr.fieldAt 129 x178 1) w1_10 (fun x179 =>
      RD Tryz.prog (Instr.loadAt 38 x179) w1_10 (fun x180 =>
      RD Tryz.prog (Instr.indexAt 38 x180 x40) w1_10 (fun x182 =>
      RD Tryz.prog (Instr.loadAt 9 x182) w1_10 (fun x183 =>
      RD Tryz.prog (bo .eql 9 (.tmp 183) (.const (.string (bs [46]))) x183 (.string (bs [46]))) w1_10 (fun x184 => BS x184 (
      RD Tryz.prog (Builtin.len_ #[73] 3 #[x131]) w1_10 (fun x187 =>
      RD Tryz.prog (bo .eql 3 (.tmp 187) (.const (.int .i64 2)) x187 (.int .i64 2)) w1_10 (fun x188 =>
      j_2 (sOf [(189, x188)]) w1_10) (PX R)) (PX R)) (
      j_2 (sOf [(189, (.bool false))]) w1_10)) (PX R)) (PX R)) (PX R)) (PX R)) (PX R)) (PX R)) (PX R))
      (fun s_3 d_3 w1_15 =>
      BS (s_3 189) (CA Tryz.prog 47 #[p0, x40] w1_15 (fun x192 w1_16 =>
      R (.returned x192) w1_16) (PC R)) (j_1 (sOf []) w1_15)))
    (fun s_2 d_2 w1_14 =>
    NC p0 fun x194 =>
    RD Tryz.prog (Instr.fieldAt 78 x194 0) w1_14 (fun x195 =>
    RD Tryz.prog (Instr.loadAt 71 x195) w1_14 (fun x196 =>
    NC x196 fun x197 =>
    RD Tryz.prog (Instr.fieldAt 129 x197 1) w1_14 (fun x198 =>
    RD Tryz.prog (Instr.loadAt 38 x198) w1_14 (fun x199 =>
    RD Tryz.prog (Instr.indexAt 38 x199 x40) w1_14 (fun x201 =>
    RD Tryz.prog (Instr.loadAt 9 x201) w1_14 (fun x202 =>
    RD Tryz.prog (bo .add 9 (.tmp 202) (.const (.string (bs [40]))) x202 (.string (bs [40]))) w1_14 (fun x203 =>
    LoopW (fun rec_1 s_4 d_4 w1_17 =>
      RD Tryz.prog (Builtin.len_ #[73] 3 #[x131]) w1_17 (fun x206 =>
      RD Tryz.prog (bo .lss 3 (.tmp 204) (.tmp 206) (s_4 17) x206) w1_17 (fun x207 =>
      BS x207 (JS (fun j_3 =>
        RD Tryz.prog (Instr.indexAt 73 x131 (s_4 17)) w1_17 (fun x213 =>
        RD Tryz.prog (Instr.loadAt 3 x213) w1_17 (fun x214 =>
        CA Tryz.prog 27 #[p0, x214, (.int .i64 0)] w1_17 (fun x215 w1_19 =>
        JS (fun j_4 =>
          RD Tryz.prog (bo .gtr 3 (.tmp 216) (.const (.int .i64 0)) (s_4 17) (.int .i64 0)) w1_19 (fun x217 =>
          BS x217 (RD Tryz.prog (bo .add 9 (.tmp 218) (.const (.string (bs [44]))) (s_4 16) (.string (bs [44]))) w1_19 (fun x219 =>
          j_4 (sOf [(16, x219)]) w1_19) (PX R)) (j_4 (sOf [(16, (s_4 16))]) w1_19)) (PX R))
          (fun s_6 d_6 w1_20 =>
          RD Tryz.prog (bo .add 9 (.tmp 220) (.tmp 221) (s_6 16) x215) w1_20 (fun x222 =>
          j_3 (sOf [(16, x222)]) w1_20) (PX R))) (PC R)) (PX R)) (PX R))
        (fun s_5 d_5 w1_18 =>
        RD Tryz.prog (bo .add 3 (.tmp 208) (.const (.int .i64 1)) (s_4 17) (.int .i64 1)) w1_18 (fun x209 =>
        rec_1 (sOf [(16, (s_5 16)), (17, x209)]) w1_18) (PX R))) (RD Tryz.prog (bo .add 9 (.tmp 223) (.const (.string (bs [41]))) (s_4 16) (.string (bs [41]))) w1_17 (fun x224 =>
    R (.returned x224) w1_17) (PX R))) (PX R)) (PX R))
      (sOf [(16, x203), (17, (.int .i64 0))]) w1_14) (PX R)) (PX R)) (PX R)) (PX R)) (PX R)) (PX R)) (PX R)))) (PX R)) (PX R)) (PX R)) (PX R)) (PX R)) (PX R)) (PX R)) (PC R))) (PX R))) (PX R))) (PX R)) (PX R)) (PX R)) (PX R)) (PX R)) (PX R)) (PX R)) (PC R)) (PX R)) (PX R))) (PC R)) (PX R)) (PX R)) (PX R)) (PX R)) (PX R)) (PX R)) (PX R)) (PX R)) (PX R)
theorem sh_Pr_writer_text_ok {p0 p1 p2 : Value} {w : World} {R : Ending → World → Prop} (h : sh_Pr_writer_text p0 p1 p2 w R) : Calls Tryz.prog 27 #[p0, p1, p2] w R :=
  callsEq (args := [p0, p1, p2]) (good (fun n => match n with | 13 => [8] | 36 => [16, 17] | _ => []) (fun n => match n with | 28001 => some [15] | 32000 => some [189] | 33001 => some [] | 40001 => some [16] | 41003 => some [16] | _ => none) (fun _ => 0) (fun _ => none) (fun n => match n with | 13 => [] | 36 => [] | _ => []) (fun n => match n with | 28001 => [] | 32000 => [] | 33001 => [] | 40001 => [] | 41003 => [] | _ => []) (fun n => match n with | 28001 => true | 32000 => true | 33001 => true | 40001 => true | 41003 => true | _ => false) (fun n => match n with | 7 => true | 33 => true | 34 => true | 51 => true | 52 => true | 63 => true | 64 => true | 76 => true | 77 => true | 84 => true | 95 => true | 133 => true | 158 => true | 161 => true | 188 => true | 189 => true | 207 => true | 217 => true | _ => false)) Tryz.func27 rfl (by kernel_rfl) (by kernel_rfl) (Nat.le_of_ble_eq_true (by kernel_rfl)) [] (by kernel_rfl) h
def sh_Pr_writer_list (p0 p1 : Value) (w : World) (R : Ending → World → Prop) : Prop :=
  LoopW (fun rec s d w1 =>
    NC p0 fun x12 =>
    RD Tryz.prog (Instr.fieldAt 78 x12 0) w1 (fun x13 =>
    RD Tryz.prog (Instr.loadAt 71 x13) w1 (fun x14 =>
    NC x14 fun x15 =>
    RD Tryz.prog (Instr.fieldAt 129 x15 3) w1 (fun x16 =>
    RD Tryz.prog (Instr.loadAt 127 x16) w1 (fun x17 =>
    RD Tryz.prog (Instr.indexAt 127 x17 (s 1)) w1 (fun x19 =>
    RD Tryz.prog (Instr.loadAt 73 x19) w1 (fun x20 =>
    RD Tryz.prog (Instr.indexAt 73 x20 (.int .i64 0)) w1 (fun x23 =>
    RD Tryz.prog (Instr.loadAt 3 x23) w1 (fun x24 =>
    CA Tryz.prog 27 #[p0, x24, (.int .i64 0)] w1 (fun x25 w1_1 =>
    RD Tryz.prog (bo .add 9 (.tmp 26) (.tmp 27) (s 5) x25) w1_1 (fun x28 =>
    NC p0 fun x30 =>
    RD Tryz.prog (Instr.fieldAt 78 x30 0) w1_1.drew (fun x31 =>
    RD Tryz.prog (Instr.loadAt 71 x31) w1_1.drew (fun x32 =>
    RD Tryz.prog (Instr.indexAt 73 x20 (.int .i64 1)) w1_1.drew (fun x34 =>
    RD Tryz.prog (Instr.loadAt 3 x34) w1_1.drew (fun x35 =>
    CA Tryz.prog 44 #[x32, x35] w1_1.drew (fun x36 w1_2 =>
    NC p0 fun x38 =>
    RD Tryz.prog (Instr.fieldAt 78 x38 0) w1_2 (fun x39 =>
    RD Tryz.prog (Instr.loadAt 71 x39) w1_2 (fun x40 =>
    CA Tryz.prog 43 #[x40] w1_2 (fun x41 w1_3 =>
    BS x41 (R (.returned x28) w1_3) (JS (fun j =>
      JS (fun j_1 =>
        NC p0 fun x45 =>
        RD Tryz.prog (Instr.fieldAt 78 x45 0) w1_3 (fun x46 =>
        RD Tryz.prog (Instr.loadAt 71 x46) w1_3 (fun x47 =>
        NC x47 fun x48 =>
        RD Tryz.prog (Instr.fieldAt 129 x48 0) w1_3 (fun x49 =>
        RD Tryz.prog (Instr.loadAt 116 x49) w1_3 (fun x50 =>
        RD Tryz.prog (Instr.indexAt 116 x50 x36) w1_3 (fun x52 =>
        RD Tryz.prog (Instr.loadAt 5 x52) w1_3 (fun x53 =>
        RD Tryz.prog (bo .eql 5 (.tmp 53) (.const (.int .u8 97)) x53 (.int .u8 97)) w1_3 (fun x54 => BS x54 (
        NC p0 fun x57 =>
        RD Tryz.prog (Instr.fieldAt 78 x57 0) w1_3 (fun x58 =>
        RD Tryz.prog (Instr.loadAt 71 x58) w1_3 (fun x59 =>
        NC x59 fun x60 =>
        RD Tryz.prog (Instr.fieldAt 129 x60 1) w1_3 (fun x61 =>
        RD Tryz.prog (Instr.loadAt 38 x61) w1_3 (fun x62 =>
        RD Tryz.prog (Instr.indexAt 38 x62 x36) w1_3 (fun x64 =>
        RD Tryz.prog (Instr.loadAt 9 x64) w1_3 (fun x65 =>
        RD Tryz.prog (bo .eql 9 (.tmp 65) (.const (.string (bs [91, 93]))) x65 (.string (bs [91, 93]))) w1_3 (fun x66 =>
        j_1 (sOf [(67, x66)]) w1_3) (PX R)) (PX R)) (PX R)) (PX R)) (PX R)) (PX R)) (PX R)) (
        j_1 (sOf [(67, (.bool false))]) w1_3)) (PX R)) (PX R)) (PX R)) (PX R)) (PX R)) (PX R)) (PX R))
        (fun s_2 d_2 w1_5 =>
        BS (s_2 67) (RD Tryz.prog (bo .add 9 (.tmp 68) (.const (.string (bs [93]))) x28 (.string (bs [93]))) w1_5 (fun x69 =>
        R (.returned x69) w1_5) (PX R)) (j (sOf []) w1_5)))
      (fun s_1 d_1 w1_4 =>
      JS (fun j_2 =>
        JS (fun j_3 =>
          NC p0 fun x71 =>
          RD Tryz.prog (Instr.fieldAt 78 x71 0) w1_4 (fun x72 =>
          RD Tryz.prog (Instr.loadAt 71 x72) w1_4 (fun x73 =>
          NC x73 fun x74 =>
          RD Tryz.prog (Instr.fieldAt 129 x74 0) w1_4 (fun x75 =>
          RD Tryz.prog (Instr.loadAt 116 x75) w1_4 (fun x76 =>
          RD Tryz.prog (Instr.indexAt 116 x76 x36) w1_4 (fun x78 =>
          RD Tryz.prog (Instr.loadAt 5 x78) w1_4 (fun x79 =>
          RD Tryz.prog (bo .neq 5 (.tmp 79) (.const (.int .u8 99)) x79 (.int .u8 99)) w1_4 (fun x80 => BS x80 (
          j_3 (sOf [(107, (.bool true))]) w1_4) (
          NC p0 fun x83 =>
          RD Tryz.prog (Instr.fieldAt 78 x83 0) w1_4 (fun x84 =>
          RD Tryz.prog (Instr.loadAt 71 x84) w1_4 (fun x85 =>
          NC x85 fun x86 =>
          RD Tryz.prog (Instr.fieldAt 129 x86 1) w1_4 (fun x87 =>
          RD Tryz.prog (Instr.loadAt 38 x87) w1_4 (fun x88 =>
          RD Tryz.prog (Instr.indexAt 38 x88 x36) w1_4 (fun x90 =>
          RD Tryz.prog (Instr.loadAt 9 x90) w1_4 (fun x91 =>
          RD Tryz.prog (bo .neq 9 (.tmp 91) (.const (.string (bs [46]))) x91 (.string (bs [46]))) w1_4 (fun x92 => BS x92 (
          j_3 (sOf [(107, (.bool true))]) w1_4) (
          NC p0 fun x96 =>
          RD Tryz.prog (Instr.fieldAt 78 x96 0) w1_4 (fun x97 =>
          RD Tryz.prog (Instr.loadAt 71 x97) w1_4 (fun x98 =>
          NC x98 fun x99 =>
          RD Tryz.prog (Instr.fieldAt 129 x99 3) w1_4 (fun x100 =>
          RD Tryz.prog (Instr.loadAt 127 x100) w1_4 (fun x101 =>
          RD Tryz.prog (Instr.indexAt 127 x101 x36) w1_4 (fun x103 =>
          RD Tryz.prog (Instr.loadAt 73 x103) w1_4 (fun x104 =>
          RD Tryz.prog (Builtin.len_ #[73] 3 #[x104]) w1_4 (fun x105 =>
          RD Tryz.prog (bo .neq 3 (.tmp 105) (.const (.int .i64 2)) x105 (.int .i64 2)) w1_4 (fun x106 =>
          j_3 (sOf [(107, x106)]) w1_4) (PX R)) (PX R)) (PX R)) (PX R)) (PX R)) (PX R)) (PX R)) (PX R))) (PX R)) (PX R)) (PX R)) (PX R)) (PX R)) (PX R)) (PX R))) (PX R)) (PX R)) (PX R)) (PX R)) (PX R)) (PX R)) (PX R))
          (fun s_4 d_4 w1_7 =>
          BS (s_4 107) (CA Tryz.prog 27 #[p0, x36, (.int .i64 0)] w1_7 (fun x110 w1_8 =>
          RD Tryz.prog (bo .add 9 (.tmp 111) (.const (.string (bs [124]))) x28 (.string (bs [124]))) w1_8 (fun x112 =>
          RD Tryz.prog (bo .add 9 (.tmp 112) (.tmp 113) x112 x110) w1_8 (fun x114 =>
          RD Tryz.prog (bo .add 9 (.tmp 114) (.const (.string (bs [93]))) x114 (.string (bs [93]))) w1_8 (fun x115 =>
          R (.returned x115) w1_8) (PX R)) (PX R)) (PX R)) (PC R)) (j_2 (sOf []) w1_7)))
        (fun s_3 d_3 w1_6 =>
        RD Tryz.prog (bo .add 9 (.tmp 116) (.const (.string (bs [44]))) x28 (.string (bs [44]))) w1_6 (fun x117 =>
        rec (sOf [(1, x36), (5, x117)]) w1_6) (PX R))))) (PC R)) (PX R)) (PX R)) (PC R)) NX) NX) NX) NX) (PX R)) (PC R)) (PX R)) (PX R)) (PX R)) (PX R)) (PX R)) (PX R)) (PX R)) (PX R))
    (sOf [(1, p1), (5, (.string (bs [91])))]) w
theorem sh_Pr_writer_list_ok {p0 p1 : Value} {w : World} {R : Ending → World → Prop} (h : sh_Pr_writer_list p0 p1 w R) : Calls Tryz.prog 47 #[p0, p1] w R :=
  callsEq (args := [p0, p1]) (good (fun n => match n with | 2 => [1, 5] | _ => []) (fun n => match n with | 9000 => some [67] | 10001 => some [] | 11000 => some [107] | 13002 => some [] | _ => none) (fun n => match n with | 5 => 7 | _ => 0) (fun _ => none) (fun n => match n with | 2 => [] | _ => []) (fun n => match n with | 9000 => [] | 10001 => [] | 11000 => [] | 13002 => [] | _ => []) (fun n => match n with | 9000 => true | 10001 => true | 11000 => true | 13002 => true | _ => false) (fun n => match n with | 9 => true | 41 => true | 42 => true | 66 => true | 67 => true | 106 => true | 107 => true | _ => false)) Tryz.func47 rfl (by kernel_rfl) (by kernel_rfl) (Nat.le_of_ble_eq_true (by kernel_rfl)) [] (by kernel_rfl) h
def sh_r_Canon (p0 : Value) (w : World) (R : Ending → World → Prop) : Prop :=
  WR Tryz.prog (Instr.box 40 p0) w (fun x1 w1 =>
  CA Tryz.prog 24 #[(.int .i64 1073741824)] w1 (fun x7 w1_1 =>
  RD Tryz.prog (Instr.fieldAt 40 x1 3) w1_1 (fun x9 =>
  RD Tryz.prog (Instr.loadAt 38 x9) w1_1 (fun x10 =>
  RD Tryz.prog (Builtin.len_ #[38] 3 #[x10]) w1_1 (fun x11 =>
  CA Tryz.prog 25 #[x7, x11] w1_1 (fun x12 w1_2 =>
  RD Tryz.prog (Instr.fieldAt 40 x1 1) w1_2 (fun x14 =>
  RD Tryz.prog (Instr.loadAt 34 x14) w1_2 (fun x15 =>
  RD Tryz.prog (Instr.indexAt 34 x15 (.int .i64 0)) w1_2 (fun x16 =>
  RD Tryz.prog (Instr.loadAt 69 x16) w1_2 (fun x17 =>
  CA Tryz.prog 26 #[x7, x17, x12] w1_2 (fun x19 w1_3 =>
  RD Tryz.prog (Instr.build 78 #[(0, x7)]) w1_3 (fun x21 =>
  WR Tryz.prog (Instr.box 78 x21) w1_3 (fun x22 w1_4 =>
  CA Tryz.prog 27 #[x22, x19, (.int .i64 0)] w1_4 (fun x25 w1_5 =>
  R (.returned x25) w1_5) (PC R)) (PX R)) (PX R)) (PC R)) (PX R)) (PX R)) (PX R)) (PX R)) (PC R)) (PX R)) (PX R)) (PX R)) (PC R)) (PX R)
theorem sh_r_Canon_ok {p0 : Value} {w : World} {R : Ending → World → Prop} (h : sh_r_Canon p0 w R) : Calls Tryz.prog 12 #[p0] w R :=
  callsEq (args := [p0]) (good (fun _ => []) (fun _ => none) (fun _ => 0) (fun _ => none) (fun _ => []) (fun _ => []) (fun _ => false) (fun _ => false)) Tryz.func12 rfl (by kernel_rfl) (by kernel_rfl) (Nat.le_of_ble_eq_true (by kernel_rfl)) [] (by kernel_rfl) h
def sh_r_Term (p0 : Value) (w : World) (R : Ending → World → Prop) : Prop :=
  WR Tryz.prog (Instr.alloc 40 true (.tuple #[])) w (fun x2 w1 =>
  CA Tryz.prog 15 #[p0] w1 (fun x11 w1_1 =>
  RD Tryz.prog (Instr.extract x11 0) w1_1 (fun x12 =>
  RD Tryz.prog (Instr.extract x11 1) w1_1 (fun x13 =>
  RD Tryz.prog (Instr.extract x11 2) w1_1 (fun x14 =>
  RD Tryz.prog (bo .eql 53 (.tmp 15) (.const (.pointer none)) x12 (.pointer none)) w1_1 (fun x16 =>
  BS x16 (RD Tryz.prog (Instr.build 40 #[]) w1_1 (fun x17 =>
  WU Tryz.prog (Instr.storeAt 40 x2 x17) w1_1 (fun w1_2 =>
  RD Tryz.prog (Instr.loadAt 40 x2) w1_2 (fun r => R (.returned (.tuple #[r, x13, x14])) w1_2) NX) (PX R)) (PX R)) (CA Tryz.prog 22 #[x12] w1_1 (fun x21 w1_3 =>
  WR Tryz.prog (Instr.alloc 69 true (.tuple #[])) w1_3 (fun x8 w1_4 =>
  WU Tryz.prog (Instr.storeAt 69 x8 x21) w1_4 (fun w1_5 =>
  CA Tryz.prog 23 #[x12] w1_5 (fun x23 w1_6 =>
  NC x12 fun x25 =>
  RD Tryz.prog (Instr.fieldAt 58 x25 4) w1_6 (fun x26 =>
  RD Tryz.prog (Instr.loadAt 29 x26) w1_6 (fun x27 =>
  RD Tryz.prog (bo .neq 29 (.tmp 27) (.const (.int .i64 0)) x27 (.int .i64 0)) w1_6 (fun x28 =>
  BS x28 (HD fun S => S w1_6.drew ∧
  RDS Tryz.prog (Instr.build 40 #[]) S (fun x29 =>
  NC x12 fun x31 =>
  RDS Tryz.prog (Instr.fieldAt 58 x31 4) S (fun x32 =>
  RDS Tryz.prog (Instr.loadAt 29 x32) S (fun x33 =>
  NC x12 fun x35 =>
  RDS Tryz.prog (Instr.fieldAt 58 x35 5) S (fun x36 =>
  RDS Tryz.prog (Instr.loadAt 3 x36) S (fun x37 =>
  WU Tryz.prog (Instr.storeAt 40 x2 x29) w1_6.drew (fun w1_7 =>
  S w1_7 ∧
  RD Tryz.prog (Instr.loadAt 40 x2) w1_7 (fun r_1 => R (.returned (.tuple #[r_1, x33, x37])) w1_7) NX) NX)))))) (HD fun S_1 => S_1 w1_6.drew ∧
  RDS Tryz.prog (Instr.loadAt 69 x8) S_1 (fun x38 =>
  NC x12 fun x41 =>
  RDS Tryz.prog (Instr.fieldAt 58 x41 2) S_1 (fun x42 =>
  RDS Tryz.prog (Instr.loadAt 38 x42) S_1 (fun x43 =>
  WR Tryz.prog (Instr.buildSlice 34 1 #[(0, x38)]) w1_6.drew (fun x39 w1_8 =>
  S_1 w1_8 ∧
  RD Tryz.prog (Instr.build 40 #[(1, x39), (3, x43)]) w1_8 (fun x44 =>
  WU Tryz.prog (Instr.storeAt 40 x2 x44) w1_8 (fun w1_9 =>
  RD Tryz.prog (Instr.loadAt 40 x2) w1_9 (fun r_2 => R (.returned (.tuple #[r_2, (.int .i64 0), (.int .i64 (-1))])) w1_9) NX) NX) NX) NX))))) (PX R)) (PX R)) (PX R)) (PC R)) (PX R)) (PX R)) (PC R))) (PX R)) (PX R)) (PX R)) (PX R)) (PC R)) (PX R)
theorem sh_r_Term_ok {p0 : Value} {w : World} {R : Ending → World → Prop} (h : sh_r_Term p0 w R) : Calls Tryz.prog 11 #[p0] w R :=
  callsEq (args := [p0]) (good (fun _ => []) (fun _ => none) (fun _ => 0) (fun n => match n with | 7 => some [0, 0, 1, 2, 3, 4, 5, 6, 7, 8, 9, 10, 11] | 8 => some [8, 0, 2, 3, 4, 5, 1, 6, 7, 8, 9] | _ => none) (fun _ => []) (fun _ => []) (fun _ => false) (fun n => match n with | 16 => true | 28 => true | _ => false)) Tryz.func11 rfl (by kernel_rfl) (by kernel_rfl) (Nat.le_of_ble_eq_true (by kernel_rfl)) [] (by kernel_rfl) h
def sh_l_read (p0 : Value) (w : World) (R : Ending → World → Prop) : Prop :=
  CA Tryz.prog 10 #[p0] w (fun x12 w1 =>
  RD Tryz.prog (Instr.extract x12 0) w1 (fun x13 =>
  RD Tryz.prog (Instr.extract x12 1) w1 (fun x14 =>
  RD Tryz.prog (Instr.extract x12 2) w1 (fun x15 =>
  CA Tryz.prog 11 #[p0] w1 (fun x18 w1_1 =>
  RD Tryz.prog (Instr.extract x18 0) w1_1 (fun x19 =>
  RD Tryz.prog (Instr.extract x18 1) w1_1 (fun x20 =>
  RD Tryz.prog (Instr.extract x18 2) w1_1 (fun x21 =>
  WR Tryz.prog (Instr.alloc 40 true (.tuple #[])) w1_1 (fun x6 w1_2 =>
  WU Tryz.prog (Instr.storeAt 40 x6 x19) w1_2 (fun w1_3 =>
  RD Tryz.prog (bo .neq 29 (.tmp 22) (.const (.int .i64 0)) x20 (.int .i64 0)) w1_3 (fun x23 =>
  BS x23 (RD Tryz.prog (bo .eql 29 (.tmp 24) (.tmp 25) x14 x20) w1_3 (fun x26 => BS x26 (
  RD Tryz.prog (bo .eql 3 (.tmp 28) (.tmp 29) x15 x21) w1_3 (fun x30 => BS x30 (
  RD Tryz.prog (bo .eql 9 (.tmp 33) (.const (.string (bs []))) x13 (.string (bs []))) w1_3 (fun x34 =>
  R (.returned x34) w1_3) (PX R)) (
  R (.returned (.bool false)) w1_3)) (PX R)) (
  R (.returned (.bool false)) w1_3)) (PX R)) (RD Tryz.prog (Instr.loadAt 40 x6) w1_3 (fun x36 =>
  CA Tryz.prog 12 #[x36] w1_3 (fun x37 w1_4 =>
  RD Tryz.prog (bo .eql 29 (.tmp 38) (.const (.int .i64 0)) x14 (.int .i64 0)) w1_4 (fun x39 => BS x39 (
  RD Tryz.prog (bo .eql 9 (.tmp 41) (.tmp 42) x13 x37) w1_4 (fun x43 =>
  R (.returned x43) w1_4) (PX R)) (
  R (.returned (.bool false)) w1_4)) (PX R)) (PC R)) (PX R))) (PX R)) (PX R)) (PX R)) (PX R)) (PX R)) (PX R)) (PC R)) (PX R)) (PX R)) (PX R)) (PC R)
theorem sh_l_read_ok {p0 : Value} {w : World} {R : Ending → World → Prop} (h : sh_l_read p0 w R) : Calls Tryz.prog 6 #[p0] w R :=
  callsEq (args := [p0]) (good (fun _ => []) (fun _ => none) (fun _ => 0) (fun _ => none) (fun _ => []) (fun _ => []) (fun _ => false) (fun n => match n with | 2 => true | 23 => true | 34 => true | 35 => true | 43 => true | 44 => true | _ => false)) Tryz.func6 rfl (by kernel_rfl) (by kernel_rfl) (Nat.le_of_ble_eq_true (by kernel_rfl)) [] (by kernel_rfl) h
def sh_l_Reads (p0 : Value) (w : World) (R : Ending → World → Prop) : Prop :=
  RD Tryz.prog (Builtin.len_ #[9] 3 #[p0]) w (fun x4 =>
  RD Tryz.prog (bo .gtr 3 (.tmp 4) (.const (.int .i64 32768)) x4 (.int .i64 32768)) w (fun x5 =>
  BS x5 (R (.returned (.bool true)) w) (CA Tryz.prog 6 #[p0] w (fun x7 w1 =>
  R (.returned x7) w1) (PC R))) (PX R)) (PX R)
theorem sh_l_Reads_ok {p0 : Value} {w : World} {R : Ending → World → Prop} (h : sh_l_Reads p0 w R) : Calls Tryz.prog 4 #[p0] w R :=
  callsEq (args := [p0]) (good (fun _ => []) (fun _ => none) (fun _ => 0) (fun _ => none) (fun _ => []) (fun _ => []) (fun _ => false) (fun n => match n with | 2 => true | 5 => true | 7 => true | _ => false)) Tryz.func4 rfl (by kernel_rfl) (by kernel_rfl) (Nat.le_of_ble_eq_true (by kernel_rfl)) [] (by kernel_rfl) h
end Go.Proofs.YtkmpelgfhjgddaaGreatDoor
namespace Go.Proofs.YtkmpelgfhjgddaaGreatDoor
open Go.RowKit
theorem IsSl.at' {F : Nat → Prop} {w : World} {et : TypeId} {v : Value} {vs : List Value} (h : IsSl F w et v vs) {j : Nat} (hj : j < vs.length) : ∃ b cs, v = .slice (some ⟨b, 0, none⟩) vs.length cs.size ∧ F b ∧ w.heap[b]? = some (.cells cs et (0, 0)) ∧ cs[j]? = vs[j]? := by
  rcases h with ⟨rfl, rfl⟩ | ⟨b, cs, rfl, g1, g2, g3, g4⟩
  · simp at hj
  · refine ⟨b, cs, rfl, g1, g2, ?_⟩
    rw [← g4, List.getElem?_take_of_lt hj, Array.getElem?_toList]
theorem IsSl.sl {F : Nat → Prop} {w : World} {et : TypeId} {v : Value} {vs : List Value} (h : IsSl F w et v vs) : ∃ a c, v = .slice a vs.length c := by
  rcases h with ⟨rfl, rfl⟩ | ⟨b, cs, rfl, g1, g2, g3, g4⟩
  · exact ⟨_, _, rfl⟩
  · exact ⟨_, _, rfl⟩
end Go.Proofs.YtkmpelgfhjgddaaGreatDoor
