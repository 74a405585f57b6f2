/- A part of one proof (ShP2, PW2); no conditions beyond what each theorem names. -/
import Derived.Test.YtkmpelgfhjgddaaGreatDoorPkRAR
set_option linter.all false
set_option linter.unusedVariables false
set_option linter.unusedSimpArgs false
namespace Go.Proofs.YtkmpelgfhjgddaaGreatDoor
open Go.Proofs.YtkmpelgfhjgddaaGreatDoor.Sx
set_option maxRecDepth 100000
set_option linter.unusedVariables false
def sh_Pt_Writer_Term (p0 p1 p2 : Value) (w : World) (R : Ending → World → Prop) : Prop :=
  NC p0 fun x13 =>
  RD Tryz.prog (Instr.fieldAt 121 x13 1) w (fun x14 =>
  RD Tryz.prog (Instr.loadAt 111 x14) w (fun x15 =>
  CA Tryz.prog 69 #[x15] w (fun x16 w1 =>
  CA Tryz.prog 70 #[p1] w1 (fun x18 w1_1 =>
  RD Tryz.prog (Instr.typeAssert x18 107 168 true) w1_1 (fun x19 =>
  RD Tryz.prog (Instr.extract x19 1) w1_1 (fun x20 =>
  RD Tryz.prog (Instr.extract x19 0) w1_1 (fun x21 =>
  BS x20 (NC p0 fun x23 =>
  RD Tryz.prog (Instr.fieldAt 121 x23 0) w1_1 (fun x24 =>
  CA Tryz.prog 71 #[x24, x21] w1_1 (fun x26 w1_2 =>
  R (.returned (.tuple #[])) w1_2) (PC R)) (PX R)) (RD Tryz.prog (Instr.typeAssert x18 107 171 true) w1_1 (fun x27 =>
  RD Tryz.prog (Instr.extract x27 1) w1_1 (fun x28 =>
  RD Tryz.prog (Instr.extract x27 0) w1_1 (fun x29 =>
  BS x28 (HD fun S => S w1_1.drew ∧
  NC p0 fun x31 =>
  RDS Tryz.prog (Instr.fieldAt 121 x31 0) S (fun x32 =>
  CA Tryz.prog 72 #[x29, (.int .i64 10)] w1_1.drew (fun x34 w1_3 =>
  S w1_3 ∧
  CA Tryz.prog 71 #[x32, x34] w1_3 (fun x35 w1_4 =>
  R (.returned (.tuple #[])) w1_4) NC0) NC0)) (RD Tryz.prog (Instr.typeAssert x18 107 105 true) w1_1 (fun x36 =>
  RD Tryz.prog (Instr.extract x36 1) w1_1 (fun x37 =>
  RD Tryz.prog (Instr.extract x36 0) w1_1 (fun x38 =>
  BS x37 (NC p0 fun x41 =>
  RD Tryz.prog (Instr.fieldAt 121 x41 2) w1_1 (fun x42 =>
  RD Tryz.prog (Instr.loadAt 119 x42) w1_1 (fun x43 =>
  RD Tryz.prog (Instr.lookup 119 x43 x38 true) w1_1 (fun x45 =>
  RD Tryz.prog (Instr.extract x45 0) w1_1 (fun x46 =>
  RD Tryz.prog (Instr.extract x45 1) w1_1 (fun x47 =>
  JS (fun j =>
    RD Tryz.prog (Op.unary .not x47) w1_1 (fun x49 =>
    BS x49 (JS (fun j_1 =>
      NC p0 fun x51 =>
      RD Tryz.prog (Instr.fieldAt 121 x51 2) w1_1 (fun x52 =>
      RD Tryz.prog (Instr.loadAt 119 x52) w1_1 (fun x53 =>
      RD Tryz.prog (bo .eql 119 (.tmp 53) (.const (.map none)) x53 (.map none)) w1_1 (fun x54 =>
      BS x54 (WR Tryz.prog (Instr.makeMap 119 none) w1_1 (fun x56 w1_7 =>
      NC p0 fun x57 =>
      RD Tryz.prog (Instr.fieldAt 121 x57 2) w1_7 (fun x58 =>
      WU Tryz.prog (Instr.storeAt 119 x58 x56) w1_7 (fun w1_8 =>
      j_1 (sOf []) w1_8) (PX R)) (PX R)) (PX R)) (j_1 (sOf []) w1_1)) (PX R)) (PX R)) (PX R))
      (fun s_1 d_1 w1_6 =>
      NC p0 fun x60 =>
      RD Tryz.prog (Instr.fieldAt 121 x60 2) w1_6 (fun x61 =>
      RD Tryz.prog (Instr.loadAt 119 x61) w1_6 (fun x62 =>
      RD Tryz.prog (Builtin.len_ #[119] 3 #[x62]) w1_6 (fun x63 =>
      RD Tryz.prog (bo .add 3 (.tmp 63) (.const (.int .i64 1)) x63 (.int .i64 1)) w1_6 (fun x64 =>
      NC p0 fun x66 =>
      RD Tryz.prog (Instr.fieldAt 121 x66 2) w1_6 (fun x67 =>
      RD Tryz.prog (Instr.loadAt 119 x67) w1_6 (fun x68 =>
      WU Tryz.prog (Instr.mapUpdate 119 x68 x38 x64) w1_6 (fun w1_9 =>
      j (sOf [(9, x64)]) w1_9) (PX R)) (PX R)) (PX R)) (PX R)) (PX R)) (PX R)) (PX R))) (j (sOf [(9, x46)]) w1_1)) (PX R))
    (fun s d w1_5 =>
    HD fun S_1 => S_1 w1_5.drew ∧
    NC p0 fun x72 =>
    RDS Tryz.prog (Instr.fieldAt 121 x72 0) S_1 (fun x73 =>
    CA Tryz.prog 73 #[(s 9)] w1_5.drew (fun x75 w1_10 =>
    S_1 w1_10 ∧
    RD Tryz.prog (bo .add 9 (.const (.string (bs [95]))) (.tmp 75) (.string (bs [95])) x75) w1_10 (fun x76 =>
    CA Tryz.prog 71 #[x73, x76] w1_10 (fun x77 w1_11 =>
    R (.returned (.tuple #[])) w1_11) NC0) NX) NC0))) (PX R)) (PX R)) (PX R)) (PX R)) (PX R)) (RD Tryz.prog (Instr.typeAssert x18 107 174 true) w1_1 (fun x78 =>
  RD Tryz.prog (Instr.extract x78 1) w1_1 (fun x79 =>
  RD Tryz.prog (Instr.extract x78 0) w1_1 (fun x80 =>
  BS x79 (CA Tryz.prog 74 #[p0, x80, p2] w1_1 (fun x84 w1_12 =>
  R (.returned (.tuple #[])) w1_12) (PC R)) (R (.returned (.tuple #[])) w1_1)) (PX R)) (PX R)) (PX R))) (PX R)) (PX R)) (PX R))) (PX R)) (PX R)) (PX R))) (PX R)) (PX R)) (PX R)) (PC R)) (PC R)) (PX R)) (PX R)
theorem sh_Pt_Writer_Term_ok {p0 p1 p2 : Value} {w : World} {R : Ending → World → Prop} (h : sh_Pt_Writer_Term p0 p1 p2 w R) : Calls Tryz.prog 38 #[p0, p1, p2] w R :=
  callsEq (args := [p0, p1, p2]) (good (fun _ => []) (fun n => match n with | 13001 => some [] | 15004 => some [9] | _ => none) (fun _ => 0) (fun n => match n with | 7 => some [6, 0, 1, 2, 3, 4, 5] | 16 => some [7, 0, 1, 2, 3, 4, 5, 6] | _ => none) (fun _ => []) (fun n => match n with | 13001 => [] | 15004 => [] | _ => []) (fun n => match n with | 13001 => true | 15004 => true | _ => false) (fun n => match n with | 10 => true | 20 => true | 28 => true | 37 => true | 47 => true | 48 => true | 49 => true | 54 => true | 79 => true | _ => false)) Tryz.func38 rfl (by kernel_rfl) (by kernel_rfl) (Nat.le_of_ble_eq_true (by kernel_rfl)) [] (by kernel_rfl) h
def sh_Pt_Writer_list (p0 p1 : Value) (w : World) (R : Ending → World → Prop) : Prop :=
  LoopW (fun rec s d w1 =>
    NC p0 fun x8 =>
    RD Tryz.prog (Instr.fieldAt 121 x8 0) w1 (fun x9 =>
    CA Tryz.prog 91 #[x9, (s 4)] w1 (fun x11 w1_1 =>
    NC (s 1) fun x14 =>
    RD Tryz.prog (Instr.fieldAt 179 x14 1) w1_1 (fun x15 =>
    RD Tryz.prog (Instr.loadAt 100 x15) w1_1 (fun x16 =>
    RD Tryz.prog (Instr.indexAt 100 x16 (.int .i64 0)) w1_1 (fun x17 =>
    RD Tryz.prog (Instr.loadAt 107 x17) w1_1 (fun x18 =>
    CA Tryz.prog 38 #[p0, x18, (.int .i64 0)] w1_1 (fun x19 w1_2 =>
    JS (fun j =>
      NC (s 1) fun x21 =>
      RD Tryz.prog (Instr.fieldAt 179 x21 1) w1_2 (fun x22 =>
      RD Tryz.prog (Instr.loadAt 100 x22) w1_2 (fun x23 =>
      RD Tryz.prog (Instr.indexAt 100 x23 (.int .i64 1)) w1_2 (fun x24 =>
      RD Tryz.prog (Instr.loadAt 107 x24) w1_2 (fun x25 =>
      CA Tryz.prog 70 #[x25] w1_2 (fun x26 w1_4 =>
      RD Tryz.prog (Instr.typeAssert x26 107 174 true) w1_4 (fun x27 =>
      RD Tryz.prog (Instr.extract x27 1) w1_4 (fun x28 =>
      RD Tryz.prog (Instr.extract x27 0) w1_4 (fun x29 =>
      BS x28 (JS (fun j_1 =>
        NC x29 fun x31 =>
        RD Tryz.prog (Instr.fieldAt 179 x31 0) w1_4 (fun x32 =>
        RD Tryz.prog (Instr.loadAt 9 x32) w1_4 (fun x33 =>
        RD Tryz.prog (bo .eql 9 (.tmp 33) (.const (.string (bs [46]))) x33 (.string (bs [46]))) w1_4 (fun x34 => BS x34 (
        NC x29 fun x37 =>
        RD Tryz.prog (Instr.fieldAt 179 x37 1) w1_4 (fun x38 =>
        RD Tryz.prog (Instr.loadAt 100 x38) w1_4 (fun x39 =>
        RD Tryz.prog (Builtin.len_ #[100] 3 #[x39]) w1_4 (fun x40 =>
        RD Tryz.prog (bo .eql 3 (.tmp 40) (.const (.int .i64 2)) x40 (.int .i64 2)) w1_4 (fun x41 =>
        j_1 (sOf [(42, x41)]) w1_4) (PX R)) (PX R)) (PX R)) (PX R)) (
        j_1 (sOf [(42, (.bool false))]) w1_4)) (PX R)) (PX R)) (PX R))
        (fun s_2 d_2 w1_5 =>
        BS (s_2 42) (rec (sOf [(1, x29), (4, (.int .u8 44))]) w1_5) (j (sOf [(1, (s 1))]) w1_5))) (RD Tryz.prog (Instr.typeAssert x26 107 168 true) w1_4 (fun x44 =>
      RD Tryz.prog (Instr.extract x44 1) w1_4 (fun x45 =>
      RD Tryz.prog (Instr.extract x44 0) w1_4 (fun x46 =>
      BS x45 (RD Tryz.prog (bo .eql 168 (.tmp 47) (.const (.string (bs [91, 93]))) x46 (.string (bs [91, 93]))) w1_4 (fun x48 =>
      BS x48 (NC p0 fun x50 =>
      RD Tryz.prog (Instr.fieldAt 121 x50 0) w1_4 (fun x51 =>
      CA Tryz.prog 91 #[x51, (.int .u8 93)] w1_4 (fun x52 w1_6 =>
      R (.returned (.tuple #[])) w1_6) (PC R)) (PX R)) (j (sOf [(1, (s 1))]) w1_4)) (PX R)) (j (sOf [(1, (s 1))]) w1_4)) (PX R)) (PX R)) (PX R))) (PX R)) (PX R)) (PX R)) (PC R)) (PX R)) (PX R)) (PX R)) (PX R))
      (fun s_1 d_1 w1_3 =>
      NC p0 fun x54 =>
      RD Tryz.prog (Instr.fieldAt 121 x54 0) w1_3 (fun x55 =>
      CA Tryz.prog 91 #[x55, (.int .u8 124)] w1_3 (fun x56 w1_7 =>
      NC (s_1 1) fun x59 =>
      RD Tryz.prog (Instr.fieldAt 179 x59 1) w1_7 (fun x60 =>
      RD Tryz.prog (Instr.loadAt 100 x60) w1_7 (fun x61 =>
      RD Tryz.prog (Instr.indexAt 100 x61 (.int .i64 1)) w1_7 (fun x62 =>
      RD Tryz.prog (Instr.loadAt 107 x62) w1_7 (fun x63 =>
      CA Tryz.prog 38 #[p0, x63, (.int .i64 0)] w1_7 (fun x64 w1_8 =>
      NC p0 fun x66 =>
      RD Tryz.prog (Instr.fieldAt 121 x66 0) w1_8 (fun x67 =>
      CA Tryz.prog 91 #[x67, (.int .u8 93)] w1_8 (fun x68 w1_9 =>
      R (.returned (.tuple #[])) w1_9) (PC R)) (PX R)) (PC R)) (PX R)) (PX R)) (PX R)) (PX R)) (PC R)) (PX R))) (PC R)) (PX R)) (PX R)) (PX R)) (PX R)) (PC R)) (PX R))
    (sOf [(1, p1), (4, (.int .u8 91))]) w
theorem sh_Pt_Writer_list_ok {p0 p1 : Value} {w : World} {R : Ending → World → Prop} (h : sh_Pt_Writer_list p0 p1 w R) : Calls Tryz.prog 92 #[p0, p1] w R :=
  callsEq (args := [p0, p1]) (good (fun n => match n with | 1 => [1, 4] | _ => []) (fun n => match n with | 7000 => some [42] | 12008 => some [1] | _ => none) (fun _ => 0) (fun _ => none) (fun n => match n with | 1 => [] | _ => []) (fun n => match n with | 7000 => [] | 12008 => [] | _ => []) (fun n => match n with | 7000 => true | 12008 => true | _ => false) (fun n => match n with | 28 => true | 41 => true | 42 => true | 45 => true | 48 => true | _ => false)) Tryz.func92 rfl (by kernel_rfl) (by kernel_rfl) (Nat.le_of_ble_eq_true (by kernel_rfl)) [] (by kernel_rfl) h
def sh_Pt_Writer_comp (p0 p1 p2 : Value) (w : World) (R : Ending → World → Prop) : Prop :=
  NC p1 fun x10 =>
  RD Tryz.prog (Instr.fieldAt 179 x10 0) w.drew (fun x11 =>
  RD Tryz.prog (Instr.loadAt 9 x11) w.drew (fun x12 =>
  NC p1 fun x14 =>
  RD Tryz.prog (Instr.fieldAt 179 x14 1) w.drew (fun x15 =>
  RD Tryz.prog (Instr.loadAt 100 x15) w.drew (fun x16 =>
  RD Tryz.prog (Builtin.len_ #[100] 3 #[x16]) w.drew (fun x17 =>
  CA Tryz.prog 90 #[x12, x17] w.drew (fun x18 w1 =>
  RD Tryz.prog (bo .gtr 3 (.tmp 53) (.const (.int .i64 0)) x18 (.int .i64 0)) w1 (fun x54 =>
  BS x54 (RD Tryz.prog (bo .lss 3 (.tmp 55) (.tmp 56) x18 p2) w1 (fun x57 =>
  BS x57 (NC p0 fun x59 =>
  RD Tryz.prog (Instr.fieldAt 121 x59 0) w1 (fun x60 =>
  CA Tryz.prog 91 #[x60, (.int .u8 40)] w1 (fun x61 w1_1 =>
  NC p0 fun x63 =>
  RD Tryz.prog (Instr.fieldAt 121 x63 0) w1_1 (fun x64 =>
  NC p1 fun x67 =>
  RD Tryz.prog (Instr.fieldAt 179 x67 1) w1_1 (fun x68 =>
  RD Tryz.prog (Instr.loadAt 100 x68) w1_1 (fun x69 =>
  RD Tryz.prog (Instr.indexAt 100 x69 (.int .i64 0)) w1_1 (fun x70 =>
  RD Tryz.prog (Instr.loadAt 107 x70) w1_1 (fun x71 =>
  CA Tryz.prog 38 #[p0, x71, x18] w1_1 (fun x73 w1_2 =>
  JS (fun j =>
    NC p1 fun x75 =>
    RD Tryz.prog (Instr.fieldAt 179 x75 0) w1_2 (fun x76 =>
    RD Tryz.prog (Instr.loadAt 9 x76) w1_2 (fun x77 =>
    RD Tryz.prog (bo .eql 9 (.tmp 77) (.const (.string (bs [109, 111, 100]))) x77 (.string (bs [109, 111, 100]))) w1_2 (fun x78 =>
    BS x78 (NC p0 fun x80 =>
    RD Tryz.prog (Instr.fieldAt 121 x80 0) w1_2 (fun x81 =>
    CA Tryz.prog 71 #[x81, (.string (bs [32, 109, 111, 100, 32]))] w1_2 (fun x82 w1_4 =>
    j (sOf []) w1_4) (fun ch wz => LV Tryz.prog (fun wz => R (.returned (.tuple #[])) wz) R [{ target := .fn (.func 91) #[], args := #[x64, (.int .u8 41)] }] (.panicking ch) wz)) (fun v wz => LV Tryz.prog (fun wz => R (.returned (.tuple #[])) wz) R [{ target := .fn (.func 91) #[], args := #[x64, (.int .u8 41)] }] (.panicking [{ v, recovered := false }]) wz)) (NC p0 fun x84 =>
    RD Tryz.prog (Instr.fieldAt 121 x84 0) w1_2.drew (fun x85 =>
    NC p1 fun x87 =>
    RD Tryz.prog (Instr.fieldAt 179 x87 0) w1_2.drew (fun x88 =>
    RD Tryz.prog (Instr.loadAt 9 x88) w1_2.drew (fun x89 =>
    CA Tryz.prog 71 #[x85, x89] w1_2.drew (fun x90 w1_5 =>
    j (sOf []) w1_5) (fun ch wz => LV Tryz.prog (fun wz => R (.returned (.tuple #[])) wz) R [{ target := .fn (.func 91) #[], args := #[x64, (.int .u8 41)] }] (.panicking ch) wz)) NX) NX) NX)) (fun v wz => LV Tryz.prog (fun wz => R (.returned (.tuple #[])) wz) R [{ target := .fn (.func 91) #[], args := #[x64, (.int .u8 41)] }] (.panicking [{ v, recovered := false }]) wz)) (fun v wz => LV Tryz.prog (fun wz => R (.returned (.tuple #[])) wz) R [{ target := .fn (.func 91) #[], args := #[x64, (.int .u8 41)] }] (.panicking [{ v, recovered := false }]) wz)) (fun v wz => LV Tryz.prog (fun wz => R (.returned (.tuple #[])) wz) R [{ target := .fn (.func 91) #[], args := #[x64, (.int .u8 41)] }] (.panicking [{ v, recovered := false }]) wz))
    (fun s d w1_3 =>
    NC p1 fun x93 =>
    RD Tryz.prog (Instr.fieldAt 179 x93 1) w1_3 (fun x94 =>
    RD Tryz.prog (Instr.loadAt 100 x94) w1_3 (fun x95 =>
    RD Tryz.prog (Instr.indexAt 100 x95 (.int .i64 1)) w1_3 (fun x96 =>
    RD Tryz.prog (Instr.loadAt 107 x96) w1_3 (fun x97 =>
    RD Tryz.prog (bo .add 3 (.tmp 98) (.const (.int .i64 1)) x18 (.int .i64 1)) w1_3 (fun x99 =>
    CA Tryz.prog 38 #[p0, x97, x99] w1_3 (fun x100 w1_6 =>
    LV Tryz.prog (fun wz => R (.returned (.tuple #[])) wz) R [{ target := .fn (.func 91) #[], args := #[x64, (.int .u8 41)] }] .returning w1_6) (fun ch wz => LV Tryz.prog (fun wz => R (.returned (.tuple #[])) wz) R [{ target := .fn (.func 91) #[], args := #[x64, (.int .u8 41)] }] (.panicking ch) wz)) (fun v wz => LV Tryz.prog (fun wz => R (.returned (.tuple #[])) wz) R [{ target := .fn (.func 91) #[], args := #[x64, (.int .u8 41)] }] (.panicking [{ v, recovered := false }]) wz)) (fun v wz => LV Tryz.prog (fun wz => R (.returned (.tuple #[])) wz) R [{ target := .fn (.func 91) #[], args := #[x64, (.int .u8 41)] }] (.panicking [{ v, recovered := false }]) wz)) (fun v wz => LV Tryz.prog (fun wz => R (.returned (.tuple #[])) wz) R [{ target := .fn (.func 91) #[], args := #[x64, (.int .u8 41)] }] (.panicking [{ v, recovered := false }]) wz)) (fun v wz => LV Tryz.prog (fun wz => R (.returned (.tuple #[])) wz) R [{ target := .fn (.func 91) #[], args := #[x64, (.int .u8 41)] }] (.panicking [{ v, recovered := false }]) wz)) (fun v wz => LV Tryz.prog (fun wz => R (.returned (.tuple #[])) wz) R [{ target := .fn (.func 91) #[], args := #[x64, (.int .u8 41)] }] (.panicking [{ v, recovered := false }]) wz))) (fun ch wz => LV Tryz.prog (fun wz => R (.returned (.tuple #[])) wz) R [{ target := .fn (.func 91) #[], args := #[x64, (.int .u8 41)] }] (.panicking ch) wz)) (fun v wz => LV Tryz.prog (fun wz => R (.returned (.tuple #[])) wz) R [{ target := .fn (.func 91) #[], args := #[x64, (.int .u8 41)] }] (.panicking [{ v, recovered := false }]) wz)) (fun v wz => LV Tryz.prog (fun wz => R (.returned (.tuple #[])) wz) R [{ target := .fn (.func 91) #[], args := #[x64, (.int .u8 41)] }] (.panicking [{ v, recovered := false }]) wz)) (fun v wz => LV Tryz.prog (fun wz => R (.returned (.tuple #[])) wz) R [{ target := .fn (.func 91) #[], args := #[x64, (.int .u8 41)] }] (.panicking [{ v, recovered := false }]) wz)) (fun v wz => LV Tryz.prog (fun wz => R (.returned (.tuple #[])) wz) R [{ target := .fn (.func 91) #[], args := #[x64, (.int .u8 41)] }] (.panicking [{ v, recovered := false }]) wz)) (fun v wz => LV Tryz.prog (fun wz => R (.returned (.tuple #[])) wz) R [] (.panicking [{ v, recovered := false }]) wz)) (fun ch wz => LV Tryz.prog (fun wz => R (.returned (.tuple #[])) wz) R [] (.panicking ch) wz)) (fun v wz => LV Tryz.prog (fun wz => R (.returned (.tuple #[])) wz) R [] (.panicking [{ v, recovered := false }]) wz)) (NC p1 fun x67_1 =>
  RD Tryz.prog (Instr.fieldAt 179 x67_1 1) w1 (fun x68_1 =>
  RD Tryz.prog (Instr.loadAt 100 x68_1) w1 (fun x69_1 =>
  RD Tryz.prog (Instr.indexAt 100 x69_1 (.int .i64 0)) w1 (fun x70_1 =>
  RD Tryz.prog (Instr.loadAt 107 x70_1) w1 (fun x71_1 =>
  CA Tryz.prog 38 #[p0, x71_1, x18] w1 (fun x73_1 w1_7 =>
  JS (fun j_1 =>
    NC p1 fun x75_1 =>
    RD Tryz.prog (Instr.fieldAt 179 x75_1 0) w1_7 (fun x76_1 =>
    RD Tryz.prog (Instr.loadAt 9 x76_1) w1_7 (fun x77_1 =>
    RD Tryz.prog (bo .eql 9 (.tmp 77) (.const (.string (bs [109, 111, 100]))) x77_1 (.string (bs [109, 111, 100]))) w1_7 (fun x78_1 =>
    BS x78_1 (NC p0 fun x80_1 =>
    RD Tryz.prog (Instr.fieldAt 121 x80_1 0) w1_7 (fun x81_1 =>
    CA Tryz.prog 71 #[x81_1, (.string (bs [32, 109, 111, 100, 32]))] w1_7 (fun x82_1 w1_9 =>
    j_1 (sOf []) w1_9) (fun ch wz => LV Tryz.prog (fun wz => R (.returned (.tuple #[])) wz) R [] (.panicking ch) wz)) (fun v wz => LV Tryz.prog (fun wz => R (.returned (.tuple #[])) wz) R [] (.panicking [{ v, recovered := false }]) wz)) (NC p0 fun x84_1 =>
    RD Tryz.prog (Instr.fieldAt 121 x84_1 0) w1_7.drew (fun x85_1 =>
    NC p1 fun x87_1 =>
    RD Tryz.prog (Instr.fieldAt 179 x87_1 0) w1_7.drew (fun x88_1 =>
    RD Tryz.prog (Instr.loadAt 9 x88_1) w1_7.drew (fun x89_1 =>
    CA Tryz.prog 71 #[x85_1, x89_1] w1_7.drew (fun x90_1 w1_10 =>
    j_1 (sOf []) w1_10) (fun ch wz => LV Tryz.prog (fun wz => R (.returned (.tuple #[])) wz) R [] (.panicking ch) wz)) NX) NX) NX)) (fun v wz => LV Tryz.prog (fun wz => R (.returned (.tuple #[])) wz) R [] (.panicking [{ v, recovered := false }]) wz)) (fun v wz => LV Tryz.prog (fun wz => R (.returned (.tuple #[])) wz) R [] (.panicking [{ v, recovered := false }]) wz)) (fun v wz => LV Tryz.prog (fun wz => R (.returned (.tuple #[])) wz) R [] (.panicking [{ v, recovered := false }]) wz))
    (fun s_1 d_1 w1_8 =>
    NC p1 fun x93_1 =>
    RD Tryz.prog (Instr.fieldAt 179 x93_1 1) w1_8 (fun x94_1 =>
    RD Tryz.prog (Instr.loadAt 100 x94_1) w1_8 (fun x95_1 =>
    RD Tryz.prog (Instr.indexAt 100 x95_1 (.int .i64 1)) w1_8 (fun x96_1 =>
    RD Tryz.prog (Instr.loadAt 107 x96_1) w1_8 (fun x97_1 =>
    RD Tryz.prog (bo .add 3 (.tmp 98) (.const (.int .i64 1)) x18 (.int .i64 1)) w1_8 (fun x99_1 =>
    CA Tryz.prog 38 #[p0, x97_1, x99_1] w1_8 (fun x100_1 w1_11 =>
    LV Tryz.prog (fun wz_1 => R (.returned (.tuple #[])) wz_1) R [] .returning w1_11) (fun ch wz => LV Tryz.prog (fun wz => R (.returned (.tuple #[])) wz) R [] (.panicking ch) wz)) (fun v wz => LV Tryz.prog (fun wz => R (.returned (.tuple #[])) wz) R [] (.panicking [{ v, recovered := false }]) wz)) (fun v wz => LV Tryz.prog (fun wz => R (.returned (.tuple #[])) wz) R [] (.panicking [{ v, recovered := false }]) wz)) (fun v wz => LV Tryz.prog (fun wz => R (.returned (.tuple #[])) wz) R [] (.panicking [{ v, recovered := false }]) wz)) (fun v wz => LV Tryz.prog (fun wz => R (.returned (.tuple #[])) wz) R [] (.panicking [{ v, recovered := false }]) wz)) (fun v wz => LV Tryz.prog (fun wz => R (.returned (.tuple #[])) wz) R [] (.panicking [{ v, recovered := false }]) wz))) (fun ch wz => LV Tryz.prog (fun wz => R (.returned (.tuple #[])) wz) R [] (.panicking ch) wz)) (fun v wz => LV Tryz.prog (fun wz => R (.returned (.tuple #[])) wz) R [] (.panicking [{ v, recovered := false }]) wz)) (fun v wz => LV Tryz.prog (fun wz => R (.returned (.tuple #[])) wz) R [] (.panicking [{ v, recovered := false }]) wz)) (fun v wz => LV Tryz.prog (fun wz => R (.returned (.tuple #[])) wz) R [] (.panicking [{ v, recovered := false }]) wz)) (fun v wz => LV Tryz.prog (fun wz => R (.returned (.tuple #[])) wz) R [] (.panicking [{ v, recovered := false }]) wz))) (fun v wz => LV Tryz.prog (fun wz => R (.returned (.tuple #[])) wz) R [] (.panicking [{ v, recovered := false }]) wz)) (JS (fun j_2 =>
    NC p1 fun x103 =>
    RD Tryz.prog (Instr.fieldAt 179 x103 0) w1 (fun x104 =>
    RD Tryz.prog (Instr.loadAt 9 x104) w1 (fun x105 =>
    RD Tryz.prog (bo .eql 9 (.tmp 105) (.const (.string (bs [46]))) x105 (.string (bs [46]))) w1 (fun x106 => BS x106 (
    NC p1 fun x109 =>
    RD Tryz.prog (Instr.fieldAt 179 x109 1) w1 (fun x110 =>
    RD Tryz.prog (Instr.loadAt 100 x110) w1 (fun x111 =>
    RD Tryz.prog (Builtin.len_ #[100] 3 #[x111]) w1 (fun x112 =>
    RD Tryz.prog (bo .eql 3 (.tmp 112) (.const (.int .i64 2)) x112 (.int .i64 2)) w1 (fun x113 =>
    j_2 (sOf [(101, x113)]) w1) (fun v wz => LV Tryz.prog (fun wz => R (.returned (.tuple #[])) wz) R [] (.panicking [{ v, recovered := false }]) wz)) (fun v wz => LV Tryz.prog (fun wz => R (.returned (.tuple #[])) wz) R [] (.panicking [{ v, recovered := false }]) wz)) (fun v wz => LV Tryz.prog (fun wz => R (.returned (.tuple #[])) wz) R [] (.panicking [{ v, recovered := false }]) wz)) (fun v wz => LV Tryz.prog (fun wz => R (.returned (.tuple #[])) wz) R [] (.panicking [{ v, recovered := false }]) wz)) (
    j_2 (sOf [(101, (.bool false))]) w1)) (fun v wz => LV Tryz.prog (fun wz => R (.returned (.tuple #[])) wz) R [] (.panicking [{ v, recovered := false }]) wz)) (fun v wz => LV Tryz.prog (fun wz => R (.returned (.tuple #[])) wz) R [] (.panicking [{ v, recovered := false }]) wz)) (fun v wz => LV Tryz.prog (fun wz => R (.returned (.tuple #[])) wz) R [] (.panicking [{ v, recovered := false }]) wz))
    (fun s_2 d_2 w1_12 =>
    BS (s_2 101) (CA Tryz.prog 92 #[p0, p1] w1_12 (fun x117 w1_13 =>
    LV Tryz.prog (fun wz_2 => R (.returned (.tuple #[])) wz_2) R [] .returning w1_13) (fun ch wz => LV Tryz.prog (fun wz => R (.returned (.tuple #[])) wz) R [] (.panicking ch) wz)) (NC p0 fun x20 =>
    RD Tryz.prog (Instr.fieldAt 121 x20 0) w1_12.drew (fun x21 =>
    NC p1 fun x23 =>
    RD Tryz.prog (Instr.fieldAt 179 x23 0) w1_12.drew (fun x24 =>
    RD Tryz.prog (Instr.loadAt 9 x24) w1_12.drew (fun x25 =>
    CA Tryz.prog 71 #[x21, x25] w1_12.drew (fun x26 w1_14 =>
    NC p1 fun x28 =>
    RD Tryz.prog (Instr.fieldAt 179 x28 1) w1_14 (fun x29 =>
    RD Tryz.prog (Instr.loadAt 100 x29) w1_14 (fun x30 =>
    RD Tryz.prog (Builtin.len_ #[100] 3 #[x30]) w1_14 (fun x31 =>
    LoopW (fun rec s_3 d_3 w1_15 =>
      RD Tryz.prog (bo .lss 3 (.tmp 32) (.tmp 31) (s_3 32) x31) w1_15 (fun x33 =>
      BS x33 (RD Tryz.prog (Instr.indexAt 100 x30 (s_3 32)) w1_15 (fun x35 =>
      RD Tryz.prog (Instr.loadAt 107 x35) w1_15 (fun x36 =>
      NC p0 fun x38 =>
      RD Tryz.prog (Instr.fieldAt 121 x38 0) w1_15.drew (fun x39 =>
      RD Tryz.prog (Builtin.min_ #[3, 3] 3 #[(s_3 32), (.int .i64 1)]) w1_15.drew (fun x41 =>
      RD Tryz.prog (Instr.index 9 (.string (bs [40, 44])) x41) w1_15.drew (fun x42 =>
      CA Tryz.prog 91 #[x39, x42] w1_15.drew (fun x43 w1_16 =>
      CA Tryz.prog 38 #[p0, x36, (.int .i64 0)] w1_16 (fun x46 w1_17 =>
      RD Tryz.prog (bo .add 3 (.tmp 32) (.const (.int .i64 1)) (s_3 32) (.int .i64 1)) w1_17 (fun x47 =>
      rec (sOf [(32, x47)]) w1_17) (fun v wz => LV Tryz.prog (fun wz => R (.returned (.tuple #[])) wz) R [] (.panicking [{ v, recovered := false }]) wz)) (fun ch wz => LV Tryz.prog (fun wz => R (.returned (.tuple #[])) wz) R [] (.panicking ch) wz)) (fun ch wz => LV Tryz.prog (fun wz => R (.returned (.tuple #[])) wz) R [] (.panicking ch) wz)) NX) NX) NX) (fun v wz => LV Tryz.prog (fun wz => R (.returned (.tuple #[])) wz) R [] (.panicking [{ v, recovered := false }]) wz)) (fun v wz => LV Tryz.prog (fun wz => R (.returned (.tuple #[])) wz) R [] (.panicking [{ v, recovered := false }]) wz)) (NC p0 fun x49 =>
    RD Tryz.prog (Instr.fieldAt 121 x49 0) w1_15 (fun x50 =>
    CA Tryz.prog 91 #[x50, (.int .u8 41)] w1_15 (fun x51 w1_18 =>
    LV Tryz.prog (fun wz_3 => R (.returned (.tuple #[])) wz_3) R [] .returning w1_18) (fun ch wz => LV Tryz.prog (fun wz => R (.returned (.tuple #[])) wz) R [] (.panicking ch) wz)) (fun v wz => LV Tryz.prog (fun wz => R (.returned (.tuple #[])) wz) R [] (.panicking [{ v, recovered := false }]) wz))) (fun v wz => LV Tryz.prog (fun wz => R (.returned (.tuple #[])) wz) R [] (.panicking [{ v, recovered := false }]) wz))
      (sOf [(32, (.int .i64 0))]) w1_14) (fun v wz => LV Tryz.prog (fun wz => R (.returned (.tuple #[])) wz) R [] (.panicking [{ v, recovered := false }]) wz)) (fun v wz => LV Tryz.prog (fun wz => R (.returned (.tuple #[])) wz) R [] (.panicking [{ v, recovered := false }]) wz)) (fun v wz => LV Tryz.prog (fun wz => R (.returned (.tuple #[])) wz) R [] (.panicking [{ v, recovered := false }]) wz)) (fun ch wz => LV Tryz.prog (fun wz => R (.returned (.tuple #[])) wz) R [] (.panicking ch) wz)) NX) NX) NX)))) (fun v wz => LV Tryz.prog (fun wz => R (.returned (.tuple #[])) wz) R [] (.panicking [{ v, recovered := false }]) wz)) (fun ch wz => LV Tryz.prog (fun wz => R (.returned (.tuple #[])) wz) R [] (.panicking ch) wz)) NX) NX) NX) NX) NX
theorem sh_Pt_Writer_comp_ok {p0 p1 p2 : Value} {w : World} {R : Ending → World → Prop} (h : sh_Pt_Writer_comp p0 p1 p2 w R) : Calls Tryz.prog 74 #[p0, p1, p2] w R :=
  callsEqD (args := [p0, p1, p2]) (good (fun n => match n with | 3 => [32] | _ => []) (fun n => match n with | 16002 => some [] | 18000 => some [101] | _ => none) (fun n => match n with | 0 => 9 | 1 => 7 | 5 => 6 | 16 => 7 | _ => 0) (fun _ => none) (fun n => match n with | 3 => [] | _ => []) (fun n => match n with | 16002 => [] | 18000 => [] | _ => []) (fun n => match n with | 16002 => true | 18000 => true | _ => false) (fun n => match n with | 33 => true | 52 => true | 54 => true | 57 => true | 78 => true | 101 => true | 113 => true | 114 => true | _ => false)) Tryz.func74 rfl (by kernel_rfl) (Nat.le_of_ble_eq_true (by kernel_rfl)) [] (by kernel_rfl) h
end Go.Proofs.YtkmpelgfhjgddaaGreatDoor
namespace Go.Proofs.YtkmpelgfhjgddaaGreatDoor
open Go.RowKit Sx
set_option maxRecDepth 100000
mutual
def IsTm (F : Nat → Prop) (ρ : Nat → Nat) (n : Nat) (w : World) (v : Value) : P.Tm → Prop
  | .atom s => v = .iface 168 (.string (bs s))
  | .int k => v = .iface 171 (.int .i64 k)
  | .var i => i < n ∧ v = .iface 105 (.pointer (some ⟨ρ i, 0, none⟩))
  | .comp name args => ∃ b av vs, v = .iface 174 (.pointer (some ⟨b, 0, none⟩)) ∧ F b ∧ w.heap[b]? = some (.cells #[.string (bs name), av] 179 (0, 0)) ∧
      IsSl F w 107 av vs ∧ IsTms F ρ n w vs args
  termination_by structural t => t
def IsTms (F : Nat → Prop) (ρ : Nat → Nat) (n : Nat) (w : World) (vs : List Value) : List P.Tm → Prop
  | [] => vs = []
  | t :: ts => ∃ v r, vs = v :: r ∧ IsTm F ρ n w v t ∧ IsTms F ρ n w r ts
  termination_by structural t => t
end
abbrev IsT (ρ : Nat → Nat) (n : Nat) (w : World) (v : Value) (t : P.Tm) : Prop := IsTm (fun _ => True) ρ n w v t
def KeepT (F : Nat → Prop) (w w' : World) : Prop := ∀ b cs t, F b → t = 179 ∨ t = 107 → w.heap[b]? = some (.cells cs t (0, 0)) → w'.heap[b]? = some (.cells cs t (0, 0))
abbrev KeepA1 (w w' : World) : Prop := KeepT (fun _ => True) w w'
theorem KeepT.ofExt {F : Nat → Prop} {w w' : World} (h : Ext w w') : KeepT F w w' := fun b cs t _ _ hb => h.ext b _ hb
mutual
theorem IsTm.mono {F F' : Nat → Prop} {ρ ρ' : Nat → Nat} {n n' : Nat} {w w' : World} (hf : ∀ b, F b → F' b) (hn : n ≤ n') (hρ : ∀ i, i < n → ρ' i = ρ i) (hw : KeepT F w w') : ∀ (t : P.Tm) (v : Value), IsTm F ρ n w v t → IsTm F' ρ' n' w' v t
  | .atom s, v, h => by unfold IsTm at h ⊢; exact h
  | .int k, v, h => by unfold IsTm at h ⊢; exact h
  | .var i, v, h => by
    unfold IsTm at h ⊢
    obtain ⟨h1, h2⟩ := h
    exact ⟨by omega, by rw [hρ i h1]; exact h2⟩
  | .comp name args, v, h => by
    unfold IsTm at h ⊢
    obtain ⟨b, av, vs, h1, h2, h3, h4, h5⟩ := h
    exact ⟨b, av, vs, h1, hf b h2, hw b _ _ h2 (.inl rfl) h3, h4.mono hf fun b cs hb hc => hw b _ _ hb (.inr rfl) hc, IsTms.mono hf hn hρ hw args vs h5⟩
  termination_by structural t => t
theorem IsTms.mono {F F' : Nat → Prop} {ρ ρ' : Nat → Nat} {n n' : Nat} {w w' : World} (hf : ∀ b, F b → F' b) (hn : n ≤ n') (hρ : ∀ i, i < n → ρ' i = ρ i) (hw : KeepT F w w') : ∀ (ts : List P.Tm) (vs : List Value), IsTms F ρ n w vs ts → IsTms F' ρ' n' w' vs ts
  | [], vs, h => by unfold IsTms at h ⊢; exact h
  | t :: ts, vs, h => by
    unfold IsTms at h ⊢
    obtain ⟨v, r, h1, h2, h3⟩ := h
    exact ⟨v, r, h1, IsTm.mono hf hn hρ hw t v h2, IsTms.mono hf hn hρ hw ts r h3⟩
  termination_by structural t => t
end
theorem IsTm.keep {F : Nat → Prop} {ρ : Nat → Nat} {n : Nat} {w w' : World} {t : P.Tm} {v : Value} (h : IsTm F ρ n w v t) (hw : KeepT F w w') : IsTm F ρ n w' v t := IsTm.mono (fun _ h => h) (Nat.le_refl _) (fun _ _ => rfl) hw t v h
theorem IsTm.toT {F : Nat → Prop} {ρ : Nat → Nat} {n : Nat} {w : World} {t : P.Tm} {v : Value} (h : IsTm F ρ n w v t) : IsT ρ n w v t := IsTm.mono (fun _ _ => trivial) (Nat.le_refl _) (fun _ _ => rfl) (fun _ _ _ _ _ h => h) t v h
theorem IsTms.snoc {F : Nat → Prop} {ρ : Nat → Nat} {n : Nat} {w : World} {v : Value} {x : P.Tm} (hx : IsTm F ρ n w v x) : ∀ {xs : List P.Tm} {vs : List Value}, IsTms F ρ n w vs xs → IsTms F ρ n w (vs ++ [v]) (xs ++ [x])
  | [], vs, h => by
    unfold IsTms at h
    subst h
    show IsTms F ρ n w [v] [x]
    unfold IsTms
    exact ⟨v, [], rfl, hx, by unfold IsTms; rfl⟩
  | y :: ys, vs, h => by
    unfold IsTms at h
    obtain ⟨u, r, rfl, h2, h3⟩ := h
    show IsTms F ρ n w (u :: (r ++ [v])) (y :: (ys ++ [x]))
    unfold IsTms
    exact ⟨u, r ++ [v], rfl, h2, IsTms.snoc hx h3⟩
theorem IsTms.length {F : Nat → Prop} {ρ : Nat → Nat} {n : Nat} {w : World} : ∀ {xs : List P.Tm} {vs : List Value}, IsTms F ρ n w vs xs → vs.length = xs.length
  | [], vs, h => by unfold IsTms at h; subst h; rfl
  | y :: ys, vs, h => by
    unfold IsTms at h
    obtain ⟨u, r, rfl, h2, h3⟩ := h
    simp [IsTms.length h3]
theorem IsTms.at {F : Nat → Prop} {ρ : Nat → Nat} {n : Nat} {w : World} : ∀ {xs : List P.Tm} {vs : List Value} (j : Nat) (hj : j < xs.length), IsTms F ρ n w vs xs → ∃ v, vs[j]? = some v ∧ IsTm F ρ n w v xs[j]
  | x :: xs, vs, 0, _, h => by
    unfold IsTms at h
    obtain ⟨u, r, rfl, h2, h3⟩ := h
    exact ⟨u, rfl, h2⟩
  | x :: xs, vs, j + 1, hj, h => by
    unfold IsTms at h
    obtain ⟨u, r, rfl, h2, h3⟩ := h
    simpa using IsTms.at j (by simpa using hj) h3
theorem IsTm.iface {F : Nat → Prop} {ρ : Nat → Nat} {n : Nat} {w : World} {v : Value} : ∀ {t : P.Tm}, IsTm F ρ n w v t → ∃ u x, v = .iface u x
  | .atom s, h => by unfold IsTm at h; exact ⟨_, _, h⟩
  | .int s, h => by unfold IsTm at h; exact ⟨_, _, h⟩
  | .var s, h => by unfold IsTm at h; exact ⟨_, _, h.2⟩
  | .comp s l, h => by unfold IsTm at h; obtain ⟨b, av, vs, h, -⟩ := h; exact ⟨_, _, h⟩
structure StV (ρ : Nat → Nat) (n : Nat) (tr : P.Tr) (w : World) : Prop where
  inj : ∀ i j, i < n → j < n → ρ i = ρ j → i = j
  var : ∀ i, i < n → ∃ ref, w.heap[ρ i]? = some (.cells #[ref] 109 (0, 0)) ∧ (match P.look i tr with | none => ref = .nilIface | some t => IsT ρ n w ref t)
def KeepV (w w' : World) : Prop := ∀ (b : Nat) (cs : Array Value) (t : Nat), t = 179 ∨ t = 107 ∨ t = 109 → w.heap[b]? = some (.cells cs t (0, 0)) → w'.heap[b]? = some (.cells cs t (0, 0))
theorem KeepV.toT {w w' : World} (h : KeepV w w') : KeepA1 w w' := fun b cs t _ ht => h b cs t (ht.elim .inl fun h => .inr (.inl h))
theorem KeepV.ofExt {w w' : World} (h : Ext w w') : KeepV w w' := fun b cs t _ hb => h.ext b _ hb
theorem StV.keep {ρ : Nat → Nat} {n : Nat} {tr : P.Tr} {w w' : World} (h : StV ρ n tr w) (hk : KeepV w w') : StV ρ n tr w' :=
  ⟨h.inj, fun i hi => by
    obtain ⟨ref, h1, h2⟩ := h.var i hi
    refine ⟨ref, hk _ _ _ (.inr (.inr rfl)) h1, ?_⟩
    split at h2
    · rename_i hl; simpa [hl] using h2
    · rename_i t hl; exact IsTm.keep h2 hk.toT⟩
theorem tWalk {ρ : Nat → Nat} {n : Nat} {tr : P.Tr} {w : World} {v : Value} {t t' : P.Tm} {f : Nat} (h : StV ρ n tr w) (hv : IsT ρ n w v t) (hw : P.walkN tr f t = some t') :
    Calls Tryz.prog 70 #[v] w fun e w' => w' = w ∧ ∃ u, e = .returned u ∧ IsT ρ n w u t' := by
  refine sh_t_Walk_ok ?_
  refine ⟨fun m s w1 => w1 = w ∧ ∃ t1, IsT ρ n w (s 0) t1 ∧ P.walkN tr m t1 = some t', ⟨f, rfl, t, hv, hw⟩, ?_⟩
  intro m s d w1 hI
  refine toPr ?_
  obtain ⟨rfl, t1, h1, h2⟩ := hI
  by_cases hvar : ∃ i, t1 = .var i
  · obtain ⟨i, rfl⟩ := hvar
    unfold IsTm at h1
    obtain ⟨hi, h0⟩ := h1
    obtain ⟨ref, g1, g2⟩ := h.var i hi
    cases hl : P.look i tr with
    | none =>
      rw [hl] at g2
      have g2 : ref = .nilIface := g2
      subst g2
      have ht : t' = .var i := by
        cases m <;> simp [P.walkN, hl] at h2 <;> exact h2.symm
      simp (disch := first | assumption | omega | ((simp only [size_alloc, sz_drew, size_upd, List.size_toArray, List.length_cons, List.length_nil]) <;> omega) | decide) only [sh_t_Walk, Pr, PX, PC, NX, ends, fillL, wrL, sOf, Nat.reduceAdd, Nat.reduceMul, Nat.reduceLeDiff, Nat.reduceEqDiff, Int.reduceToNat, Int.reduceAdd, Int.reduceLT, Int.reduceLE, ↓reduceIte, forall_const, eq_self, zG1, zG2, eqi0_107, eqi1_107, fa_109_0, ld_107, ta_107_105, tn_107_105, h0]
      refine ⟨fun _ _ => False, ?_, by rintro _ _ h; exact h.elim⟩
      refine ⟨fun x w' => w' = w1 ∧ x 18 = .bool true, ?_, ?_⟩
      · simp (disch := first | assumption | omega | ((simp only [size_alloc, sz_drew, size_upd, List.size_toArray, List.length_cons, List.length_nil]) <;> omega) | decide) only [sh_t_Walk, Pr, PX, PC, NX, ends, fillL, wrL, sOf, Nat.reduceAdd, Nat.reduceMul, Nat.reduceLeDiff, Nat.reduceEqDiff, Int.reduceToNat, Int.reduceAdd, Int.reduceLT, Int.reduceLE, ↓reduceIte, forall_const, eq_self, zG1, zG2, eqi0_107, eqi1_107, fa_109_0, ld_107, ta_107_105, tn_107_105, g1, sOf]
      · rintro x w' ⟨rfl, hx⟩ d2
        simp (disch := first | assumption | omega | ((simp only [size_alloc, sz_drew, size_upd, List.size_toArray, List.length_cons, List.length_nil]) <;> omega) | decide) only [sh_t_Walk, Pr, PX, PC, NX, ends, fillL, wrL, sOf, Nat.reduceAdd, Nat.reduceMul, Nat.reduceLeDiff, Nat.reduceEqDiff, Int.reduceToNat, Int.reduceAdd, Int.reduceLT, Int.reduceLE, ↓reduceIte, forall_const, eq_self, zG1, zG2, eqi0_107, eqi1_107, fa_109_0, ld_107, ta_107_105, tn_107_105, hx]
        rw [ht]
        unfold IsTm
        refine ⟨_, rfl, hi, ?_⟩
        exact h0
    | some t2 =>
      rw [hl] at g2
      have g2 : IsT ρ n w1 ref t2 := g2
      obtain ⟨u, x, hux⟩ := g2.iface
      cases m with
      | zero => simp [P.walkN, hl] at h2
      | succ m =>
      simp [P.walkN, hl] at h2
      subst hux
      simp (disch := first | assumption | omega | ((simp only [size_alloc, sz_drew, size_upd, List.size_toArray, List.length_cons, List.length_nil]) <;> omega) | decide) only [sh_t_Walk, Pr, PX, PC, NX, ends, fillL, wrL, sOf, Nat.reduceAdd, Nat.reduceMul, Nat.reduceLeDiff, Nat.reduceEqDiff, Int.reduceToNat, Int.reduceAdd, Int.reduceLT, Int.reduceLE, ↓reduceIte, forall_const, eq_self, zG1, zG2, eqi0_107, eqi1_107, fa_109_0, ld_107, ta_107_105, tn_107_105, h0]
      refine ⟨fun _ w' => w' = w1, ?_, ?_⟩
      · refine ⟨fun x w' => w' = w1 ∧ x 18 = .bool false, ?_, ?_⟩
        · simp (disch := first | assumption | omega | ((simp only [size_alloc, sz_drew, size_upd, List.size_toArray, List.length_cons, List.length_nil]) <;> omega) | decide) only [sh_t_Walk, Pr, PX, PC, NX, ends, fillL, wrL, sOf, Nat.reduceAdd, Nat.reduceMul, Nat.reduceLeDiff, Nat.reduceEqDiff, Int.reduceToNat, Int.reduceAdd, Int.reduceLT, Int.reduceLE, ↓reduceIte, forall_const, eq_self, zG1, zG2, eqi0_107, eqi1_107, fa_109_0, ld_107, ta_107_105, tn_107_105, g1, sOf]
        · rintro x w' ⟨rfl, hx⟩ d2
          simp (disch := first | assumption | omega | ((simp only [size_alloc, sz_drew, size_upd, List.size_toArray, List.length_cons, List.length_nil]) <;> omega) | decide) only [sh_t_Walk, Pr, PX, PC, NX, ends, fillL, wrL, sOf, Nat.reduceAdd, Nat.reduceMul, Nat.reduceLeDiff, Nat.reduceEqDiff, Int.reduceToNat, Int.reduceAdd, Int.reduceLT, Int.reduceLE, ↓reduceIte, forall_const, eq_self, zG1, zG2, eqi0_107, eqi1_107, fa_109_0, ld_107, ta_107_105, tn_107_105, hx]
      · rintro x w' rfl d2
        simp (disch := first | assumption | omega | ((simp only [size_alloc, sz_drew, size_upd, List.size_toArray, List.length_cons, List.length_nil]) <;> omega) | decide) only [sh_t_Walk, Pr, PX, PC, NX, ends, fillL, wrL, sOf, Nat.reduceAdd, Nat.reduceMul, Nat.reduceLeDiff, Nat.reduceEqDiff, Int.reduceToNat, Int.reduceAdd, Int.reduceLT, Int.reduceLE, ↓reduceIte, forall_const, eq_self, zG1, zG2, eqi0_107, eqi1_107, fa_109_0, ld_107, ta_107_105, tn_107_105, g1]
        exact ⟨m, by omega, t2, g2, h2⟩
  · have ht : t1 = t' := by
      cases m <;> cases t1 <;> simp [P.walkN] at h2 <;> first | exact h2 | exact absurd ⟨_, rfl⟩ hvar
    have h0 : ∃ u x, s 0 = .iface u x ∧ ¬ u = 105 := by
      cases t1 with
      | atom a => unfold IsTm at h1; exact ⟨_, _, h1, by decide⟩
      | int a => unfold IsTm at h1; exact ⟨_, _, h1, by decide⟩
      | var a => exact absurd ⟨_, rfl⟩ hvar
      | comp a l => unfold IsTm at h1; obtain ⟨b, av, vs, h1, -⟩ := h1; exact ⟨_, _, h1, by decide⟩
    obtain ⟨u, x, h0, hu⟩ := h0
    simp (disch := first | assumption | omega | ((simp only [size_alloc, sz_drew, size_upd, List.size_toArray, List.length_cons, List.length_nil]) <;> omega) | decide) only [sh_t_Walk, Pr, PX, PC, NX, ends, fillL, wrL, sOf, Nat.reduceAdd, Nat.reduceMul, Nat.reduceLeDiff, Nat.reduceEqDiff, Int.reduceToNat, Int.reduceAdd, Int.reduceLT, Int.reduceLE, ↓reduceIte, forall_const, eq_self, zG1, zG2, eqi0_107, eqi1_107, fa_109_0, ld_107, ta_107_105, tn_107_105, h0, hu]
    refine ⟨fun _ _ => False, ?_, by rintro _ _ h; exact h.elim⟩
    refine ⟨fun x w' => w' = w1 ∧ x 18 = .bool true, ?_, ?_⟩
    · simp (disch := first | assumption | omega | ((simp only [size_alloc, sz_drew, size_upd, List.size_toArray, List.length_cons, List.length_nil]) <;> omega) | decide) only [sh_t_Walk, Pr, PX, PC, NX, ends, fillL, wrL, sOf, Nat.reduceAdd, Nat.reduceMul, Nat.reduceLeDiff, Nat.reduceEqDiff, Int.reduceToNat, Int.reduceAdd, Int.reduceLT, Int.reduceLE, ↓reduceIte, forall_const, eq_self, zG1, zG2, eqi0_107, eqi1_107, fa_109_0, ld_107, ta_107_105, tn_107_105, sOf]
    · rintro x' w' ⟨rfl, hx⟩ d2
      simp (disch := first | assumption | omega | ((simp only [size_alloc, sz_drew, size_upd, List.size_toArray, List.length_cons, List.length_nil]) <;> omega) | decide) only [sh_t_Walk, Pr, PX, PC, NX, ends, fillL, wrL, sOf, Nat.reduceAdd, Nat.reduceMul, Nat.reduceLeDiff, Nat.reduceEqDiff, Int.reduceToNat, Int.reduceAdd, Int.reduceLT, Int.reduceLE, ↓reduceIte, forall_const, eq_self, zG1, zG2, eqi0_107, eqi1_107, fa_109_0, ld_107, ta_107_105, tn_107_105, hx]
      refine ⟨_, rfl, ?_⟩
      rw [← ht]
      exact h1
end Go.Proofs.YtkmpelgfhjgddaaGreatDoor
