/- A part of one proof (ShR4, RW17, RW18); no conditions beyond what each theorem names. -/
import Derived.Test.YtkmpelgfhjgddaaGreatDoorPkRAO
set_option linter.all false
set_option linter.unusedVariables false
set_option linter.unusedSimpArgs false
namespace Go.Proofs.YtkmpelgfhjgddaaGreatDoor
open Go.Proofs.YtkmpelgfhjgddaaGreatDoor.Sx
set_option maxRecDepth 100000
set_option linter.unusedVariables false
def sh_r_begun (p0 : Value) (w : World) (R : Ending → World → Prop) : Prop :=
  RD Tryz.prog (Builtin.len_ #[9] 3 #[p0]) w (fun x8 =>
  RD Tryz.prog (bo .gtr 3 (.tmp 8) (.const (.int .i64 2000)) x8 (.int .i64 2000)) w (fun x9 =>
  BS x9 (R (.returned (.tuple #[(.pointer none), (.int .i64 1), (.int .i64 0)])) w) (CA Tryz.prog 30 #[p0] w (fun x12 w1 =>
  RD Tryz.prog (Instr.extract x12 0) w1 (fun x13 =>
  RD Tryz.prog (Instr.extract x12 1) w1 (fun x14 =>
  RD Tryz.prog (bo .geq 3 (.tmp 15) (.const (.int .i64 0)) x14 (.int .i64 0)) w1 (fun x16 =>
  BS x16 (R (.returned (.tuple #[(.pointer none), (.int .i64 2), x14])) w1) (RD Tryz.prog (Instr.build 58 #[(0, x13)]) w1 (fun x19 =>
  WR Tryz.prog (Instr.box 58 x19) w1 (fun x20 w1_1 =>
  R (.returned (.tuple #[x20, (.int .i64 0), (.int .i64 (-1))])) w1_1) (PX R)) (PX R))) (PX R)) (PX R)) (PX R)) (PC R))) (PX R)) (PX R)
theorem sh_r_begun_ok {p0 : Value} {w : World} {R : Ending → World → Prop} (h : sh_r_begun p0 w R) : Calls Tryz.prog 15 #[p0] w R :=
  callsEq (args := [p0]) (good (fun _ => []) (fun _ => none) (fun _ => 0) (fun _ => none) (fun _ => []) (fun _ => []) (fun _ => false) (fun n => match n with | 9 => true | 16 => true | _ => false)) Tryz.func15 rfl (by kernel_rfl) (by kernel_rfl) (Nat.le_of_ble_eq_true (by kernel_rfl)) [] (by kernel_rfl) h
def sh_r_lex (p0 : Value) (w : World) (R : Ending → World → Prop) : Prop :=
  CA Tryz.prog 61 #[] w (fun x13 w1 =>
  LoopW (fun rec s d w1_1 =>
    RD Tryz.prog (Builtin.len_ #[9] 3 #[p0]) w1_1 (fun x16 =>
    RD Tryz.prog (bo .lss 3 (.tmp 14) (.tmp 16) (s 6) x16) w1_1 (fun x17 =>
    BS x17 (RD Tryz.prog (Instr.index 9 p0 (s 6)) w1_1 (fun x20 =>
    JS (fun j =>
      JS (fun j_1 =>
        RD Tryz.prog (bo .eql 5 (.tmp 21) (.const (.int .u8 32)) x20 (.int .u8 32)) w1_1 (fun x22 => BS x22 (
        j_1 (sOf [(26, (.bool true))]) w1_1) (
        RD Tryz.prog (bo .eql 5 (.tmp 24) (.const (.int .u8 10)) x20 (.int .u8 10)) w1_1 (fun x25 =>
        j_1 (sOf [(26, x25)]) w1_1) (PX R))) (PX R))
        (fun s_2 d_2 w1_3 =>
        BS (s_2 26) (RD Tryz.prog (bo .add 3 (.tmp 27) (.const (.int .i64 1)) (s 6) (.int .i64 1)) w1_3 (fun x28 =>
        rec (sOf [(4, (s 4)), (6, x28)]) w1_3) (PX R)) (j (sOf [(6, (s 6))]) w1_3)))
      (fun s_1 d_1 w1_2 =>
      JS (fun j_2 =>
        LoopW (fun rec_1 s_4 d_4 w1_5 =>
          RD Tryz.prog (Builtin.len_ #[9] 3 #[p0]) w1_5 (fun x32 =>
          RD Tryz.prog (bo .lss 3 (.tmp 30) (.tmp 32) (s_4 8) x32) w1_5 (fun x33 => BS x33 (
          RD Tryz.prog (Instr.index 9 p0 (s_4 8)) w1_5 (fun x37 =>
          CA Tryz.prog 62 #[x37] w1_5 (fun x38 w1_6 =>
          RD Tryz.prog (bo .neq 5 (.tmp 38) (.const (.int .u8 0)) x38 (.int .u8 0)) w1_6 (fun x39 =>
          BS x39 (RD Tryz.prog (bo .add 3 (.tmp 41) (.const (.int .i64 1)) (s_4 8) (.int .i64 1)) w1_6 (fun x42 =>
          rec_1 (sOf [(8, x42)]) w1_6) (PX R)) (j_2 (sOf [(8, (s_4 8))]) w1_6)) (PX R)) (PC R)) (PX R)) (
          BS (.bool false) (RD Tryz.prog (bo .add 3 (.tmp 41) (.const (.int .i64 1)) (s_4 8) (.int .i64 1)) w1_5 (fun x42_1 =>
          rec_1 (sOf [(8, x42_1)]) w1_5) (PX R)) (j_2 (sOf [(8, (s_4 8))]) w1_5))) (PX R)) (PX R))
          (sOf [(8, (s_1 6))]) w1_2)
        (fun s_3 d_3 w1_4 =>
        RD Tryz.prog (bo .gtr 3 (.tmp 43) (.tmp 44) (s_3 8) (s_1 6)) w1_4 (fun x45 =>
        BS x45 (RD Tryz.prog (Instr.sliceAt 9 p0 (some (s_1 6)) (some (s_3 8)) none) w1_4 (fun x49 =>
        CA Tryz.prog 63 #[x49, (s_1 6)] w1_4 (fun x51 w1_7 =>
        WR Tryz.prog (Instr.alloc 60 true (.tuple #[])) w1_7 (fun x9 w1_8 =>
        WU Tryz.prog (Instr.storeAt 60 x9 x51) w1_8 (fun w1_9 =>
        RD Tryz.prog (Instr.fieldAt 60 x9 0) w1_9 (fun x52 =>
        RD Tryz.prog (Instr.loadAt 5 x52) w1_9 (fun x53 =>
        RD Tryz.prog (bo .eql 5 (.tmp 53) (.const (.int .u8 0)) x53 (.int .u8 0)) w1_9 (fun x54 =>
        BS x54 (R (.returned (.tuple #[(.slice none 0 0), (s_1 6)])) w1_9) (RD Tryz.prog (Instr.loadAt 60 x9) w1_9 (fun x57 =>
        WR Tryz.prog (Instr.buildSlice 56 1 #[(0, x57)]) w1_9 (fun x58 w1_10 =>
        WR Tryz.prog (Builtin.append_ #[56, 56] 56 #[(s 4), x58]) w1_10 (fun x59 w1_11 =>
        rec (sOf [(4, x59), (6, (s_3 8))]) w1_11) (PX R)) (PX R)) (PX R))) (PX R)) (PX R)) (PX R)) (PX R)) (PX R)) (PC R)) (PX R)) (JS (fun j_3 =>
          JS (fun j_4 =>
            RD Tryz.prog (bo .eql 5 (.tmp 61) (.const (.int .u8 46)) x20 (.int .u8 46)) w1_4 (fun x62 => BS x62 (
            RD Tryz.prog (bo .add 3 (.tmp 64) (.const (.int .i64 1)) (s_1 6) (.int .i64 1)) w1_4 (fun x65 =>
            RD Tryz.prog (Builtin.len_ #[9] 3 #[p0]) w1_4 (fun x67 =>
            RD Tryz.prog (bo .eql 3 (.tmp 65) (.tmp 67) x65 x67) w1_4 (fun x68 => BS x68 (
            j_4 (sOf [(83, (.bool true))]) w1_4) (
            RD Tryz.prog (bo .add 3 (.tmp 71) (.const (.int .i64 1)) (s_1 6) (.int .i64 1)) w1_4 (fun x72 =>
            RD Tryz.prog (Instr.index 9 p0 x72) w1_4 (fun x73 =>
            RD Tryz.prog (bo .eql 5 (.tmp 73) (.const (.int .u8 32)) x73 (.int .u8 32)) w1_4 (fun x74 => BS x74 (
            j_4 (sOf [(83, (.bool true))]) w1_4) (
            RD Tryz.prog (bo .add 3 (.tmp 78) (.const (.int .i64 1)) (s_1 6) (.int .i64 1)) w1_4 (fun x79 =>
            RD Tryz.prog (Instr.index 9 p0 x79) w1_4 (fun x80 =>
            RD Tryz.prog (bo .eql 5 (.tmp 80) (.const (.int .u8 10)) x80 (.int .u8 10)) w1_4 (fun x81 =>
            j_4 (sOf [(83, x81)]) w1_4) (PX R)) (PX R)) (PX R))) (PX R)) (PX R)) (PX R))) (PX R)) (PX R)) (PX R)) (
            j_4 (sOf [(83, (.bool false))]) w1_4)) (PX R))
            (fun s_6 d_6 w1_13 =>
            BS (s_6 83) (j_3 (sOf [(10, (.string (bs [46])))]) w1_13) (j_3 (sOf [(10, (.string (bs [])))]) w1_13)))
          (fun s_5 d_5 w1_12 =>
          JS (fun j_5 =>
            LoopW (fun rec_2 s_8 d_8 w1_15 =>
              RD Tryz.prog (Builtin.len_ #[38] 3 #[x13]) w1_15 (fun x86 =>
              RD Tryz.prog (bo .lss 3 (.tmp 84) (.tmp 86) (s_8 11) x86) w1_15 (fun x87 => BS x87 (
              RD Tryz.prog (bo .eql 9 (.tmp 89) (.const (.string (bs []))) (s_8 10) (.string (bs []))) w1_15 (fun x90 =>
              BS x90 (JS (fun j_6 =>
                RD Tryz.prog (Instr.indexAt 38 x13 (s_8 11)) w1_15 (fun x96 =>
                RD Tryz.prog (Instr.loadAt 9 x96) w1_15 (fun x97 =>
                JS (fun j_7 =>
                  RD Tryz.prog (Builtin.len_ #[9] 3 #[x97]) w1_15 (fun x100 =>
                  RD Tryz.prog (bo .add 3 (.tmp 98) (.tmp 100) (s_1 6) x100) w1_15 (fun x101 =>
                  RD Tryz.prog (Builtin.len_ #[9] 3 #[p0]) w1_15 (fun x103 =>
                  RD Tryz.prog (bo .leq 3 (.tmp 101) (.tmp 103) x101 x103) w1_15 (fun x104 => BS x104 (
                  RD Tryz.prog (Builtin.len_ #[9] 3 #[x97]) w1_15 (fun x110 =>
                  RD Tryz.prog (bo .add 3 (.tmp 108) (.tmp 110) (s_1 6) x110) w1_15 (fun x111 =>
                  RD Tryz.prog (Instr.sliceAt 9 p0 (some (s_1 6)) (some x111) none) w1_15 (fun x112 =>
                  RD Tryz.prog (bo .eql 9 (.tmp 112) (.tmp 113) x112 x97) w1_15 (fun x114 =>
                  j_7 (sOf [(115, x114)]) w1_15) (PX R)) (PX R)) (PX R)) (PX R)) (
                  j_7 (sOf [(115, (.bool false))]) w1_15)) (PX R)) (PX R)) (PX R)) (PX R))
                  (fun s_10 d_10 w1_17 =>
                  BS (s_10 115) (j_6 (sOf [(10, x97)]) w1_17) (j_6 (sOf [(10, (s_8 10))]) w1_17))) (PX R)) (PX R))
                (fun s_9 d_9 w1_16 =>
                RD Tryz.prog (bo .add 3 (.tmp 92) (.const (.int .i64 1)) (s_8 11) (.int .i64 1)) w1_16 (fun x93 =>
                rec_2 (sOf [(10, (s_9 10)), (11, x93)]) w1_16) (PX R))) (j_5 (sOf [(10, (s_8 10))]) w1_15)) (PX R)) (
              BS (.bool false) (JS (fun j_8 =>
                RD Tryz.prog (Instr.indexAt 38 x13 (s_8 11)) w1_15 (fun x96_1 =>
                RD Tryz.prog (Instr.loadAt 9 x96_1) w1_15 (fun x97_1 =>
                JS (fun j_9 =>
                  RD Tryz.prog (Builtin.len_ #[9] 3 #[x97_1]) w1_15 (fun x100_1 =>
                  RD Tryz.prog (bo .add 3 (.tmp 98) (.tmp 100) (s_1 6) x100_1) w1_15 (fun x101_1 =>
                  RD Tryz.prog (Builtin.len_ #[9] 3 #[p0]) w1_15 (fun x103_1 =>
                  RD Tryz.prog (bo .leq 3 (.tmp 101) (.tmp 103) x101_1 x103_1) w1_15 (fun x104_1 => BS x104_1 (
                  RD Tryz.prog (Builtin.len_ #[9] 3 #[x97_1]) w1_15 (fun x110_1 =>
                  RD Tryz.prog (bo .add 3 (.tmp 108) (.tmp 110) (s_1 6) x110_1) w1_15 (fun x111_1 =>
                  RD Tryz.prog (Instr.sliceAt 9 p0 (some (s_1 6)) (some x111_1) none) w1_15 (fun x112_1 =>
                  RD Tryz.prog (bo .eql 9 (.tmp 112) (.tmp 113) x112_1 x97_1) w1_15 (fun x114_1 =>
                  j_9 (sOf [(115, x114_1)]) w1_15) (PX R)) (PX R)) (PX R)) (PX R)) (
                  j_9 (sOf [(115, (.bool false))]) w1_15)) (PX R)) (PX R)) (PX R)) (PX R))
                  (fun s_12 d_12 w1_19 =>
                  BS (s_12 115) (j_8 (sOf [(10, x97_1)]) w1_19) (j_8 (sOf [(10, (s_8 10))]) w1_19))) (PX R)) (PX R))
                (fun s_11 d_11 w1_18 =>
                RD Tryz.prog (bo .add 3 (.tmp 92) (.const (.int .i64 1)) (s_8 11) (.int .i64 1)) w1_18 (fun x93_1 =>
                rec_2 (sOf [(10, (s_11 10)), (11, x93_1)]) w1_18) (PX R))) (j_5 (sOf [(10, (s_8 10))]) w1_15))) (PX R)) (PX R))
              (sOf [(10, (s_5 10)), (11, (.int .i64 0))]) w1_12)
            (fun s_7 d_7 w1_14 =>
            RD Tryz.prog (bo .eql 9 (.tmp 117) (.const (.string (bs []))) (s_7 10) (.string (bs []))) w1_14 (fun x118 =>
            BS x118 (R (.returned (.tuple #[(.slice none 0 0), (s_1 6)])) w1_14) (RD Tryz.prog (Instr.build 60 #[(0, (.int .u8 115)), (1, (s_7 10)), (2, (s_1 6))]) w1_14 (fun x123 =>
            WR Tryz.prog (Instr.buildSlice 56 1 #[(0, x123)]) w1_14 (fun x124 w1_20 =>
            WR Tryz.prog (Builtin.append_ #[56, 56] 56 #[(s 4), x124]) w1_20 (fun x125 w1_21 =>
            RD Tryz.prog (Builtin.len_ #[9] 3 #[(s_7 10)]) w1_21 (fun x128 =>
            RD Tryz.prog (bo .add 3 (.tmp 126) (.tmp 128) (s_1 6) x128) w1_21 (fun x129 =>
            rec (sOf [(4, x125), (6, x129)]) w1_21) (PX R)) (PX R)) (PX R)) (PX R)) (PX R))) (PX R))))) (PX R)))) (PX R)) (RD Tryz.prog (Builtin.len_ #[9] 3 #[p0]) w1_1 (fun x132 =>
  RD Tryz.prog (Instr.build 60 #[(0, (.int .u8 101)), (2, x132)]) w1_1 (fun x133 =>
  WR Tryz.prog (Instr.buildSlice 56 1 #[(0, x133)]) w1_1 (fun x134 w1_22 =>
  WR Tryz.prog (Builtin.append_ #[56, 56] 56 #[(s 4), x134]) w1_22 (fun x135 w1_23 =>
  R (.returned (.tuple #[x135, (.int .i64 (-1))])) w1_23) (PX R)) (PX R)) (PX R)) (PX R))) (PX R)) (PX R))
    (sOf [(4, (.slice none 0 0)), (6, (.int .i64 0))]) w1) (PC R)
theorem sh_r_lex_ok {p0 : Value} {w : World} {R : Ending → World → Prop} (h : sh_r_lex p0 w R) : Calls Tryz.prog 30 #[p0] w R :=
  callsEq (args := [p0]) (good (fun n => match n with | 4 => [4, 6] | 9 => [8] | 21 => [10, 11] | _ => []) (fun n => match n with | 6000 => some [26] | 7001 => some [6] | 10001 => some [8] | 18000 => some [83] | 19001 => some [10] | 22005 => some [10] | 24000 => some [115] | 25002 => some [10] | _ => none) (fun _ => 0) (fun _ => none) (fun n => match n with | 4 => [] | 9 => [] | 21 => [] | _ => []) (fun n => match n with | 6000 => [] | 7001 => [] | 10001 => [] | 18000 => [] | 19001 => [] | 22005 => [] | 24000 => [] | 25002 => [] | _ => []) (fun n => match n with | 6000 => true | 7001 => true | 10001 => true | 18000 => true | 19001 => true | 22005 => true | 24000 => true | 25002 => true | _ => false) (fun n => match n with | 17 => true | 25 => true | 26 => true | 39 => true | 40 => true | 45 => true | 54 => true | 81 => true | 82 => true | 83 => true | 90 => true | 91 => true | 114 => true | 115 => true | 118 => true | _ => false)) Tryz.func30 rfl (by kernel_rfl) (by kernel_rfl) (Nat.le_of_ble_eq_true (by kernel_rfl)) [] (by kernel_rfl) h
def sh_r_word (p0 p1 : Value) (w : World) (R : Ending → World → Prop) : Prop :=
  WR Tryz.prog (Instr.alloc 60 true (.tuple #[])) w (fun x4 w1 =>
  RD Tryz.prog (Instr.index 9 p0 (.int .i64 0)) w1 (fun x8 =>
  CA Tryz.prog 62 #[x8] w1 (fun x9 w1_1 =>
  JN (fun j =>
    RD Tryz.prog (bo .eql 5 (.tmp 10) (.const (.int .u8 115)) x9 (.int .u8 115)) w1_1 (fun x11 => BS x11 (
    RD Tryz.prog (Builtin.len_ #[9] 3 #[p0]) w1_1 (fun x14 =>
    RD Tryz.prog (bo .leq 3 (.tmp 14) (.const (.int .i64 8)) x14 (.int .i64 8)) w1_1 (fun x15 =>
    j (sOf [(16, x15)]) w1_1) (PX R)) (PX R)) (
    j (sOf [(16, (.bool false))]) w1_1)) (PX R))
    (fun s d w1_2 =>
    BS (s 16) (RD Tryz.prog (Instr.build 60 #[(0, (.int .u8 97)), (1, p0), (2, p1)]) w1_2 (fun x19 =>
    WU Tryz.prog (Instr.storeAt 60 x4 x19) w1_2 (fun w1_3 =>
    RD Tryz.prog (Instr.loadAt 60 x4) w1_3 (fun r => R (.returned r) w1_3) NX) (PX R)) (PX R)) (JN (fun j_1 =>
    RD Tryz.prog (bo .eql 5 (.tmp 20) (.const (.int .u8 99)) x9 (.int .u8 99)) w1_2 (fun x21 => BS x21 (
    RD Tryz.prog (Builtin.len_ #[9] 3 #[p0]) w1_2 (fun x24 =>
    RD Tryz.prog (bo .leq 3 (.tmp 24) (.const (.int .i64 8)) x24 (.int .i64 8)) w1_2 (fun x25 =>
    j_1 (sOf [(26, x25)]) w1_2) (PX R)) (PX R)) (
    j_1 (sOf [(26, (.bool false))]) w1_2)) (PX R))
    (fun s_1 d_1 w1_4 =>
    BS (s_1 26) (RD Tryz.prog (Instr.build 60 #[(0, (.int .u8 118)), (1, p0), (2, p1)]) w1_4 (fun x29 =>
    WU Tryz.prog (Instr.storeAt 60 x4 x29) w1_4 (fun w1_5 =>
    RD Tryz.prog (Instr.loadAt 60 x4) w1_5 (fun r_1 => R (.returned r_1) w1_5) NX) (PX R)) (PX R)) (JN (fun j_2 =>
    RD Tryz.prog (bo .neq 5 (.tmp 30) (.const (.int .u8 100)) x9 (.int .u8 100)) w1_4 (fun x31 => BS x31 (
    j_2 (sOf [(46, (.bool true))]) w1_4) (
    RD Tryz.prog (Builtin.len_ #[9] 3 #[p0]) w1_4 (fun x34 =>
    RD Tryz.prog (bo .gtr 3 (.tmp 34) (.const (.int .i64 9)) x34 (.int .i64 9)) w1_4 (fun x35 => BS x35 (
    j_2 (sOf [(46, (.bool true))]) w1_4) (
    RD Tryz.prog (Instr.index 9 p0 (.int .i64 0)) w1_4 (fun x39 =>
    RD Tryz.prog (bo .eql 5 (.tmp 39) (.const (.int .u8 48)) x39 (.int .u8 48)) w1_4 (fun x40 => BS x40 (
    RD Tryz.prog (Builtin.len_ #[9] 3 #[p0]) w1_4 (fun x43 =>
    RD Tryz.prog (bo .gtr 3 (.tmp 43) (.const (.int .i64 1)) x43 (.int .i64 1)) w1_4 (fun x44 =>
    j_2 (sOf [(46, x44)]) w1_4) (PX R)) (PX R)) (
    j_2 (sOf [(46, (.bool false))]) w1_4)) (PX R)) (PX R))) (PX R)) (PX R))) (PX R))
    (fun s_2 d_2 w1_6 =>
    BS (s_2 46) (RD Tryz.prog (Instr.build 60 #[]) w1_6 (fun x47 =>
    WU Tryz.prog (Instr.storeAt 60 x4 x47) w1_6 (fun w1_7 =>
    RD Tryz.prog (Instr.loadAt 60 x4) w1_7 (fun r_2 => R (.returned r_2) w1_7) NX) (PX R)) (PX R)) (LoopW (fun rec s_3 d_3 w1_8 =>
    RD Tryz.prog (Builtin.len_ #[9] 3 #[p0]) w1_8 (fun x50 =>
    RD Tryz.prog (bo .lss 3 (.tmp 48) (.tmp 50) (s_3 6) x50) w1_8 (fun x51 =>
    BS x51 (JN (fun j_3 =>
      RD Tryz.prog (Instr.index 9 p0 (s_3 6)) w1_8 (fun x56 =>
      RD Tryz.prog (bo .lss 5 (.tmp 56) (.const (.int .u8 48)) x56 (.int .u8 48)) w1_8 (fun x57 => BS x57 (
      j_3 (sOf [(63, (.bool true))]) w1_8) (
      RD Tryz.prog (Instr.index 9 p0 (s_3 6)) w1_8 (fun x61 =>
      RD Tryz.prog (bo .gtr 5 (.tmp 61) (.const (.int .u8 57)) x61 (.int .u8 57)) w1_8 (fun x62 =>
      j_3 (sOf [(63, x62)]) w1_8) (PX R)) (PX R))) (PX R)) (PX R))
      (fun s_4 d_4 w1_9 =>
      BS (s_4 63) (RD Tryz.prog (Instr.build 60 #[]) w1_9 (fun x64 =>
      WU Tryz.prog (Instr.storeAt 60 x4 x64) w1_9 (fun w1_10 =>
      RD Tryz.prog (Instr.loadAt 60 x4) w1_10 (fun r_3 => R (.returned r_3) w1_10) NX) (PX R)) (PX R)) (RD Tryz.prog (bo .add 3 (.tmp 52) (.const (.int .i64 1)) (s_3 6) (.int .i64 1)) w1_9 (fun x53 =>
    rec (sOf [(6, x53)]) w1_9) (PX R)))) (RD Tryz.prog (Instr.build 60 #[(0, (.int .u8 110)), (1, p0), (2, p1)]) w1_8 (fun x67 =>
  WU Tryz.prog (Instr.storeAt 60 x4 x67) w1_8 (fun w1_11 =>
  RD Tryz.prog (Instr.loadAt 60 x4) w1_11 (fun r_4 => R (.returned r_4) w1_11) NX) (PX R)) (PX R))) (PX R)) (PX R))
    (sOf [(6, (.int .i64 0))]) w1_6))))))) (PC R)) (PX R)) (PX R)
theorem sh_r_word_ok {p0 p1 : Value} {w : World} {R : Ending → World → Prop} (h : sh_r_word p0 p1 w R) : Calls Tryz.prog 63 #[p0, p1] w R :=
  callsEq (args := [p0, p1]) (good (fun n => match n with | 9 => [6] | _ => []) (fun n => match n with | 2000 => some [16] | 4000 => some [26] | 6000 => some [46] | 11000 => some [63] | _ => none) (fun _ => 0) (fun _ => none) (fun n => match n with | 9 => [] | _ => []) (fun n => match n with | 2000 => [] | 4000 => [] | 6000 => [] | 11000 => [] | _ => []) (fun _ => false) (fun n => match n with | 15 => true | 16 => true | 25 => true | 26 => true | 44 => true | 45 => true | 46 => true | 51 => true | 62 => true | 63 => true | _ => false)) Tryz.func63 rfl (by kernel_rfl) (by kernel_rfl) (Nat.le_of_ble_eq_true (by kernel_rfl)) [] (by kernel_rfl) h
def sh_r_class (p0 : Value) (w : World) (R : Ending → World → Prop) : Prop :=
  JN (fun j =>
    RD Tryz.prog (bo .geq 5 (.tmp 3) (.const (.int .u8 97)) p0 (.int .u8 97)) w (fun x4 => BS x4 (
    RD Tryz.prog (bo .leq 5 (.tmp 6) (.const (.int .u8 122)) p0 (.int .u8 122)) w (fun x7 =>
    j (sOf [(8, x7)]) w) (PX R)) (
    j (sOf [(8, (.bool false))]) w)) (PX R))
    (fun s d w1 =>
    BS (s 8) (R (.returned (.int .u8 115)) w1) (JN (fun j_1 =>
    RD Tryz.prog (bo .geq 5 (.tmp 9) (.const (.int .u8 65)) p0 (.int .u8 65)) w1 (fun x10 => BS x10 (
    RD Tryz.prog (bo .leq 5 (.tmp 12) (.const (.int .u8 90)) p0 (.int .u8 90)) w1 (fun x13 => BS x13 (
    j_1 (sOf [(18, (.bool true))]) w1) (
    RD Tryz.prog (bo .eql 5 (.tmp 16) (.const (.int .u8 95)) p0 (.int .u8 95)) w1 (fun x17 =>
    j_1 (sOf [(18, x17)]) w1) (PX R))) (PX R)) (
    RD Tryz.prog (bo .eql 5 (.tmp 16) (.const (.int .u8 95)) p0 (.int .u8 95)) w1 (fun x17_1 =>
    j_1 (sOf [(18, x17_1)]) w1) (PX R))) (PX R))
    (fun s_1 d_1 w1_1 =>
    BS (s_1 18) (R (.returned (.int .u8 99)) w1_1) (JN (fun j_2 =>
    RD Tryz.prog (bo .geq 5 (.tmp 19) (.const (.int .u8 48)) p0 (.int .u8 48)) w1_1 (fun x20 => BS x20 (
    RD Tryz.prog (bo .leq 5 (.tmp 22) (.const (.int .u8 57)) p0 (.int .u8 57)) w1_1 (fun x23 =>
    j_2 (sOf [(24, x23)]) w1_1) (PX R)) (
    j_2 (sOf [(24, (.bool false))]) w1_1)) (PX R))
    (fun s_2 d_2 w1_2 =>
    BS (s_2 24) (R (.returned (.int .u8 100)) w1_2) (R (.returned (.int .u8 0)) w1_2))))))
theorem sh_r_class_ok {p0 : Value} {w : World} {R : Ending → World → Prop} (h : sh_r_class p0 w R) : Calls Tryz.prog 62 #[p0] w R :=
  callsEq (args := [p0]) (good (fun _ => []) (fun n => match n with | 1000 => some [8] | 3000 => some [18] | 5000 => some [24] | _ => none) (fun _ => 0) (fun _ => none) (fun _ => []) (fun n => match n with | 1000 => [] | 3000 => [] | 5000 => [] | _ => []) (fun _ => false) (fun n => match n with | 7 => true | 8 => true | 17 => true | 18 => true | 23 => true | 24 => true | _ => false)) Tryz.func62 rfl (by kernel_rfl) (by kernel_rfl) (Nat.le_of_ble_eq_true (by kernel_rfl)) [] (by kernel_rfl) h
def sh_r_signs (w : World) (R : Ending → World → Prop) : Prop :=
  WR Tryz.prog (Instr.buildSlice 38 23 #[(0, (.string (bs [61, 58, 61]))), (1, (.string (bs [58, 45]))), (2, (.string (bs [45, 62]))), (3, (.string (bs [92, 43]))), (4, (.string (bs [92, 61]))), (5, (.string (bs [61, 61]))), (6, (.string (bs [61, 60]))), (7, (.string (bs [62, 61]))), (8, (.string (bs [47, 47]))), (9, (.string (bs [40]))), (10, (.string (bs [41]))), (11, (.string (bs [91]))), (12, (.string (bs [93]))), (13, (.string (bs [44]))), (14, (.string (bs [124]))), (15, (.string (bs [59]))), (16, (.string (bs [33]))), (17, (.string (bs [61]))), (18, (.string (bs [60]))), (19, (.string (bs [62]))), (20, (.string (bs [43]))), (21, (.string (bs [45]))), (22, (.string (bs [42])))]) w (fun x1 w1 =>
  R (.returned x1) w1) (PX R)
theorem sh_r_signs_ok {w : World} {R : Ending → World → Prop} (h : sh_r_signs  w R) : Calls Tryz.prog 61 #[] w R :=
  callsEq (args := []) (good (fun _ => []) (fun _ => none) (fun _ => 0) (fun _ => none) (fun _ => []) (fun _ => []) (fun _ => false) (fun _ => false)) Tryz.func61 rfl (by kernel_rfl) (by kernel_rfl) (Nat.le_of_ble_eq_true (by kernel_rfl)) [] (by kernel_rfl) h
end Go.Proofs.YtkmpelgfhjgddaaGreatDoor
namespace Go.Proofs.YtkmpelgfhjgddaaGreatDoor
open Go.RowKit Sx
set_option maxRecDepth 100000
theorem rClass (c : UInt8) (w : World) : Calls Tryz.prog 62 #[.int .u8 c.toNat] w fun e w' => e = .returned (.int .u8 (P.cls c)) ∧ w' = w := by
  have hc := c.toNat_lt
  unfold P.cls
  generalize c.toNat = q at *
  by_cases h1 : 97 ≤ q
  · by_cases h2 : q ≤ 122
    · rw [if_pos ⟨h1, h2⟩]
      refine sh_r_class_ok ?_
      simp (disch := first | assumption | omega | ((simp only [size_alloc, sz_drew, size_upd, List.size_toArray, List.length_cons, List.length_nil]) <;> omega) | decide) only [sh_r_class, Pr, PX, PC, NX, ends, fillL, wrL, sOf, Nat.reduceAdd, Nat.reduceMul, Nat.reduceLeDiff, Nat.reduceEqDiff, Int.reduceToNat, Int.reduceAdd, Int.reduceLT, Int.reduceLE, ↓reduceIte, forall_const, eq_self, zG1, zG2]
      rfl
    · rw [if_neg (by omega), if_neg (by omega), if_neg (by omega)]
      refine sh_r_class_ok ?_
      simp (disch := first | assumption | omega | ((simp only [size_alloc, sz_drew, size_upd, List.size_toArray, List.length_cons, List.length_nil]) <;> omega) | decide) only [sh_r_class, Pr, PX, PC, NX, ends, fillL, wrL, sOf, Nat.reduceAdd, Nat.reduceMul, Nat.reduceLeDiff, Nat.reduceEqDiff, Int.reduceToNat, Int.reduceAdd, Int.reduceLT, Int.reduceLE, ↓reduceIte, forall_const, eq_self, zG1, zG2]
      rfl
  · rw [if_neg (by omega)]
    by_cases h3 : 65 ≤ q ∧ q ≤ 90
    · rw [if_pos (.inl h3)]
      obtain ⟨h3, h4⟩ := h3
      refine sh_r_class_ok ?_
      simp (disch := first | assumption | omega | ((simp only [size_alloc, sz_drew, size_upd, List.size_toArray, List.length_cons, List.length_nil]) <;> omega) | decide) only [sh_r_class, Pr, PX, PC, NX, ends, fillL, wrL, sOf, Nat.reduceAdd, Nat.reduceMul, Nat.reduceLeDiff, Nat.reduceEqDiff, Int.reduceToNat, Int.reduceAdd, Int.reduceLT, Int.reduceLE, ↓reduceIte, forall_const, eq_self, zG1, zG2]
      rfl
    · by_cases h5 : q = 95
      · subst h5
        rw [if_pos (.inr rfl)]
        refine sh_r_class_ok ?_
        simp (disch := first | assumption | omega | ((simp only [size_alloc, sz_drew, size_upd, List.size_toArray, List.length_cons, List.length_nil]) <;> omega) | decide) only [sh_r_class, Pr, PX, PC, NX, ends, fillL, wrL, sOf, Nat.reduceAdd, Nat.reduceMul, Nat.reduceLeDiff, Nat.reduceEqDiff, Int.reduceToNat, Int.reduceAdd, Int.reduceLT, Int.reduceLE, ↓reduceIte, forall_const, eq_self, zG1, zG2]
        rfl
      · rw [if_neg (by omega)]
        by_cases h6 : 65 ≤ q
        · rw [if_neg (by omega)]
          refine sh_r_class_ok ?_
          simp (disch := first | assumption | omega | ((simp only [size_alloc, sz_drew, size_upd, List.size_toArray, List.length_cons, List.length_nil]) <;> omega) | decide) only [sh_r_class, Pr, PX, PC, NX, ends, fillL, wrL, sOf, Nat.reduceAdd, Nat.reduceMul, Nat.reduceLeDiff, Nat.reduceEqDiff, Int.reduceToNat, Int.reduceAdd, Int.reduceLT, Int.reduceLE, ↓reduceIte, forall_const, eq_self, zG1, zG2]
          rfl
        · by_cases h7 : 48 ≤ q
          · by_cases h8 : q ≤ 57
            · rw [if_pos ⟨h7, h8⟩]
              refine sh_r_class_ok ?_
              simp (disch := first | assumption | omega | ((simp only [size_alloc, sz_drew, size_upd, List.size_toArray, List.length_cons, List.length_nil]) <;> omega) | decide) only [sh_r_class, Pr, PX, PC, NX, ends, fillL, wrL, sOf, Nat.reduceAdd, Nat.reduceMul, Nat.reduceLeDiff, Nat.reduceEqDiff, Int.reduceToNat, Int.reduceAdd, Int.reduceLT, Int.reduceLE, ↓reduceIte, forall_const, eq_self, zG1, zG2]
              rfl
            · rw [if_neg (by omega)]
              refine sh_r_class_ok ?_
              simp (disch := first | assumption | omega | ((simp only [size_alloc, sz_drew, size_upd, List.size_toArray, List.length_cons, List.length_nil]) <;> omega) | decide) only [sh_r_class, Pr, PX, PC, NX, ends, fillL, wrL, sOf, Nat.reduceAdd, Nat.reduceMul, Nat.reduceLeDiff, Nat.reduceEqDiff, Int.reduceToNat, Int.reduceAdd, Int.reduceLT, Int.reduceLE, ↓reduceIte, forall_const, eq_self, zG1, zG2]
              rfl
          · rw [if_neg (by omega)]
            refine sh_r_class_ok ?_
            simp (disch := first | assumption | omega | ((simp only [size_alloc, sz_drew, size_upd, List.size_toArray, List.length_cons, List.length_nil]) <;> omega) | decide) only [sh_r_class, Pr, PX, PC, NX, ends, fillL, wrL, sOf, Nat.reduceAdd, Nat.reduceMul, Nat.reduceLeDiff, Nat.reduceEqDiff, Int.reduceToNat, Int.reduceAdd, Int.reduceLT, Int.reduceLE, ↓reduceIte, forall_const, eq_self, zG1, zG2]
            rfl
theorem rSigns (w : World) : Calls Tryz.prog 61 #[] w fun e w' => e = .returned (.slice (some ⟨w.heap.size, 0, none⟩) 23 23) ∧ w' = w.alloc (.cells (P.signs.map fun s => .string (bs s)).toArray 9) := by
  refine sh_r_signs_ok ?_
  simp (disch := first | assumption | omega | ((simp only [size_alloc, sz_drew, size_upd, List.size_toArray, List.length_cons, List.length_nil]) <;> omega) | decide) only [sh_r_signs, Pr, PX, PC, NX, ends, fillL, wrL, sOf, Nat.reduceAdd, Nat.reduceMul, Nat.reduceLeDiff, Nat.reduceEqDiff, Int.reduceToNat, Int.reduceAdd, Int.reduceLT, Int.reduceLE, ↓reduceIte, forall_const, eq_self, zG1, zG2, br_38_23]
  rfl
end Go.Proofs.YtkmpelgfhjgddaaGreatDoor
namespace Go.Proofs.YtkmpelgfhjgddaaGreatDoor
open Go.RowKit Sx
set_option maxRecDepth 100000
def wordV (s : P.Bs) (at_ : Nat) : Value := if P.wordKind s = 0 then .agg #[.int .u8 0, .string (bs []), .int .i64 0] else .agg #[.int .u8 (rk (P.wordKind s)), .string (bs s), .int .i64 at_]
theorem rWord (c : UInt8) (r : P.Bs) (hl : (c :: r).length ≤ 100000) (at_ : Nat) (w : World) :
    Calls Tryz.prog 63 #[.string (bs (c :: r)), .int .i64 at_] w fun e w' => e = .returned (wordV (c :: r) at_) ∧ Ext w w' := by
  have hf0 : Ext w (w.alloc (.cells #[.int .u8 0, .string (bs []), .int .i64 0] 60)) := by (repeat (first | assumption | exact FrM.refl _ _ | (refine FrM.upd ?_ (.inr (by (try simp only [size_alloc, sz_drew, size_upd, List.size_toArray, List.length_cons, List.length_nil]) <;> omega))) | refine FrM.alloc ?_ _ | refine FrM.drew ?_))
  have hg0 : (c :: r).getD 0 0 = c := rfl
  have hn : 0 < (c :: r).length := by simp
  have hln : (c :: r).length = r.length + 1 := rfl
  have hr0 : r = [] ↔ ¬ (1 < (c :: r).length) := by cases r <;> simp
  have hc := c.toNat_lt
  have h48 : c = 48 ↔ c.toNat = 48 := by rw [← UInt8.toNat_inj]; rfl
  have hwk : P.wordKind (c :: r) = if P.cls c = 115 then (if (c :: r).length ≤ 8 then 1 else 0) else if P.cls c = 99 then (if (c :: r).length ≤ 8 then 2 else 0)
    else if (c :: r).length ≤ 9 ∧ (c :: r).all P.digit = true ∧ (c ≠ 48 ∨ r = []) then 3 else 0 := rfl
  obtain ⟨s, hs⟩ : ∃ s, s = c :: r := ⟨_, rfl⟩
  rw [← hs] at hl hg0 hn hln hr0 hwk ⊢
  unfold wordV
  rw [hwk]
  by_cases h1 : P.cls c = 115
  · rw [if_pos h1]
    by_cases h8 : s.length ≤ 8
    · rw [if_pos h8, if_neg (by decide)]
      refine sh_r_word_ok ?_
      simp (disch := first | assumption | omega | ((simp only [size_alloc, sz_drew, size_upd, List.size_toArray, List.length_cons, List.length_nil]) <;> omega) | decide) only [sh_r_word, Pr, PX, PC, NX, ends, fillL, wrL, sOf, Nat.reduceAdd, Nat.reduceMul, Nat.reduceLeDiff, Nat.reduceEqDiff, Int.reduceToNat, Int.reduceAdd, Int.reduceLT, Int.reduceLE, ↓reduceIte, forall_const, eq_self, zG1, zG2, al_60, bd_60, ch_9, ld_60, ln_9, st_60, hg0]
      refine (rClass c _).mono ?_
      rintro e w1 ⟨rfl, rfl⟩
      rw [h1]
      simp (disch := first | assumption | omega | ((simp only [size_alloc, sz_drew, size_upd, List.size_toArray, List.length_cons, List.length_nil]) <;> omega) | decide) only [sh_r_word, Pr, PX, PC, NX, ends, fillL, wrL, sOf, Nat.reduceAdd, Nat.reduceMul, Nat.reduceLeDiff, Nat.reduceEqDiff, Int.reduceToNat, Int.reduceAdd, Int.reduceLT, Int.reduceLE, ↓reduceIte, forall_const, eq_self, zG1, zG2, al_60, bd_60, ch_9, ld_60, ln_9, st_60]
      refine ⟨rfl, ?_⟩
      (repeat (first | assumption | exact FrM.refl _ _ | (refine FrM.upd ?_ (.inr (by (try simp only [size_alloc, sz_drew, size_upd, List.size_toArray, List.length_cons, List.length_nil]) <;> omega))) | refine FrM.alloc ?_ _ | refine FrM.drew ?_))
    · rw [if_neg h8, if_pos rfl]
      refine sh_r_word_ok ?_
      simp (disch := first | assumption | omega | ((simp only [size_alloc, sz_drew, size_upd, List.size_toArray, List.length_cons, List.length_nil]) <;> omega) | decide) only [sh_r_word, Pr, PX, PC, NX, ends, fillL, wrL, sOf, Nat.reduceAdd, Nat.reduceMul, Nat.reduceLeDiff, Nat.reduceEqDiff, Int.reduceToNat, Int.reduceAdd, Int.reduceLT, Int.reduceLE, ↓reduceIte, forall_const, eq_self, zG1, zG2, al_60, bd_60, ch_9, ld_60, ln_9, st_60, hg0]
      refine (rClass c _).mono ?_
      rintro e w1 ⟨rfl, rfl⟩
      rw [h1]
      simp (disch := first | assumption | omega | ((simp only [size_alloc, sz_drew, size_upd, List.size_toArray, List.length_cons, List.length_nil]) <;> omega) | decide) only [sh_r_word, Pr, PX, PC, NX, ends, fillL, wrL, sOf, Nat.reduceAdd, Nat.reduceMul, Nat.reduceLeDiff, Nat.reduceEqDiff, Int.reduceToNat, Int.reduceAdd, Int.reduceLT, Int.reduceLE, ↓reduceIte, forall_const, eq_self, zG1, zG2, al_60, bd_60, ch_9, ld_60, ln_9, st_60]
      (repeat (first | assumption | exact FrM.refl _ _ | (refine FrM.upd ?_ (.inr (by (try simp only [size_alloc, sz_drew, size_upd, List.size_toArray, List.length_cons, List.length_nil]) <;> omega))) | refine FrM.alloc ?_ _ | refine FrM.drew ?_))
  rw [if_neg h1]
  by_cases h2 : P.cls c = 99
  · rw [if_pos h2]
    by_cases h8 : s.length ≤ 8
    · rw [if_pos h8, if_neg (by decide)]
      refine sh_r_word_ok ?_
      simp (disch := first | assumption | omega | ((simp only [size_alloc, sz_drew, size_upd, List.size_toArray, List.length_cons, List.length_nil]) <;> omega) | decide) only [sh_r_word, Pr, PX, PC, NX, ends, fillL, wrL, sOf, Nat.reduceAdd, Nat.reduceMul, Nat.reduceLeDiff, Nat.reduceEqDiff, Int.reduceToNat, Int.reduceAdd, Int.reduceLT, Int.reduceLE, ↓reduceIte, forall_const, eq_self, zG1, zG2, al_60, bd_60, ch_9, ld_60, ln_9, st_60, hg0]
      refine (rClass c _).mono ?_
      rintro e w1 ⟨rfl, rfl⟩
      rw [h2]
      simp (disch := first | assumption | omega | ((simp only [size_alloc, sz_drew, size_upd, List.size_toArray, List.length_cons, List.length_nil]) <;> omega) | decide) only [sh_r_word, Pr, PX, PC, NX, ends, fillL, wrL, sOf, Nat.reduceAdd, Nat.reduceMul, Nat.reduceLeDiff, Nat.reduceEqDiff, Int.reduceToNat, Int.reduceAdd, Int.reduceLT, Int.reduceLE, ↓reduceIte, forall_const, eq_self, zG1, zG2, al_60, bd_60, ch_9, ld_60, ln_9, st_60]
      refine ⟨rfl, ?_⟩
      (repeat (first | assumption | exact FrM.refl _ _ | (refine FrM.upd ?_ (.inr (by (try simp only [size_alloc, sz_drew, size_upd, List.size_toArray, List.length_cons, List.length_nil]) <;> omega))) | refine FrM.alloc ?_ _ | refine FrM.drew ?_))
    · rw [if_neg h8, if_pos rfl]
      refine sh_r_word_ok ?_
      simp (disch := first | assumption | omega | ((simp only [size_alloc, sz_drew, size_upd, List.size_toArray, List.length_cons, List.length_nil]) <;> omega) | decide) only [sh_r_word, Pr, PX, PC, NX, ends, fillL, wrL, sOf, Nat.reduceAdd, Nat.reduceMul, Nat.reduceLeDiff, Nat.reduceEqDiff, Int.reduceToNat, Int.reduceAdd, Int.reduceLT, Int.reduceLE, ↓reduceIte, forall_const, eq_self, zG1, zG2, al_60, bd_60, ch_9, ld_60, ln_9, st_60, hg0]
      refine (rClass c _).mono ?_
      rintro e w1 ⟨rfl, rfl⟩
      rw [h2]
      simp (disch := first | assumption | omega | ((simp only [size_alloc, sz_drew, size_upd, List.size_toArray, List.length_cons, List.length_nil]) <;> omega) | decide) only [sh_r_word, Pr, PX, PC, NX, ends, fillL, wrL, sOf, Nat.reduceAdd, Nat.reduceMul, Nat.reduceLeDiff, Nat.reduceEqDiff, Int.reduceToNat, Int.reduceAdd, Int.reduceLT, Int.reduceLE, ↓reduceIte, forall_const, eq_self, zG1, zG2, al_60, bd_60, ch_9, ld_60, ln_9, st_60]
      (repeat (first | assumption | exact FrM.refl _ _ | (refine FrM.upd ?_ (.inr (by (try simp only [size_alloc, sz_drew, size_upd, List.size_toArray, List.length_cons, List.length_nil]) <;> omega))) | refine FrM.alloc ?_ _ | refine FrM.drew ?_))
  rw [if_neg h2]
  have hdig : s.all P.digit = true → P.cls c = 100 := fun h => by
    rw [hs, List.all_cons, Bool.and_eq_true] at h
    have := h.1
    simp only [P.digit, decide_eq_true_eq] at this
    unfold P.cls
    rw [if_neg (by omega), if_neg (by omega), if_pos this]
  by_cases h3 : P.cls c = 100
  · by_cases h9 : s.length ≤ 9
    · by_cases hz : c.toNat = 48 ∧ 1 < s.length
      · have hb : ¬ (s.length ≤ 9 ∧ s.all P.digit = true ∧ (c ≠ 48 ∨ r = [])) := fun h => h.2.2.elim (fun e => e (h48.2 hz.1)) (fun e => hr0.1 e hz.2)
        rw [if_neg hb, if_pos (show (0 : Nat) = 0 from rfl)]
        obtain ⟨hz1, hz2⟩ := hz
        refine sh_r_word_ok ?_
        simp (disch := first | assumption | omega | ((simp only [size_alloc, sz_drew, size_upd, List.size_toArray, List.length_cons, List.length_nil]) <;> omega) | decide) only [sh_r_word, Pr, PX, PC, NX, ends, fillL, wrL, sOf, Nat.reduceAdd, Nat.reduceMul, Nat.reduceLeDiff, Nat.reduceEqDiff, Int.reduceToNat, Int.reduceAdd, Int.reduceLT, Int.reduceLE, ↓reduceIte, forall_const, eq_self, zG1, zG2, al_60, bd_60, ch_9, ld_60, ln_9, st_60, hg0]
        refine (rClass c _).mono ?_
        rintro e w1 ⟨rfl, rfl⟩
        rw [h3]
        simp (disch := first | assumption | omega | ((simp only [size_alloc, sz_drew, size_upd, List.size_toArray, List.length_cons, List.length_nil]) <;> omega) | decide) only [sh_r_word, Pr, PX, PC, NX, ends, fillL, wrL, sOf, Nat.reduceAdd, Nat.reduceMul, Nat.reduceLeDiff, Nat.reduceEqDiff, Int.reduceToNat, Int.reduceAdd, Int.reduceLT, Int.reduceLE, ↓reduceIte, forall_const, eq_self, zG1, zG2, al_60, bd_60, ch_9, ld_60, ln_9, st_60, hg0, hz1]
        (repeat (first | assumption | exact FrM.refl _ _ | (refine FrM.upd ?_ (.inr (by (try simp only [size_alloc, sz_drew, size_upd, List.size_toArray, List.length_cons, List.length_nil]) <;> omega))) | refine FrM.alloc ?_ _ | refine FrM.drew ?_))
      · have hz' : ¬ c.toNat = 48 ∨ ¬ 1 < s.length := by omega
        refine sh_r_word_ok ?_
        simp (disch := first | assumption | omega | ((simp only [size_alloc, sz_drew, size_upd, List.size_toArray, List.length_cons, List.length_nil]) <;> omega) | decide) only [sh_r_word, Pr, PX, PC, NX, ends, fillL, wrL, sOf, Nat.reduceAdd, Nat.reduceMul, Nat.reduceLeDiff, Nat.reduceEqDiff, Int.reduceToNat, Int.reduceAdd, Int.reduceLT, Int.reduceLE, ↓reduceIte, forall_const, eq_self, zG1, zG2, al_60, bd_60, ch_9, ld_60, ln_9, st_60, hg0]
        refine (rClass c _).mono ?_
        rintro e w1 ⟨rfl, rfl⟩
        rw [h3]
        have hcr : c ≠ 48 ∨ r = [] := hz'.elim (fun h => .inl fun e => h (h48.1 e)) (fun h => .inr (hr0.2 h))
        rcases Decidable.em (c.toNat = 48) with h0 | h0
        all_goals
          first
            | (have hz2 := hz'.resolve_left (fun h => h h0); simp (disch := first | assumption | omega | ((simp only [size_alloc, sz_drew, size_upd, List.size_toArray, List.length_cons, List.length_nil]) <;> omega) | decide) only [sh_r_word, Pr, PX, PC, NX, ends, fillL, wrL, sOf, Nat.reduceAdd, Nat.reduceMul, Nat.reduceLeDiff, Nat.reduceEqDiff, Int.reduceToNat, Int.reduceAdd, Int.reduceLT, Int.reduceLE, ↓reduceIte, forall_const, eq_self, zG1, zG2, al_60, bd_60, ch_9, ld_60, ln_9, st_60, hg0, h0])
            | simp (disch := first | assumption | omega | ((simp only [size_alloc, sz_drew, size_upd, List.size_toArray, List.length_cons, List.length_nil]) <;> omega) | decide) only [sh_r_word, Pr, PX, PC, NX, ends, fillL, wrL, sOf, Nat.reduceAdd, Nat.reduceMul, Nat.reduceLeDiff, Nat.reduceEqDiff, Int.reduceToNat, Int.reduceAdd, Int.reduceLT, Int.reduceLE, ↓reduceIte, forall_const, eq_self, zG1, zG2, al_60, bd_60, ch_9, ld_60, ln_9, st_60, hg0]
          refine ⟨fun n t w1 => ∃ j : Nat, j ≤ s.length ∧ n = s.length - j ∧ t 6 = .int .i64 j ∧ w1 = w.alloc (.cells #[.int .u8 0, .string (bs []), .int .i64 0] 60) ∧ ∀ i, i < j → P.digit (s.getD i 0) = true, ⟨s.length, 0, Nat.zero_le _, rfl, rfl, rfl, fun i hi => absurd hi (Nat.not_lt_zero _)⟩, ?_⟩
          intro n t dd w1 hI
          refine toPr ?_
          obtain ⟨j, hj, rfl, h6, rfl, hall⟩ := hI
          by_cases hlt : j < s.length
          · by_cases hd : P.digit (s.getD j 0) = true
            · have hd' := hd
              simp only [P.digit, decide_eq_true_eq] at hd'
              obtain ⟨hd1, hd2⟩ := hd'
              simp (disch := first | assumption | omega | ((simp only [size_alloc, sz_drew, size_upd, List.size_toArray, List.length_cons, List.length_nil]) <;> omega) | decide) only [sh_r_word, Pr, PX, PC, NX, ends, fillL, wrL, sOf, Nat.reduceAdd, Nat.reduceMul, Nat.reduceLeDiff, Nat.reduceEqDiff, Int.reduceToNat, Int.reduceAdd, Int.reduceLT, Int.reduceLE, ↓reduceIte, forall_const, eq_self, zG1, zG2, al_60, bd_60, ch_9, ld_60, ln_9, st_60, h6]
              refine ⟨s.length - (j + 1), by omega, j + 1, by omega, rfl, rfl, fun i hi => ?_⟩
              rcases Nat.lt_or_ge i j with h | h
              · exact hall i h
              · obtain rfl : i = j := by omega
                exact hd
            · have hb : ¬ (s.length ≤ 9 ∧ s.all P.digit = true ∧ (c ≠ 48 ∨ r = [])) := fun h => hd (by
                have := List.all_eq_true.1 h.2.1 _ (List.getElem_mem hlt)
                simpa [List.getD, hlt] using this)
              rw [if_neg hb, if_pos (show (0 : Nat) = 0 from rfl)]
              simp only [P.digit, decide_eq_true_eq] at hd
              have hcl := (s.getD j 0).toNat_lt
              by_cases hlo : (s.getD j 0).toNat < 48
              · simp (disch := first | assumption | omega | ((simp only [size_alloc, sz_drew, size_upd, List.size_toArray, List.length_cons, List.length_nil]) <;> omega) | decide) only [sh_r_word, Pr, PX, PC, NX, ends, fillL, wrL, sOf, Nat.reduceAdd, Nat.reduceMul, Nat.reduceLeDiff, Nat.reduceEqDiff, Int.reduceToNat, Int.reduceAdd, Int.reduceLT, Int.reduceLE, ↓reduceIte, forall_const, eq_self, zG1, zG2, al_60, bd_60, ch_9, ld_60, ln_9, st_60, h6]
                (repeat (first | assumption | exact FrM.refl _ _ | (refine FrM.upd ?_ (.inr (by (try simp only [size_alloc, sz_drew, size_upd, List.size_toArray, List.length_cons, List.length_nil]) <;> omega))) | refine FrM.alloc ?_ _ | refine FrM.drew ?_))
              · simp (disch := first | assumption | omega | ((simp only [size_alloc, sz_drew, size_upd, List.size_toArray, List.length_cons, List.length_nil]) <;> omega) | decide) only [sh_r_word, Pr, PX, PC, NX, ends, fillL, wrL, sOf, Nat.reduceAdd, Nat.reduceMul, Nat.reduceLeDiff, Nat.reduceEqDiff, Int.reduceToNat, Int.reduceAdd, Int.reduceLT, Int.reduceLE, ↓reduceIte, forall_const, eq_self, zG1, zG2, al_60, bd_60, ch_9, ld_60, ln_9, st_60, h6]
                (repeat (first | assumption | exact FrM.refl _ _ | (refine FrM.upd ?_ (.inr (by (try simp only [size_alloc, sz_drew, size_upd, List.size_toArray, List.length_cons, List.length_nil]) <;> omega))) | refine FrM.alloc ?_ _ | refine FrM.drew ?_))
          · have hb : s.length ≤ 9 ∧ s.all P.digit = true ∧ (c ≠ 48 ∨ r = []) := ⟨h9, by
              rw [List.all_eq_true]
              intro x hx
              obtain ⟨i, hi, e⟩ := List.getElem_of_mem hx
              have := hall i (by omega)
              rw [← e]
              simpa [List.getD, hi] using this, hcr⟩
            rw [if_pos hb, if_neg (show ¬ (3 : Nat) = 0 by decide)]
            simp (disch := first | assumption | omega | ((simp only [size_alloc, sz_drew, size_upd, List.size_toArray, List.length_cons, List.length_nil]) <;> omega) | decide) only [sh_r_word, Pr, PX, PC, NX, ends, fillL, wrL, sOf, Nat.reduceAdd, Nat.reduceMul, Nat.reduceLeDiff, Nat.reduceEqDiff, Int.reduceToNat, Int.reduceAdd, Int.reduceLT, Int.reduceLE, ↓reduceIte, forall_const, eq_self, zG1, zG2, al_60, bd_60, ch_9, ld_60, ln_9, st_60, h6]
            refine ⟨rfl, ?_⟩
            (repeat (first | assumption | exact FrM.refl _ _ | (refine FrM.upd ?_ (.inr (by (try simp only [size_alloc, sz_drew, size_upd, List.size_toArray, List.length_cons, List.length_nil]) <;> omega))) | refine FrM.alloc ?_ _ | refine FrM.drew ?_))
    · have hb : ¬ (s.length ≤ 9 ∧ s.all P.digit = true ∧ (c ≠ 48 ∨ r = [])) := fun h => h9 h.1
      rw [if_neg hb, if_pos (show (0 : Nat) = 0 from rfl)]
      refine sh_r_word_ok ?_
      simp (disch := first | assumption | omega | ((simp only [size_alloc, sz_drew, size_upd, List.size_toArray, List.length_cons, List.length_nil]) <;> omega) | decide) only [sh_r_word, Pr, PX, PC, NX, ends, fillL, wrL, sOf, Nat.reduceAdd, Nat.reduceMul, Nat.reduceLeDiff, Nat.reduceEqDiff, Int.reduceToNat, Int.reduceAdd, Int.reduceLT, Int.reduceLE, ↓reduceIte, forall_const, eq_self, zG1, zG2, al_60, bd_60, ch_9, ld_60, ln_9, st_60, hg0]
      refine (rClass c _).mono ?_
      rintro e w1 ⟨rfl, rfl⟩
      rw [h3]
      simp (disch := first | assumption | omega | ((simp only [size_alloc, sz_drew, size_upd, List.size_toArray, List.length_cons, List.length_nil]) <;> omega) | decide) only [sh_r_word, Pr, PX, PC, NX, ends, fillL, wrL, sOf, Nat.reduceAdd, Nat.reduceMul, Nat.reduceLeDiff, Nat.reduceEqDiff, Int.reduceToNat, Int.reduceAdd, Int.reduceLT, Int.reduceLE, ↓reduceIte, forall_const, eq_self, zG1, zG2, al_60, bd_60, ch_9, ld_60, ln_9, st_60]
      (repeat (first | assumption | exact FrM.refl _ _ | (refine FrM.upd ?_ (.inr (by (try simp only [size_alloc, sz_drew, size_upd, List.size_toArray, List.length_cons, List.length_nil]) <;> omega))) | refine FrM.alloc ?_ _ | refine FrM.drew ?_))
  · have hz : ¬ (s.length ≤ 9 ∧ s.all P.digit = true ∧ (c ≠ 48 ∨ r = [])) := fun h => h3 (hdig h.2.1)
    rw [if_neg hz, if_pos rfl]
    have q1 : ¬ (P.cls c : Int) = 115 := by omega
    have q2 : ¬ (P.cls c : Int) = 99 := by omega
    have q3 : ¬ (P.cls c : Int) = 100 := by omega
    refine sh_r_word_ok ?_
    simp (disch := first | assumption | omega | ((simp only [size_alloc, sz_drew, size_upd, List.size_toArray, List.length_cons, List.length_nil]) <;> omega) | decide) only [sh_r_word, Pr, PX, PC, NX, ends, fillL, wrL, sOf, Nat.reduceAdd, Nat.reduceMul, Nat.reduceLeDiff, Nat.reduceEqDiff, Int.reduceToNat, Int.reduceAdd, Int.reduceLT, Int.reduceLE, ↓reduceIte, forall_const, eq_self, zG1, zG2, al_60, bd_60, ch_9, ld_60, ln_9, st_60, hg0]
    refine (rClass c _).mono ?_
    rintro e w1 ⟨rfl, rfl⟩
    generalize P.cls c = q at *
    simp (disch := first | assumption | omega | ((simp only [size_alloc, sz_drew, size_upd, List.size_toArray, List.length_cons, List.length_nil]) <;> omega) | decide) only [sh_r_word, Pr, PX, PC, NX, ends, fillL, wrL, sOf, Nat.reduceAdd, Nat.reduceMul, Nat.reduceLeDiff, Nat.reduceEqDiff, Int.reduceToNat, Int.reduceAdd, Int.reduceLT, Int.reduceLE, ↓reduceIte, forall_const, eq_self, zG1, zG2, al_60, bd_60, ch_9, ld_60, ln_9, st_60]
    (repeat (first | assumption | exact FrM.refl _ _ | (refine FrM.upd ?_ (.inr (by (try simp only [size_alloc, sz_drew, size_upd, List.size_toArray, List.length_cons, List.length_nil]) <;> omega))) | refine FrM.alloc ?_ _ | refine FrM.drew ?_))
end Go.Proofs.YtkmpelgfhjgddaaGreatDoor
