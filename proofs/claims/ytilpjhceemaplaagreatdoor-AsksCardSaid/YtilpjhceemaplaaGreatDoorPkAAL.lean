/- A part of one proof (ShQ2, SlU, PK2, PK3, ShR6, PureV, RQ1, PureD, PW1, PW2, PW3, ShR5, RD1, RD2, RD3). -/
import Derived.Test.YtilpjhceemaplaaGreatDoorPkAAK
import Derived.Shelf.Strings.BuilderF
import Derived.Shelf.Strconv.Itoa4
import Derived.Lib.ItoaLen
set_option linter.all false
set_option linter.unusedVariables false
set_option linter.unusedSimpArgs false
set_option maxRecDepth 100000
set_option maxHeartbeats 4000000
namespace Go.Proofs.YtilpjhceemaplaaGreatDoor
open Go.Proofs.YtilpjhceemaplaaGreatDoor.Sx
set_option linter.unusedVariables false
section
variable{p0 p1 p2 p3 p4 p5 p6 p7:Value}{w:World}{R:Ending->World->Prop}
def sh_w_key(p0 p1:Value)(w:World)(R:Ending->World->Prop):Prop:=
 RD Tryz.prog (bo .add 9 (.tmp 5) (.const (.string (bs [47]))) p0 (.string (bs [47]))) w (fun x6=>
 RD Tryz.prog (bo .add 3 (.const (.int .i64 48)) (.tmp 7) (.int .i64 48) p1) w (fun x8=>
 WR Tryz.prog (convert 3 21 x8) w (fun x9 w1=>
 WR Tryz.prog (convert 21 9 x9) w1 (fun x10 w1_1=>
 RD Tryz.prog (bo .add 9 (.tmp 6) (.tmp 10) x6 x10) w1_1 (fun x11=>
 R (.returned x11) w1_1) (PX R)) (PX R)) (PX R)) (PX R)) (PX R)
theorem sh_w_key_ok(h:sh_w_key p0 p1 w R):Calls Tryz.prog 71 #[p0,p1] w R:=
 cq (args:=[p0,p1]) (good (fun _=>[]) (fun _=>none) (fun _=>0) (fun _=>none) (fun _=>[]) (fun _=>[]) (fun _=>false) (fun _=>false)) Tryz.func71 rfl (by kernel_rfl) (by kernel_rfl) h
def sh_w_NewBase(p0:Value)(w:World)(R:Ending->World->Prop):Prop:=
 WR Tryz.prog (Instr.makeMap 118 none) w (fun x7 w1=>
 xrN 95 p0 w1 R fun x9=>
 LoopW (fun rec s d v1=>
 xrT .lss 3 10 9 (s 10) x9 v1 R fun x11=>
 BS x11 (xrI 95 p0 (s 10) v1 R fun x12=>
 xrL 112 x12 v1 R fun x13=>
 nH 132 0 9 x13 v1.drew fun x17=>
 nH 132 1 129 x13 v1.drew fun x21=>
 nrN 129 x21 v1.drew fun x22=>
 xC 71 #[x17,x22] v1.drew R fun x23 v2=>
 RD Tryz.prog (Instr.lookup 118 x7 x23 false) v2 (fun x28=>
 WR Tryz.prog (Instr.buildSlice 95 1 #[(0,x13)]) v2 (fun x30 v3=>
 WR Tryz.prog (Builtin.append_ #[95,95] 95 #[x28,x30]) v3 (fun x31 v4=>
 WU Tryz.prog (Instr.mapUpdate 118 x7 x23 x31) v4 (fun v5=>
 xrO .add 3 10 (s 10) (.int .i64 1) v5 R fun x32=>
 rec (sOf [(10,x32)]) v5) (PX R)) (PX R)) (PX R)) (PX R)) (R (.returned x7) v1))
 (sOf [(10,(.int .i64 0))]) w1) (PX R)
theorem sh_w_NewBase_ok(h:sh_w_NewBase p0 w R):Calls Tryz.prog 39 #[p0] w R:=
 cq (args:=[p0]) (good (zL [(3,[10])]) (fun _=>none) (zN [(5,9)]) (fun _=>none) (zL [(3,[])]) (fun _=>[]) (fun _=>false) (zT [11])) Tryz.func39 rfl (by kernel_rfl) (by kernel_rfl) h
def sh_w_fresh(p0:Value)(w:World)(R:Ending->World->Prop):Prop:=
 WR Tryz.prog (Instr.makeSlice 126 p0 p0) w (fun x6 w1=>
 xrN 126 x6 w1 R fun x8=>
 LoopW (fun rec s d v1=>
 xrT .lss 3 9 8 (s 9) x8 v1 R fun x10=>
 BS x10 (xwA 240 v1 R fun x14 v2=>
 WR Tryz.prog (Instr.makeInterface 236 x14) v2 (fun x15 v3=>
 xrI 126 x6 (s 9) v3 R fun x16=>
 xuS 238 x16 x15 v3 R fun v4=>
 xrO .add 3 9 (s 9) (.int .i64 1) v4 R fun x17=>
 rec (sOf [(9,x17)]) v4) (PX R)) (R (.returned x6) v1))
 (sOf [(9,(.int .i64 0))]) w1) (PX R)
theorem sh_w_fresh_ok(h:sh_w_fresh p0 w R):Calls Tryz.prog 70 #[p0] w R:=
 cq (args:=[p0]) (good (zL [(3,[9])]) (fun _=>none) (fun _=>0) (fun _=>none) (zL [(3,[])]) (fun _=>[]) (fun _=>false) (zT [10])) Tryz.func70 rfl (by kernel_rfl) (by kernel_rfl) h
def sh_w_New(p0 p1:Value)(w:World)(R:Ending->World->Prop):Prop:=
 xH 132 3 41 p1 w R fun x10=>
 xrN 41 x10 w R fun x11=>
 xC 70 #[x11] w R fun x12 w1=>
 xrD 128 #[(0,p0),(4,x12)] w1 R fun x13=>
 xwB 128 x13 w1 R fun x14 v1=>
 HD fun S=>S v1.drew /\
 NC p1 fun x17=>
 sG 132 2 130 x17 S fun x19=>
 nH 128 4 126 x14 v1.drew fun x23=>
 nrD 187 #[(0,x19),(1,x23)] v1.drew fun x24=>
 nwB 187 x24 v1.drew fun x25 v2=>
 S v2 /\
 NC x14 fun x26=>
 nrF 128 x26 2 v2 fun x27=>
 nuS 124 x27 x25 v2 fun v3=>
 R (.returned x14) v3
theorem sh_w_New_ok(h:sh_w_New p0 p1 w R):Calls Tryz.prog 38 #[p0,p1] w R:=
 cq (args:=[p0,p1]) (good (fun _=>[]) (fun _=>none) (fun _=>0) (zO [(2,[14,0,1,2,3,4,5,6,7,8,9,10,11,12,13])]) (fun _=>[]) (fun _=>[]) (fun _=>false) (fun _=>false)) Tryz.func38 rfl (by kernel_rfl) (by kernel_rfl) h
def sh_Ph_Base_Ask(p0 p1 p2:Value)(w:World)(R:Ending->World->Prop):Prop:=
 xC 37 #[p1] w R fun x16 w1=>
 xrE x16 0 w1 R fun x17=>
 xrE x16 1 w1 R fun x18=>
 xrO .neq 57 19 x18 .nilIface w1 R fun x20=>
 BS x20 (R (.returned (.tuple #[(.pointer none),x18])) w1) (RD Tryz.prog (Op.unary .not p2) w1 (fun x23=>
 BS x23 (xH 99 0 95 p0 w1 R fun x27=>
 xC 39 #[x27] w1 R fun x28 v1=>
 xC 38 #[x28,x17] v1 R fun x30 v2=>
 xwA 115 v2 R fun x10 v3=>
 xuS 115 x10 x30 v3 R fun v4=>
 HD fun S=>S v4.drew /\
 sL 115 x10 S fun x31=>
 sL 115 x10 S fun x33=>
 NC x33 fun x34=>
 sF 128 x34 1 S fun x35=>
 NC x17 fun x37=>
 sG 132 3 41 x37 S fun x39=>
 RDS Tryz.prog (Instr.makeInterface 115 x31) S (fun x32=>
 WR Tryz.prog (Instr.makeFunc (.func 40) #[] #[x10]) v4.drew (fun x40 v5=>
 S v5 /\
 nrD 137 #[(0,x32),(1,x35),(3,x39),(2,x40)] v5 fun x41=>
 nwB 137 x41 v5 fun x42 v6=>
 R (.returned (.tuple #[x42,.nilIface])) v6) NX)) (xH 99 0 95 p0 w1 R fun x47=>
 xC 41 #[x47,x17] w1 R fun x49 v7=>
 xrE x49 0 v7 R fun x50=>
 xrE x49 1 v7 R fun x51=>
 RD Tryz.prog (Op.unary .not x51) v7 (fun x53=>
 BS x53 (WR Tryz.prog (Instr.makeInterface 32 (.int .i64 4)) v7 (fun x54 v8=>
 R (.returned (.tuple #[(.pointer none),x54])) v8) (PX R)) (xC 42 #[x50] v7 R fun x57 v9=>
 xrE x57 0 v9 R fun x58=>
 xrE x57 1 v9 R fun x59=>
 JS (fun j=>
 xrO .neq 45 60 x58 (.pointer none) v9 R fun x61=>
 BS x61 (xH 132 3 41 x17 v9 R fun x66=>
 NC x58 fun x67=>
 xrF 137 x67 3 v9 R fun x68=>
 xuS 41 x68 x66 v9 R fun v11=>
 j (sOf []) v11) (j (sOf []) v9))
 (fun s d v10=>
 R (.returned (.tuple #[x58,x59])) v10))) (PX R))) (PX R))
theorem sh_Ph_Base_Ask_ok(h:sh_Ph_Base_Ask p0 p1 p2 w R):Calls Tryz.prog 21 #[p0,p1,p2] w R:=
 cq (args:=[p0,p1,p2]) (good (fun _=>[]) (zO [(12001,[])]) (fun _=>0) (zO [(6,[12,0,2,3,4,5,6,7,8,1,9,10,11,12,13])]) (fun _=>[]) (zL [(12001,[])]) (zT [12001]) (zT [2,12,20,22,23,51,52,53,61])) Tryz.func21 rfl (by kernel_rfl) (by kernel_rfl) h
def sh_p_Ask(p0 p1 p2:Value)(w:World)(R:Ending->World->Prop):Prop:=
 xC 21 #[p0,p1,p2] w R fun x17 w1=>
 xrE x17 0 w1 R fun x18=>
 xrE x17 1 w1 R fun x19=>
 xC 14 #[x19] w1 R fun x22 v1=>
 xrE x22 0 v1 R fun x23=>
 xrE x22 1 v1 R fun x24=>
 R (.returned (.tuple #[x18,x23,x24])) v1
theorem sh_p_Ask_ok(h:sh_p_Ask p0 p1 p2 w R):Calls Tryz.prog 9 #[p0,p1,p2] w R:=
 cq (args:=[p0,p1,p2]) (good (fun _=>[]) (fun _=>none) (fun _=>0) (fun _=>none) (fun _=>[]) (fun _=>[]) (fun _=>false) (zT [2,16])) Tryz.func9 rfl (by kernel_rfl) (by kernel_rfl) h
def sh_l_asked(p0 p1 p2:Value)(w:World)(R:Ending->World->Prop):Prop:=
 BS p2 (xwB 25 p0 w R fun x3 w1=>
 xG 25 0 22 x3 w1 R fun x22=>
 xC 9 #[x22,p1,(.bool true)] w1 R fun x25 v1=>
 xrE x25 0 v1 R fun x26=>
 xrE x25 1 v1 R fun x27=>
 xrE x25 2 v1 R fun x28=>
 xC 10 #[p1] v1 R fun x31 v2=>
 xrE x31 0 v2 R fun x32=>
 xrE x31 1 v2 R fun x33=>
 xrE x31 2 v2 R fun x34=>
 xwA 43 v2 R fun x11 v3=>
 xuS 43 x11 x32 v3 R fun v4=>
 xrO .neq 32 35 x33 (.int .i64 0) v4 R fun x36=>
 BS x36 (xrT .eql 32 37 38 x27 x33 v4 R fun x39=>BS x39 (
 xrT .eql 3 41 42 x28 x34 v4 R fun x43=>BS x43 (
 xrO .eql 45 46 x26 (.pointer none) v4 R fun x47=>
 R (.returned (.tuple #[(.pointer none),x47])) v4) (
 R (.returned (.tuple #[(.pointer none),(.bool false)])) v4)) (
 R (.returned (.tuple #[(.pointer none),(.bool false)])) v4)) (xrL 43 x11 v4 R fun x49=>
 xC 8 #[x49] v4 R fun x50 v5=>
 JS (fun j=>
 JS (fun j_1=>
 xG 25 2 4 x3 v5 R fun x54=>BS x54 (
 xrO .eql 32 61 x27 (.int .i64 4) v5 R fun x62=>
 j_1 (sOf [(63,x62)]) v5) (
 xrO .gtr 3 56 x50 (.int .i64 50) v5 R fun x57=>BS x57 (
 xrO .eql 32 61 x27 (.int .i64 4) v5 R fun x62_1=>
 j_1 (sOf [(63,x62_1)]) v5) (
 j_1 (sOf [(63,(.bool false))]) v5)))
 (fun s_1 d_1 v7=>
 BS (s_1 63) (xrO .eql 3 64 x28 (.int .i64 (-1)) v7 R fun x65=>BS x65 (
 xrO .eql 45 67 x26 (.pointer none) v7 R fun x68=>
 R (.returned (.tuple #[(.pointer none),x68])) v7) (
 R (.returned (.tuple #[(.pointer none),(.bool false)])) v7)) (j (sOf []) v7)))
 (fun s d v6=>
 JS (fun j_2=>
 JS (fun j_3=>
 xrO .neq 32 70 x27 (.int .i64 0) v6 R fun x71=>BS x71 (
 j_3 (sOf [(75,(.bool true))]) v6) (
 xrO .eql 45 73 x26 (.pointer none) v6 R fun x74=>
 j_3 (sOf [(75,x74)]) v6))
 (fun s_3 d_3 v9=>
 BS (s_3 75) (R (.returned (.tuple #[(.pointer none),(.bool false)])) v9) (j_2 (sOf []) v9)))
 (fun s_2 d_2 v8=>
 xG 25 1 23 x3 v8 R fun x77=>
 xrL 43 x11 v8 R fun x78=>
 xC 11 #[x77,x78,(.int .i64 20000)] v8 R fun x79 v10=>
 xrD 53 #[(0,x26)] v10 R fun x81=>
 xwB 53 x81 v10 R fun x82 v11=>
 xC 12 #[x79,(.int .i64 20)] v11 R fun x85 v12=>
 xrE x85 0 v12 R fun x86=>
 xrE x85 1 v12 R fun x87=>
 xrE x85 2 v12 R fun x88=>BS x88 (
 NC x82 fun x91=>
 xrF 53 x91 1 v12 R fun x92=>
 xuS 41 x92 x86 v12 R fun v13=>
 NC x82 fun x95=>
 xrF 53 x95 3 v13 R fun x96=>
 xuS 32 x96 x87 v13 R fun v14=>
 JS (fun j_4=>
 NC x82 fun x103=>
 xrF 53 x103 4 v14 R fun x104=>
 xuS 4 x104 (.bool true) v14 R fun v16=>
 j_4 (sOf []) v16)
 (fun s_4 d_4 v15=>
 R (.returned (.tuple #[x82,(.bool true)])) v15)) (
 NC x82 fun x91_1=>
 xrF 53 x91_1 1 v12 R fun x92_1=>
 xuS 41 x92_1 x86 v12 R fun v17=>
 NC x82 fun x95_1=>
 xrF 53 x95_1 3 v17 R fun x96_1=>
 xuS 32 x96_1 x87 v17 R fun v18=>
 JS (fun j_5=>
 xrO .eql 32 100 x87 (.int .i64 0) v18 R fun x101=>
 NC x82 fun x103_1=>
 xrF 53 x103_1 4 v18 R fun x104_1=>
 xuS 4 x104_1 x101 v18 R fun v20=>
 j_5 (sOf []) v20)
 (fun s_5 d_5 v19=>
 R (.returned (.tuple #[x82,(.bool true)])) v19)))))) (xwB 25 p0 w R fun x3_1 v21=>
 xG 25 0 22 x3_1 v21 R fun x22_1=>
 xC 9 #[x22_1,p1,(.bool false)] v21 R fun x25_1 v22=>
 xrE x25_1 0 v22 R fun x26_1=>
 xrE x25_1 1 v22 R fun x27_1=>
 xrE x25_1 2 v22 R fun x28_1=>
 xC 10 #[p1] v22 R fun x31_1 v23=>
 xrE x31_1 0 v23 R fun x32_1=>
 xrE x31_1 1 v23 R fun x33_1=>
 xrE x31_1 2 v23 R fun x34_1=>
 xwA 43 v23 R fun x11_1 v24=>
 xuS 43 x11_1 x32_1 v24 R fun v25=>
 xrO .neq 32 35 x33_1 (.int .i64 0) v25 R fun x36_1=>
 BS x36_1 (xrT .eql 32 37 38 x27_1 x33_1 v25 R fun x39_1=>BS x39_1 (
 xrT .eql 3 41 42 x28_1 x34_1 v25 R fun x43_1=>BS x43_1 (
 xrO .eql 45 46 x26_1 (.pointer none) v25 R fun x47_1=>
 R (.returned (.tuple #[(.pointer none),x47_1])) v25) (
 R (.returned (.tuple #[(.pointer none),(.bool false)])) v25)) (
 R (.returned (.tuple #[(.pointer none),(.bool false)])) v25)) (xrL 43 x11_1 v25 R fun x49_1=>
 xC 8 #[x49_1] v25 R fun x50_1 v26=>
 JS (fun j_6=>
 JS (fun j_7=>
 j_7 (sOf [(63,(.bool false))]) v26)
 (fun s_7 d_7 v28=>
 BS (s_7 63) (xrO .eql 3 64 x28_1 (.int .i64 (-1)) v28 R fun x65_1=>BS x65_1 (
 xrO .eql 45 67 x26_1 (.pointer none) v28 R fun x68_1=>
 R (.returned (.tuple #[(.pointer none),x68_1])) v28) (
 R (.returned (.tuple #[(.pointer none),(.bool false)])) v28)) (j_6 (sOf []) v28)))
 (fun s_6 d_6 v27=>
 JS (fun j_8=>
 JS (fun j_9=>
 xrO .neq 32 70 x27_1 (.int .i64 0) v27 R fun x71_1=>BS x71_1 (
 j_9 (sOf [(75,(.bool true))]) v27) (
 xrO .eql 45 73 x26_1 (.pointer none) v27 R fun x74_1=>
 j_9 (sOf [(75,x74_1)]) v27))
 (fun s_9 d_9 v30=>
 BS (s_9 75) (R (.returned (.tuple #[(.pointer none),(.bool false)])) v30) (j_8 (sOf []) v30)))
 (fun s_8 d_8 v29=>
 xG 25 1 23 x3_1 v29 R fun x77_1=>
 xrL 43 x11_1 v29 R fun x78_1=>
 xC 11 #[x77_1,x78_1,(.int .i64 20000)] v29 R fun x79_1 v31=>
 xrD 53 #[(0,x26_1)] v31 R fun x81_1=>
 xwB 53 x81_1 v31 R fun x82_1 v32=>
 xC 12 #[x79_1,(.int .i64 20)] v32 R fun x85_1 v33=>
 xrE x85_1 0 v33 R fun x86_1=>
 xrE x85_1 1 v33 R fun x87_1=>
 xrE x85_1 2 v33 R fun x88_1=>BS x88_1 (
 NC x82_1 fun x91_2=>
 xrF 53 x91_2 1 v33 R fun x92_2=>
 xuS 41 x92_2 x86_1 v33 R fun v34=>
 NC x82_1 fun x95_2=>
 xrF 53 x95_2 3 v34 R fun x96_2=>
 xuS 32 x96_2 x87_1 v34 R fun v35=>
 JS (fun j_10=>
 NC x82_1 fun x103_2=>
 xrF 53 x103_2 4 v35 R fun x104_2=>
 xuS 4 x104_2 (.bool true) v35 R fun v37=>
 j_10 (sOf []) v37)
 (fun s_10 d_10 v36=>
 R (.returned (.tuple #[x82_1,(.bool true)])) v36)) (
 NC x82_1 fun x91_3=>
 xrF 53 x91_3 1 v33 R fun x92_3=>
 xuS 41 x92_3 x86_1 v33 R fun v38=>
 NC x82_1 fun x95_3=>
 xrF 53 x95_3 3 v38 R fun x96_3=>
 xuS 32 x96_3 x87_1 v38 R fun v39=>
 JS (fun j_11=>
 xrO .eql 32 100 x87_1 (.int .i64 0) v39 R fun x101_1=>
 NC x82_1 fun x103_3=>
 xrF 53 x103_3 4 v39 R fun x104_3=>
 xuS 4 x104_3 x101_1 v39 R fun v41=>
 j_11 (sOf []) v41)
 (fun s_11 d_11 v40=>
 R (.returned (.tuple #[x82_1,(.bool true)])) v40))))))
theorem sh_l_asked_ok(h:sh_l_asked p0 p1 p2 w R):Calls Tryz.prog 5 #[p0,p1,p2] w R:=
 callsEq (args:=[p0,p1,p2]) (good (fun _=>[]) (zO [(6000,[63]),(7001,[]),(8000,[75]),(9001,[]),(15000,[])]) (fun _=>0) (fun _=>none) (fun _=>[]) (zL [(6000,[]),(7001,[]),(8000,[]),(9001,[]),(15000,[])]) (zT [6000,7001,8000,9001,15000]) (zT [7,24,36,47,48,62,63,68,69,74,75,101,102])) Tryz.func5 rfl (by kernel_rfl) (by kernel_rfl) (Nat.le_of_ble_eq_true (by kernel_rfl)) [2] (by kernel_rfl) h
def sh_l_Asks(p0:Value)(w:World)(R:Ending->World->Prop):Prop:=
 xrN 9 p0 w R fun x6=>
 xrO .gtr 3 6 x6 (.int .i64 32768) w R fun x7=>
 BS x7 (R (.returned (.bool true)) w) (xC 4 #[(.string (bs [97,46]))] w R fun x9 w1=>
 xrE x9 0 w1 R fun x10=>
 xrE x9 1 w1 R fun x11=>
 xwA 25 w1 R fun x3 v1=>
 xuS 25 x3 x10 v1 R fun v2=>
 RD Tryz.prog (Op.unary .not x11) v2 (fun x13=>
 BS x13 (R (.returned (.bool false)) v2) (xrL 25 x3 v2 R fun x15=>
 xC 5 #[x15,p0,(.bool false)] v2 R fun x17 v3=>
 xrE x17 0 v3 R fun x18=>
 xrE x17 1 v3 R fun x19=>
 R (.returned x19) v3)) (PX R))
theorem sh_l_Asks_ok(h:sh_l_Asks p0 w R):Calls Tryz.prog 3 #[p0] w R:=
 cq (args:=[p0]) (good (fun _=>[]) (fun _=>none) (fun _=>0) (fun _=>none) (fun _=>[]) (fun _=>[]) (fun _=>false) (zT [2,4,7,11,12,13,19,20])) Tryz.func3 rfl (by kernel_rfl) (by kernel_rfl) h
end
end Go.Proofs.YtilpjhceemaplaaGreatDoor
namespace Go.Proofs.YtilpjhceemaplaaGreatDoor
open Go.RowKit
theorem IsSl.at'{F:Nat->Prop}{w:World}{et:TypeId}{v:Value}{vs:List Value}(h:IsSl F w et v vs){j:Nat}(hj:j<vs.length):∃ b cs,v = .slice (some ⟨b,0,none⟩) vs.length cs.size/\F b/\w.heap[b]?=some (.cells cs et (0,0))/\cs[j]?=vs[j]?:=by
 rcases h with⟨rfl,rfl⟩| ⟨b,cs,rfl,g1,g2,g3,g4⟩
 ·simp at hj
 ·refine⟨b,cs,rfl,g1,g2,?_⟩
  rw[<- g4,List.getElem?_take_of_lt hj,Array.getElem?_toList]
theorem IsSl.sl{F:Nat->Prop}{w:World}{et:TypeId}{v:Value}{vs:List Value}(h:IsSl F w et v vs):∃ a c,v = .slice a vs.length c:=by
 rcases h with⟨rfl,rfl⟩| ⟨b,cs,rfl,g1,g2,g3,g4⟩
 ·exact⟨_,_,rfl⟩
 ·exact⟨_,_,rfl⟩
end Go.Proofs.YtilpjhceemaplaaGreatDoor
namespace Go.Proofs.YtilpjhceemaplaaGreatDoor
open Go.RowKit Sx
theorem sKeyA(w:World):Calls Tryz.prog 71 #[.string (bs [97]),.int .i64 0] w fun e w'=>e = .returned (.string (bs [97,47,48]))/\w'=w:=by
 refine sh_w_key_ok ?_
 simp (disch:=first | assumption | omega | ((simp only[size_alloc,sz_drew,size_upd,List.size_toArray,List.length_cons,List.length_nil])<;>omega) | decide) only[sh_w_key,Pr,PX,PC,NX,ends,fillL,wrL,sOf,Nat.reduceAdd,Nat.reduceMul,Nat.reduceLeDiff,Nat.reduceEqDiff,Int.reduceToNat,Int.reduceAdd,Int.reduceLT,Int.reduceLE,↓reduceIte,forall_const,eq_self,zG1,zG2,cv_3_21]
 rw[bo_ads _ _ (by simp)]
 simp (disch:=first | assumption | omega | ((simp only[size_alloc,sz_drew,size_upd,List.size_toArray,List.length_cons,List.length_nil])<;>omega) | decide) only[sh_w_key,Pr,PX,PC,NX,ends,fillL,wrL,sOf,Nat.reduceAdd,Nat.reduceMul,Nat.reduceLeDiff,Nat.reduceEqDiff,Int.reduceToNat,Int.reduceAdd,Int.reduceLT,Int.reduceLE,↓reduceIte,forall_const,eq_self,zG1,zG2,cv_3_21]
 rw[show IntKind.i32.wrap 48=((48:Nat):Int) by decide]
 rw[wr_runeStr (by kernel_rfl) (by kernel_rfl) (by decide)]
 rw[bo_ads _ _ (by simp)]
 exact⟨rfl,rfl⟩
theorem madeCells_size(z:Array Value):∀ (n:Nat),(madeCells z n).size=n:=by
 intro n
 simp [madeCells]
def zb46:=(zA zG0 (zA @sh_w_fresh.eq_1 (zA @al_240 (zA @ix_126 (zA @ln_126 (zA @mi_236 (zA @ms_126 @st_238)))))))
theorem sFreshN (n:Nat) (hn:n≤100) (w:World):Calls Tryz.prog 70 #[zi (n:Nat)] w fun e w'=>Ext w w'/\∃ b,e = .returned (.slice (some ⟨b,0,none⟩) n n):=by
 refine sh_w_fresh_ok ?_
 simp (disch:=first|assumption|omega|simp only[zS]<;>omega|decide) only[zb46,simprocAttr]
 refine⟨fun m z w'=>∃ (j:Nat) (cs:Array Value),z 9=zi (j:Nat)/\j≤n/\m=n-j/\Ext w w'/\w'.heap[w.heap.size]?=some (.cells cs 238 (0,0))/\cs.size=n,
  ⟨_,0,_,rfl,Nat.zero_le _,rfl,(FrM.refl _ _).alloc _,hp_alloc_new rfl,by rw[madeCells_size]⟩,?_⟩
 intro m z d w1 hI
 refine toPr ?_
 obtain⟨j,cs,h9,hj,rfl,hE1,g1,hsz⟩:=hI
 have l1:=ltOf g1
 by_cases hlt:j<n
 ·have hlt':((j:Nat):Int)<((n:Nat):Int):=by omega
  have ej:((j:Nat):Int).toNat=j:=by omega
  simp (disch:=first|assumption|omega|simp only[zS]<;>omega|decide) only[zb46,simprocAttr,h9,ej,g1]
  exact⟨_,by omega,j+1,_,by simp,by omega,rfl,(hE1.alloc _).upd (.inr (Nat.le_refl _)),rfl,by simpa using hsz⟩
 ·have hjn:j=n:=by omega
  subst hjn
  simp (disch:=first|assumption|omega|simp only[zS]<;>omega|decide) only[zb46,simprocAttr,h9]
  exact⟨hE1,_,rfl⟩
def zb47:=(zA zG0 (zA @sh_w_NewBase.eq_1 (zA @br_95_1 (zA @fa_132_0 (zA @fa_132_1 (zA @ix_95 (zA @ld_112 (zA @ld_129 (zA @ld_9 (zA @ln_129 (zA @ln_95 @mm_118)))))))))))
theorem sNewBaseA {F:Nat->Prop} {w:World} {v:Value} {b:Nat} {a0:Option Addr} {ac:Nat} {bv:Value} {va:Option Addr} {nv vc:Nat} (hv:IsSl F w 112 v [pp b])
  (hb:w.heap[b]?=some (.cells #[.string (bs [97]),.slice a0 0 ac,bv,.slice va nv vc] 132 (0,0))) :
  Calls Tryz.prog 39 #[v] w fun e w'=>Ext w w'/\∃ m,e = .returned (.map (some m)):=by
 obtain⟨rb,rcs,rfl,-,r2,r3⟩:=hv.at' (j:=0) (by simp)
 refine sh_w_NewBase_ok ?_
 obtain⟨w1,hw1⟩:∃ y,y=w.alloc (.map #[] 0):=⟨_,rfl⟩
 have hE1:Ext w w1:=by rw[hw1];exact(FrM.refl _ _).alloc _
 have m1:w1.heap[w.heap.size]?=some (.map #[] 0):=by rw[hw1];exact hp_alloc_new rfl
 simp (disch:=first|assumption|omega|simp only[zS]<;>omega|decide) only[zb47,simprocAttr,List.length_cons,List.length_nil]
 refine⟨fun m z w'=>(m=1/\z 10=zi 0/\w'=w1)\/(m=0/\z 10=zi 1/\Ext w w'),⟨1,.inl ⟨rfl,rfl,hw1.symm⟩⟩,?_⟩
 intro m z d w2 hI
 refine toPr ?_
 rcases hI with⟨rfl,h10,rfl⟩| ⟨rfl,h10,hE⟩
 ·have r2':=hE1.ext _ _ r2
  have hb':=hE1.ext _ _ hb
  simp (disch:=first|assumption|omega|simp only[zS]<;>omega|decide) only[zb47,simprocAttr,h10,r2',r3,hb']
  refine Calls.mono (sKeyA _) ?_
  rintro e w3 ⟨rfl,rfl⟩
  have m3:w2.drew.heap[w.heap.size]?=some (.map #[] 0):=m1
  have hk:KeysS (#[]:Array MapEntry).toList:=fun e he=>by cases he
  have hlk:∀ {K:Value->Prop} {X:Value->World->Prop},K (.slice none 0 0)->RD Tryz.prog (Instr.lookup 118 (.map (some w.heap.size)) (.string (bs [97,47,48])) false) w2.drew K X:=fun h=>by
   rw[rd_lookupS (k:=9) (e:=95) (by kernel_rfl) (by kernel_rfl) (z:=.slice none 0 0) (by kernel_rfl) m3 hk];exact h
  simp (disch:=first|assumption|omega|simp only[zS]<;>omega|decide) only[zb47,simprocAttr]
  refine hlk ?_
  simp (disch:=first|assumption|omega|simp only[zS]<;>omega|decide) only[zb47,simprocAttr]
  obtain⟨w4,hw4⟩:∃ y,y=w2.drew.alloc (.cells #[pp b] 112):=⟨_,rfl⟩
  have hE4:Ext w2 w4:=by rw[hw4];exact((FrM.refl _ _).drew).alloc _
  have g4:w4.heap[w2.heap.size]?=some (.cells #[pp b] 112):=by rw[hw4];exact hp_alloc_new (by rw[sz_drew])
  rw[<- hw4]
  have m4:=hE4.ext _ _ m1
  refine wr_appendPC (base:=w4.heap.size) (World.ownsRow_nil _ _ _ _) g4 rfl (by omega) (Nat.le_refl _) ?_
  intro v' w5 ho5 hg5 hv5
  have hE5:Ext w4 w5:=(FrM.grownBy hg5).mono fun _ _ _ h=>by cases h
  have m5:=hE5.ext _ _ m4
  rw[wu_mapNewS (k:=9) (e:=95) (by kernel_rfl) (by kernel_rfl) m5 hk [97,47,48] rfl]
  simp (disch:=first|assumption|omega|simp only[zS]<;>omega|decide) only[zb47,simprocAttr,h10]
  have hE6:Ext w (upd w5 w.heap.size (.map (#[].push { key:=.string (bs [97,47,48]),val:=v',born:=0 }) (0+1))):=((hE1.trans hE4).trans hE5).upd (.inr (Nat.le_refl _))
  exact⟨0,by omega,.inr ⟨rfl,hE6⟩⟩
 ·simp (disch:=first|assumption|omega|simp only[zS]<;>omega|decide) only[zb47,simprocAttr,h10]
  exact⟨hE,_,rfl⟩
def zb48:=(zA zG0 (zA @sh_w_New.eq_1 (zA @bd_128 (zA @bd_187 (zA @fa_128_2 (zA @fa_128_4 (zA @fa_132_2 (zA @fa_132_3 (zA @ld_126 (zA @ld_130 (zA @ld_41 (zA @ln_41 @st_124))))))))))))
theorem wNew {w:World} {m:Nat} {b:Nat} {xb:Nat} {va:Option Addr} {n vc:Nat} (hn:n≤12) (hb:w.heap[b]?=some (.cells #[.string (bs []),.slice none 0 0,pp xb,.slice va n vc] 132 (0,0))) :
  Calls Tryz.prog 38 #[.map (some m),pp b] w fun e w'=>Ext w w'/\∃ q o,e = .returned (pp q)/\w'.heap[q]?=some (.cells o 128 (0,0)):=by
 refine sh_w_New_ok ?_
 simp (disch:=first|assumption|omega|simp only[zS]<;>omega|decide) only[zb48,simprocAttr,hb]
 refine Calls.mono (sFreshN n (by omega) w) ?_
 rintro e w1 ⟨hE1,fb,rfl⟩
 have hb1:=hE1.ext _ _ hb
 have lb1:=ltOf hb1
 simp (disch:=first|assumption|omega|simp only[zS]<;>omega|decide) only[zb48,simprocAttr,hb1]
 obtain⟨w2,hw2⟩:∃ y,y=w1.alloc (.cells #[.map (some m),.slice none 0 0,zi 0,.pointer none,.slice none 0 0,.slice (some ⟨fb,0,none⟩) n n] 128):=⟨_,rfl⟩
 have hw2r:w1.alloc (.cells (Value.agg #[.map (some m),.slice none 0 0,zi 0,.pointer none,.slice none 0 0,.slice (some ⟨fb,0,none⟩) n n]).cells 128 (0,0))=w2:=hw2.symm
 rw[hw2r]
 have hE2:Ext w1 w2:=by rw[hw2];exact(FrM.refl _ _).alloc _
 have g2:w2.heap[w1.heap.size]?=some (.cells #[.map (some m),.slice none 0 0,zi 0,.pointer none,.slice none 0 0,.slice (some ⟨fb,0,none⟩) n n] 128):=by rw[hw2];exact hp_alloc_new rfl
 have hb2:=hE2.ext _ _ hb1
 have l2:=ltOf g2
 refine⟨fun w'=>w'.heap[b]?=w2.heap[b]?,rfl,?_⟩
 rw[nc_ptr]
 refine rds (pq b 2) (fun w' hS=>by rw[hb2] at hS;simp (disch:=first|assumption|omega|simp only[zS]<;>omega|decide) only[zb48,simprocAttr,hS]) (rds (pp xb) (fun w' hS=>by rw[hb2] at hS;have:=ltOf hS;simp (disch:=first|assumption|omega|simp only[zS]<;>omega|decide) only[zb48,simprocAttr,hS]) ?_)
 simp (disch:=first|assumption|omega|simp only[zS]<;>omega|decide) only[zb48,simprocAttr,g2]
 have hE3:Ext w2 (w2.drew.alloc (.cells #[pp xb,.slice (some ⟨fb,0,none⟩) n n,zi 0,.pointer none] 187)):=((FrM.refl _ _).drew).alloc _
 have s1:=hE1.size
 exact⟨FrM.upd (M:=fun _ _=>False) ((hE1.trans hE2).trans hE3) (.inr s1),_,_,rfl,hp_upd_same rfl (ltOf (hE3.ext _ _ g2))⟩
def BaseP(w:World)(xb:Nat):Prop:=∃ (F:Nat->Prop) (v:Value) (b:Nat) (a0:Option Addr) (ac:Nat) (bv:Value) (va:Option Addr) (nv vc:Nat),w.heap[xb]?=some (.cells #[v] 99) /\
 IsSl F w 112 v [pp b]/\w.heap[b]?=some (.cells #[.string (bs [97]),.slice a0 0 ac,bv,.slice va nv vc] 132 (0,0))
theorem BaseP.ext{w w':World}{xb:Nat}(h:BaseP w xb)(hE:Ext w w'):BaseP w' xb:=by
 obtain⟨F,v,b,a0,ac,bv,va,nv,vc,h1,h2,h3⟩:=h
 exact⟨F,v,b,a0,ac,bv,va,nv,vc,hE.ext _ _ h1,h2.mono (fun _ h=>h) (fun _ _ _ ho=>hE.ext _ _ ho),hE.ext _ _ h3⟩
theorem rds_iface{P:Program}{T:TypeId}(h:concreteB P T=true){v:Value}{S:World->Prop}{K:Value->Prop}(hk:K (.iface T v)):RDS P (Instr.makeInterface T v) S K:=by
 refine⟨.iface T v,fun w _=>?_,hk⟩
 unfold concreteB at h
 unfold Instr.makeInterface underlying
 simp only[Sem.run_bind,program,Sem.run,Result.andThen_ok]
 split at h
 ·cases h
 ·rename_i d hn hd
  rw[hd]
  simp only[Sem.run_pure,Result.andThen_ok]
 ·cases h
def zb49:=(zA zG0 (zA @sh_Ph_Base_Ask.eq_1 (zA @al_115 (zA @bd_137 (zA @fa_128_1 (zA @fa_132_3 (zA @fa_137_3 (zA @fa_99_0 (zA @ld_115 (zA @ld_41 (zA @ld_95 (zA @mi_115 (zA @mi_32 (zA @nei0_57 (zA @nei1_57 (zA @nep_45 (zA @st_115 @st_41)))))))))))))))))
theorem hAsk (s:P.Bs) {w:World} {xb:Nat} (hl:s.length≤100000) (hT:STabs2 w) (hC:STabC w w.heap.size) (hx:BaseP w xb) :
  Calls Tryz.prog 21 #[pp xb,.string (bs s),.bool false] w fun e w'=>Ext w w'/\match P.ofText P.quesT s with
   | .err c a=>∃ b,e = .returned (.tuple #[.pointer none,.iface 100 (.pointer (some ⟨b,0,none⟩))])/\w'.heap[b]?=some (.cells #[.int .i64 c,.int .i64 a] 104 (0,0))
   | .ok _ _ _=>∃ b,e = .returned (.tuple #[.pointer (some ⟨b,0,none⟩),.nilIface]):=by
 refine sh_Ph_Base_Ask_ok ?_
 simp (disch:=first|assumption|omega|simp only[zS]<;>omega|decide) only[zb49,simprocAttr]
 refine(sQuestion s w hl hT hC).mono ?_
 rintro e w1 ⟨hE,hp⟩
 cases hr:P.ofText P.quesT s with
 | err c a=>
  rw[hr] at hp
  obtain⟨b,rfl,h1⟩:=hp
  simp (disch:=first|assumption|omega|simp only[zS]<;>omega|decide) only[zb49,simprocAttr]
  exact⟨hE,b,rfl,h1⟩
 | ok x k vs=>
  rw[hr] at hp
  obtain⟨b,rfl,-,hv12,qb,va,vc,hq⟩:=hp
  obtain⟨F,v,cb,a0,ac,bv,va',nv',vc',g1,g2,g3⟩:=hx.ext hE
  obtain⟨sa,sc,rfl⟩:=g2.sl
  simp only[List.length_cons,List.length_nil] at g1 g2 ⊢
  simp (disch:=first|assumption|omega|simp only[zS]<;>omega|decide) only[zb49,simprocAttr,g1]
  refine Calls.mono (sNewBaseA g2 g3) ?_
  rintro e w2 ⟨hE2,m,rfl⟩
  have hq2:=hE2.ext _ _ hq
  simp (disch:=first|assumption|omega|simp only[zS]<;>omega|decide) only[zb49,simprocAttr]
  refine Calls.mono (wNew hv12 hq2) ?_
  rintro e w3 ⟨hE3,q,o,rfl,hw⟩
  have hq3:=hE3.ext _ _ hq2
  simp (disch:=first|assumption|omega|simp only[zS]<;>omega|decide) only[zb49,simprocAttr]
  obtain⟨w4,hw4⟩:∃ y,y=upd (w3.alloc (.cells #[.pointer none] 115)) w3.heap.size (.cells #[pp q] 115):=⟨_,rfl⟩
  have hw4r:upd (w3.alloc (.cells #[.pointer none] 115)) w3.heap.size (.cells (wrL #[.pointer none] 0 (Value.pointer (some ⟨q,0,none⟩)).cells.toList) 115 (0,0))=w4:=by rw[hw4];rfl
  rw[hw4r]
  have hE4:Ext w3 w4:=by rw[hw4];exact((FrM.refl _ _).alloc _).upd (.inr (Nat.le_refl _))
  have g4:w4.heap[w3.heap.size]?=some (.cells #[pp q] 115):=by rw[hw4];exact hp_upd_same rfl (by rw[size_alloc];omega)
  have hq4:=hE4.ext _ _ hq3
  refine⟨fun w'=>w'.heap[w3.heap.size]?=w4.heap[w3.heap.size]?/\w'.heap[b]?=w4.heap[b]?,⟨rfl,rfl⟩,?_⟩
  refine rds (pp q) (fun w' hS=>by rw[g4] at hS;have h9:=hS.1;have:=ltOf h9;simp (disch:=first|assumption|omega|simp only[zS]<;>omega|decide) only[zb49,simprocAttr,h9]) (rds (pp q) (fun w' hS=>by rw[g4] at hS;have h9:=hS.1;have:=ltOf h9;simp (disch:=first|assumption|omega|simp only[zS]<;>omega|decide) only[zb49,simprocAttr,h9]) ?_)
  rw[nc_ptr]
  refine rds (pq q 1) (fun w' hS=>by simp (disch:=first|assumption|omega|simp only[zS]<;>omega|decide) only[zb49,simprocAttr]) ?_
  rw[nc_ptr]
  refine rds (pq b 3) (fun w' hS=>by simp (disch:=first|assumption|omega|simp only[zS]<;>omega|decide) only[zb49,simprocAttr]) (rds (.slice va vs.length vc) (fun w' hS=>by rw[hq4] at hS;have h9:=hS.2;have:=ltOf h9;simp (disch:=first|assumption|omega|simp only[zS]<;>omega|decide) only[zb49,simprocAttr,h9]) ?_)
  refine rds_iface (by kernel_rfl) ?_
  rw[wr_func]
  refine⟨⟨rfl,rfl⟩,?_⟩
  simp (disch:=first|assumption|omega|simp only[zS]<;>omega|decide) only[zb49,simprocAttr]
  exact⟨(((hE.trans hE2).trans hE3).trans hE4).trans (((FrM.refl _ _).drew).alloc _),_,rfl⟩
def zb50:=(zA zG0 @sh_p_Ask.eq_1)
theorem pAsk (s:P.Bs) {w:World} {xb:Nat} (hl:s.length≤100000) (hT:STabs2 w) (hC:STabC w w.heap.size) (hE0:TabE w) (hx:BaseP w xb) :
  Calls Tryz.prog 9 #[pp xb,.string (bs s),.bool false] w fun e w'=>Ext w w'/\match P.ofText P.quesT s with
   | .err c a=>e = .returned (.tuple #[.pointer none,.int .i64 c,.int .i64 a])
   | .ok _ _ _=>∃ b,e = .returned (.tuple #[.pointer (some ⟨b,0,none⟩),.int .i64 0,.int .i64 (-1)]):=by
 refine sh_p_Ask_ok ?_
 refine(hAsk s hl hT hC hx).mono ?_
 rintro e w1 ⟨hE,hp⟩
 cases hr:P.ofText P.quesT s with
 | err c a=>
  rw[hr] at hp
  obtain⟨b,rfl,h1⟩:=hp
  simp (disch:=first|assumption|omega|simp only[zS]<;>omega|decide) only[zb50,simprocAttr]
  refine(aTellAt b c a w1 h1 (hE0.ext hE)).mono ?_
  rintro e w2 ⟨hE2,rfl⟩
  simp (disch:=first|assumption|omega|simp only[zS]<;>omega|decide) only[zb50,simprocAttr]
  exact hE.trans hE2
 | ok x k vs=>
  rw[hr] at hp
  obtain⟨b,rfl⟩:=hp
  simp (disch:=first|assumption|omega|simp only[zS]<;>omega|decide) only[zb50,simprocAttr]
  refine(aTellNil w1).mono ?_
  rintro e w2 ⟨hE2,rfl⟩
  simp (disch:=first|assumption|omega|simp only[zS]<;>omega|decide) only[zb50,simprocAttr]
  exact⟨hE.trans hE2,_,rfl⟩
end Go.Proofs.YtilpjhceemaplaaGreatDoor
namespace Go.Proofs.YtilpjhceemaplaaGreatDoor
open Go.Proofs.YtilpjhceemaplaaGreatDoor.Sx
section
variable{p0 p1 p2 p3 p4 p5 p6 p7:Value}{w:World}{R:Ending->World->Prop}
def sh_r_New(p0:Value)(w:World)(R:Ending->World->Prop):Prop:=
 xrD 93 #[(7,p0)] w R fun x4=>
 xwB 93 x4 w R fun x5 w1=>
 R (.returned x5) w1
theorem sh_r_New_ok(h:sh_r_New p0 w R):Calls Tryz.prog 25 #[p0] w R:=
 cq (args:=[p0]) (good (fun _=>[]) (fun _=>none) (fun _=>0) (fun _=>none) (fun _=>[]) (fun _=>[]) (fun _=>false) (fun _=>false)) Tryz.func25 rfl (by kernel_rfl) (by kernel_rfl) h
end
end Go.Proofs.YtilpjhceemaplaaGreatDoor
namespace Go.Proofs.YtilpjhceemaplaaGreatDoor.P
structure KvT(Q:List Bs->Prop)(T:List Tok)(f:Nat):Prop where
 prim:∀ k v d x k' v',Q v->pPrim T f k v d=some (.ok x k' v')->Q v'
 args:∀ k v d a acc x k' v',Q v->pArgs T f k v d a acc=some (.ok x k' v')->Q v'
 list:∀ k v d x k' v',Q v->pList T f k v d=some (.ok x k' v')->Q v'
 elems:∀ k v d acc x k' v',Q v->pElems T f k v d acc=some (.ok x k' v')->Q v'
 oper:∀ l k v d x k' v',Q v->pOper T f l k v d=some (.ok x k' v')->Q v'
 more:∀ l y k v d x k' v',Q v->pMore T f l y k v d=some (.ok x k' v')->Q v'
theorem kvT{Q:List Bs->Prop}{T:List Tok}(hq:∀ j k v x k' v',(tk T j).kind=2->Q v->pVar (tk T j) k v = .ok x k' v'->Q v'):∀ f,KvT Q T f
 | 0=>⟨by intros;simp [pPrim] at *,by intros;simp [pArgs] at *,by intros;simp [pList] at *,by intros;simp [pElems] at *,by intros;simp [pOper] at *,by intros;simp [pMore] at *⟩
 | f+1=>by
  have ih:=kvT hq f
  refine⟨?_,?_,?_,?_,?_,?_⟩
  ·intro k v d x k' v' hv h
   rw[pPrim] at h
   split at h
   ·simp at h
   split at h
   ·simp only[Option.some.injEq,Res.ok.injEq] at h
    obtain⟨-,-,rfl⟩:=h
    exact hv
   split at h
   ·rename_i hk
    simp only[Option.some.injEq] at h
    exact hq _ _ _ _ _ _ hk hv h
   split at h
   ·split at h
    ·obtain⟨a,k1,v1,h1,h2⟩:=bind_ok h
     obtain⟨rfl,rfl,rfl⟩:=musT_ok h2
     exact ih.args _ _ _ _ _ _ _ _ hv h1
    ·simp only[Option.some.injEq,Res.ok.injEq] at h
     obtain⟨-,-,rfl⟩:=h
     exact hv
   split at h
   ·split at h
    ·simp only[Option.some.injEq,Res.ok.injEq] at h
     obtain⟨-,-,rfl⟩:=h
     exact hv
    ·simp at h
   split at h
   ·obtain⟨a,k1,v1,h1,h2⟩:=bind_ok h
    obtain⟨rfl,rfl,rfl⟩:=musT_ok h2
    exact ih.oper _ _ _ _ _ _ _ hv h1
   split at h
   ·exact ih.list _ _ _ _ _ _ hv h
   ·simp at h
  ·intro k v d a acc x k' v' hv h
   rw[pArgs] at h
   obtain⟨y,k1,v1,h1,h2⟩:=bind_ok h
   have hv1:=ih.oper _ _ _ _ _ _ _ hv h1
   split at h2
   ·exact ih.args _ _ _ _ _ _ _ _ hv1 h2
   ·split at h2
    ·simp at h2
    ·simp only[Option.some.injEq,Res.ok.injEq] at h2
     obtain⟨-,-,rfl⟩:=h2
     exact hv1
  ·intro k v d x k' v' hv h
   rw[pList] at h
   split at h
   ·simp only[Option.some.injEq,Res.ok.injEq] at h
    obtain⟨-,-,rfl⟩:=h
    exact hv
   ·obtain⟨all,k1,v1,h1,h2⟩:=bind_ok h
    have hv1:=ih.elems _ _ _ _ _ _ _ hv h1
    split at h2
    ·obtain⟨y,k2,v2,h3,h4⟩:=bind_ok h2
     obtain⟨rfl,rfl,rfl⟩:=musT_ok h4
     exact ih.oper _ _ _ _ _ _ _ hv1 h3
    ·obtain⟨rfl,rfl,rfl⟩:=musT_ok h2
     exact hv1
  ·intro k v d acc x k' v' hv h
   rw[pElems] at h
   obtain⟨y,k1,v1,h1,h2⟩:=bind_ok h
   have hv1:=ih.oper _ _ _ _ _ _ _ hv h1
   split at h2
   ·exact ih.elems _ _ _ _ _ _ _ hv1 h2
   ·simp only[Option.some.injEq,Res.ok.injEq] at h2
    obtain⟨-,-,rfl⟩:=h2
    exact hv1
  ·intro l k v d x k' v' hv h
   rw[pOper] at h
   split at h
   ·exact ih.prim _ _ _ _ _ _ hv h
   ·obtain⟨y,k1,v1,h1,h2⟩:=bind_ok h
    exact ih.more _ _ _ _ _ _ _ _ (ih.oper _ _ _ _ _ _ _ hv h1) h2
  ·intro l y k v d x k' v' hv h
   rw[pMore] at h
   split at h
   ·simp only[Option.some.injEq,Res.ok.injEq] at h
    obtain⟨-,-,rfl⟩:=h
    exact hv
   ·obtain⟨z,k1,v1,h1,h2⟩:=bind_ok h
    exact ih.more _ _ _ _ _ _ _ _ (ih.oper _ _ _ _ _ _ _ hv h1) h2
structure KvB(Q:List Bs->Prop)(T:List Tok)(f:Nat):Prop where
 lit:∀ k v d x k' v',Q v->pLit T f k v d=some (.ok x k' v')->Q v'
 lits:∀ k v d acc x k' v',Q v->pLits T f k v d acc=some (.ok x k' v')->Q v'
 row:∀ k v d x k' v',Q v->pRow T f k v d=some (.ok x k' v')->Q v'
 rest:∀ k v d x k' v',Q v->pRest T f k v d=some (.ok x k' v')->Q v'
 body:∀ k v d x k' v',Q v->pBody T f k v d=some (.ok x k' v')->Q v'
theorem kvB{Q:List Bs->Prop}{T:List Tok}(hq:∀ j k v x k' v',(tk T j).kind=2->Q v->pVar (tk T j) k v = .ok x k' v'->Q v'):∀ f,KvB Q T f
 | 0=>⟨by intros;simp [pLit] at *,by intros;simp [pLits] at *,by intros;simp [pRow] at *,by intros;simp [pRest] at *,by intros;simp [pBody] at *⟩
 | f+1=>by
  have ih:=kvB hq f
  refine⟨?_,?_,?_,?_,?_⟩
  ·intro k v d x k' v' hv h
   rw[pLit] at h
   split at h
   ·simp at h
   split at h
   ·simp only[Option.some.injEq,Res.ok.injEq] at h
    obtain⟨-,-,rfl⟩:=h
    exact hv
   split at h
   ·obtain⟨b,k1,v1,h1,h2⟩:=bind_ok h
    simp only[Option.some.injEq,Res.ok.injEq] at h2
    obtain⟨-,-,rfl⟩:=h2
    exact ih.lit _ _ _ _ _ _ hv h1
   split at h
   ·obtain⟨b,k1,v1,h1,h2⟩:=bind_ok h
    obtain⟨rfl,rfl,rfl⟩:=musT_ok h2
    exact ih.body _ _ _ _ _ _ hv h1
   ·obtain⟨y,k1,v1,h1,h2⟩:=bind_ok h
    have hv1:=(kvT hq f).oper _ _ _ _ _ _ _ hv h1
    split at h2
    ·obtain⟨z,k2,v2,h3,h4⟩:=bind_ok h2
     simp only[Option.some.injEq,Res.ok.injEq] at h4
     obtain⟨-,-,rfl⟩:=h4
     exact(kvT hq f).oper _ _ _ _ _ _ _ hv1 h3
    ·split at h2
     ·simp at h2
     ·split at h2
      ·simp at h2
      ·simp only[Option.some.injEq,Res.ok.injEq] at h2
       obtain⟨-,-,rfl⟩:=h2
       exact hv1
  ·intro k v d acc x k' v' hv h
   rw[pLits] at h
   obtain⟨y,k1,v1,h1,h2⟩:=bind_ok h
   have hv1:=ih.lit _ _ _ _ _ _ hv h1
   split at h2
   ·exact ih.lits _ _ _ _ _ _ _ hv1 h2
   ·simp only[Option.some.injEq,Res.ok.injEq] at h2
    obtain⟨-,-,rfl⟩:=h2
    exact hv1
  ·intro k v d x k' v' hv h
   rw[pRow] at h
   obtain⟨l,k1,v1,h1,h2⟩:=bind_ok h
   simp only[Option.some.injEq,Res.ok.injEq] at h2
   obtain⟨-,-,rfl⟩:=h2
   exact ih.lits _ _ _ _ _ _ _ hv h1
  ·intro k v d x k' v' hv h
   rw[pRest] at h
   split at h
   ·simp at h
   ·exact ih.body _ _ _ _ _ _ hv h
  ·intro k v d x k' v' hv h
   rw[pBody] at h
   obtain⟨a,k1,v1,h1,h2⟩:=bind_ok h
   have hv1:=ih.row _ _ _ _ _ _ hv h1
   split at h2
   ·obtain⟨b,k2,v2,h3,h4⟩:=bind_ok h2
    have hv2:=ih.row _ _ _ _ _ _ hv1 h3
    split at h4
    ·obtain⟨c,k3,v3,h5,h6⟩:=bind_ok h4
     simp only[Option.some.injEq,Res.ok.injEq] at h6
     obtain⟨-,-,rfl⟩:=h6
     exact ih.rest _ _ _ _ _ _ hv2 h5
    ·simp only[Option.some.injEq,Res.ok.injEq] at h4
     obtain⟨-,-,rfl⟩:=h4
     exact hv2
   ·split at h2
    ·obtain⟨b,k2,v2,h3,h4⟩:=bind_ok h2
     simp only[Option.some.injEq,Res.ok.injEq] at h4
     obtain⟨-,-,rfl⟩:=h4
     exact ih.rest _ _ _ _ _ _ hv1 h3
    ·simp only[Option.some.injEq,Res.ok.injEq] at h2
     obtain⟨-,-,rfl⟩:=h2
     exact hv1
def VsOk(v:List Bs):Prop:=v.length≤12/\∀ x∈v,x≠[]/\x.length≤9
theorem pVar_V{T:List Tok}(hT:TkOk T)(h2:∀ u∈T,u.kind=2->u.text≠[])(j k:Nat)(v:List Bs)(x:Ex)(k':Nat)(v':List Bs)(hk:(tk T j).kind=2)(hv:VsOk v)(h:pVar (tk T j) k v = .ok x k' v'):VsOk v':=by
 have hin:=tk_in (T:=T) (k:=j) (by omega)
 unfold pVar at h
 split at h
 ·injection h with h1 h2' h3
  subst h3
  exact hv
 ·split at h
  ·cases h
  ·rename_i hne
   injection h with h1 h2' h3
   subst h3
   have hl:=hv.1
   unfold maxVars at hne
   refine⟨by simp;omega,fun x hx=>?_⟩
   rcases List.mem_append.1 hx with hx | hx
   ·exact hv.2 x hx
   ·simp only[List.mem_cons,List.not_mem_nil,or_false] at hx
    subst hx
    exact⟨h2 _ hin hk,hT.len _ hin⟩
theorem quesT_vars{T:List Tok}(hT:TkOk T)(h2:∀ u∈T,u.kind=2->u.text≠[]){b:Bd}{k:Nat}{vs:List Bs}(h:quesT T = .ok b k vs):VsOk vs/\BdOk vs.length T.length b:=by
 unfold quesT at h
 split at h
 ·rename_i b1 k1 v1 hb
  have hq:=(kvB (pVar_V hT h2) _).body _ _ _ _ _ _ ⟨by simp,by simp⟩ hb
  have hk:=((bOk hT _).body _ _ _ _ _ _ hb).1
  split at h
  ·rename_i b2 k2 v2 hm
   obtain⟨rfl,rfl,rfl⟩:=musT_ok hm
   split at h
   ·injection h with e1 e2 e3
    subst e1 e3
    exact⟨hq,hk⟩
   ·cases h
  ·cases h
  ·cases h
 ·cases h
 ·cases h
end Go.Proofs.YtilpjhceemaplaaGreatDoor.P
namespace Go.Proofs.YtilpjhceemaplaaGreatDoor
open Go.RowKit Sx
def zb51:=(zA zG0 (zA @sh_Pr_parser_finished.eq_1 (zA @al_69 (zA @fa_67_4 (zA @fa_69_0 (zA @ld_32 (zA @ld_5 @st_69)))))))
theorem rFinished {pb tb:Nat} {T:List P.Tok} {k:Nat} {vars:List P.Bs} {d:Int} {er at_:Nat} {w:World} (h:RP w pb tb T k vars d er at_) :
  Calls Tryz.prog 24 #[pp pb] w fun e w'=>e = .returned (.tuple #[]) /\
   RP w' pb tb T k vars d (if er=0/\(P.tk T k).kind≠0 then 2 else er) (if er=0/\(P.tk T k).kind≠0 then(P.tk T k).pos else at_)/\RFr pb w w':=by
 obtain⟨lc,vv,hx⟩:=id h
 have hk4:=hx.kind4
 refine sh_Pr_parser_finished_ok ?_
 refine(rNext h).mono ?_
 rintro e w1 ⟨rfl,hE1⟩
 have s1:=hE1.size
 have l0:=ltOf hx.cell
 obtain⟨w2,hw2⟩:∃ y,y=upd (w1.alloc (.cells #[.int .u8 0,.string (bs []),zi 0] 69)) w1.heap.size (.cells #[.int .u8 (rk (P.tk T k).kind),.string (bs (P.tk T k).text),zi ((P.tk T k).pos)] 69):=⟨_,rfl⟩
 have hE2:Ext w w2:=by rw[hw2];(repeat (first | assumption | exact FrM.refl _ _ | (refine FrM.upd ?_ (.inr (by(try simp only[zS])<;>omega))) | refine FrM.alloc ?_ _ | refine FrM.drew ?_))
 have h2:=hx.ext hE2
 have h1:=hx.ext hE1
 have hc1:=h1.cell
 by_cases hc:er=0/\(P.tk T k).kind≠0
 ·rw[if_pos hc,if_pos hc]
  obtain⟨rfl,hk0⟩:=hc
  have hrk:¬ ((rk (P.tk T k).kind:Nat):Int)=101:=by have:=rk_end hk4;omega
  simp (disch:=first|assumption|omega|simp only[zS]<;>omega|decide) only[zb51,Nat.reduceAdd,Nat.reduceMul,Nat.reduceLeDiff,Nat.reduceEqDiff,Int.reduceToNat,Int.reduceAdd,Int.reduceLT,Int.reduceLE,↓reduceIte,hc1]
  rw[<- hw2]
  refine Calls.mono (rNone ⟨lc,vv,h2⟩) ?_
  rintro e w3 ⟨rfl,h3,hF3⟩
  rw[if_pos rfl,if_pos rfl] at h3
  exact⟨h3,hE2.toM.trans hF3⟩
 ·rw[if_neg hc,if_neg hc]
  by_cases he:er=0
  ·subst he
   have hk0:(P.tk T k).kind=0:=by simpa using hc
   have hrk:rk (P.tk T k).kind=101:=(rk_end hk4).2 hk0
   rw[hrk] at hw2
   rw[hrk]
   simp (disch:=first|assumption|omega|simp only[zS]<;>omega|decide) only[zb51,Nat.reduceAdd,Nat.reduceMul,Nat.reduceLeDiff,Nat.reduceEqDiff,Int.reduceToNat,Int.reduceAdd,Int.reduceLT,Int.reduceLE,↓reduceIte,hc1]
   rw[<- hw2]
   exact⟨⟨lc,vv,h2⟩,hE2.toM⟩
  ·have he':¬ ((er:Nat):Int)=0:=by omega
   simp (disch:=first|assumption|omega|simp only[zS]<;>omega|decide) only[zb51,Nat.reduceAdd,Nat.reduceMul,Nat.reduceLeDiff,Nat.reduceEqDiff,Int.reduceToNat,Int.reduceAdd,Int.reduceLT,Int.reduceLE,↓reduceIte,hc1]
   rw[<- hw2]
   exact⟨⟨lc,vv,h2⟩,hE2.toM⟩
def P.question(s:P.Bs):P.Res P.Bd:=P.ofText P.quesT s
def RPostQ(w:World)(r:P.Res P.Bd)(e:Ending)(w':World):Prop:=
 Ext w w'/\match r with
 | .err c a=>c≠0/\e = .returned (.tuple #[.agg #[.string (bs []),.slice none 0 0,.int .u8 0,.string (bs []),.slice none 0 0,.slice none 0 0,.slice none 0 0],.int .i64 c,.int .i64 a])
 | .ok x _ vs=>∃ b0 b1 b2 b3 va vc,e = .returned (.tuple #[.agg #[.string (bs []),.slice none 0 0,b0,b1,b2,b3,.slice va vs.length vc],.int .i64 0,.int .i64 (-1)]) /\
  IsRb (fun b=>w.heap.size≤b/\b<w'.heap.size) w' [b0,b1,b2,b3] x/\IsSl (fun b=>w.heap.size≤b/\b<w'.heap.size) w' 9 (.slice va vs.length vc) (vs.map fun s=>.string (bs s))/\vs.length≤12
def zb52:=(zA zG0 (zA @sh_r_Question.eq_1 (zA @al_40 (zA @al_43 (zA @bd_43 (zA @eqp_62 (zA @fa_67_2 (zA @fa_67_4 (zA @fa_67_5 (zA @ld_3 (zA @ld_32 (zA @ld_40 (zA @ld_41 (zA @ld_43 (zA @st_40 @st_43)))))))))))))))
set_option maxHeartbeats 1000000 in
theorem rQuestion (s:P.Bs) (w:World) (hl:s.length≤100000):Calls Tryz.prog 10 #[.string (bs s)] w (RPostQ w (P.question s)):=by
 refine sh_r_Question_ok ?_
 simp (disch:=first|assumption|omega|simp only[zS]<;>omega|decide) only[zb52,simprocAttr]
 obtain⟨w0,hw0⟩:∃ y,y=w.alloc (.cells #[.string (bs []),.slice none 0 0,.int .u8 0,.string (bs []),.slice none 0 0,.slice none 0 0,.slice none 0 0] 43 (0,0)):=⟨_,rfl⟩
 have hE0:Ext w w0:=by rw[hw0];exact(FrM.refl _ _).alloc _
 have g0:w0.heap[w.heap.size]?=some (.cells #[.string (bs []),.slice none 0 0,.int .u8 0,.string (bs []),.slice none 0 0,.slice none 0 0,.slice none 0 0] 43 (0,0)):=by rw[hw0];exact hp_alloc_new rfl
 rw[<- hw0]
 have hs0:w0.heap.size=w.heap.size+1:=by rw[hw0,size_alloc]
 have hEu:∀ {w1:World} {o:Obj},Ext w0 w1->Ext w (upd w1 w.heap.size o):=fun hE1=>(hE0.trans hE1).upd (.inr (Nat.le_refl _))
 refine Calls.mono (rBegun s w0 hl) ?_
 rintro e w1 ⟨hE1,(⟨hl2,rfl⟩| ⟨hl2,i,hi,rfl⟩| ⟨hl2,T,pb,tb,hT,rfl,hpw,hP1⟩)⟩
 ·have g1:=hE1.ext _ _ g0
  have l1:=ltOf g1
  simp (disch:=first|assumption|omega|simp only[zS]<;>omega|decide) only[zb52,simprocAttr,g1]
  rw[P.question,P.ofText,if_pos hl2]
  refine⟨?_,by decide,rfl⟩
  exact hEu hE1
 ·have g1:=hE1.ext _ _ g0
  have l1:=ltOf g1
  simp (disch:=first|assumption|omega|simp only[zS]<;>omega|decide) only[zb52,simprocAttr,g1]
  rw[P.question,P.ofText,if_neg (by omega),hi]
  refine⟨?_,by decide,rfl⟩
  exact hEu hE1
 ·have hpr:P.question s=P.quesT T:=by rw[P.question,P.ofText,if_neg (by omega),hT]
  rw[hpr]
  simp (disch:=first|assumption|omega|simp only[zS]<;>omega|decide) only[zb52,simprocAttr]
  cases hq:P.pBody T (P.fuelFor T) 0 [] 0 with
  | none=>
   obtain⟨r,hr⟩:=(P.totB T (P.fuelFor T)).body 0 [] 0 (by unfold P.fuelFor;omega)
   rw[hr] at hq;cases hq
  | some q=>
  refine Calls.mono ((rBodies (P.fuelFor T)).go (d:=0) hP1 (by omega) hq) ?_
  rintro e w2 ⟨a,b,c,f,rfl,⟨ha,hb,hc,hf⟩,hF2,hst⟩
  have s2:=hF2.size
  have s1:=hE1.size
  simp (disch:=first|assumption|omega|simp only[zS]<;>omega|decide) only[zb52,simprocAttr,ha,hb,hc,hf]
  obtain⟨w3,hw3⟩:∃ y,y=upd (w2.alloc (.cells #[.int .u8 0,.string (bs []),.slice none 0 0,.slice none 0 0] 40)) w2.heap.size (.cells #[a,b,c,f] 40):=⟨_,rfl⟩
  have hE3:Ext w2 w3:=by rw[hw3];(repeat (first | assumption | exact FrM.refl _ _ | (refine FrM.upd ?_ (.inr (by(try simp only[zS])<;>omega))) | refine FrM.alloc ?_ _ | refine FrM.drew ?_))
  have g3:w3.heap[w2.heap.size]?=some (.cells #[a,b,c,f] 40):=by rw[hw3];exact hp_upd_same rfl (by rw[size_alloc];omega)
  have hw3r:upd (w2.alloc (.cells #[.int .u8 0,.string (bs []),.slice none 0 0,.slice none 0 0] 40 (0,0))) w2.heap.size (.cells (wrL #[.int .u8 0,.string (bs []),.slice none 0 0,.slice none 0 0] 0 (Value.agg #[a,b,c,f]).cells.toList) 40 (0,0))=w3:=by rw[hw3];rfl
  rw[hw3r]
  have l3:=ltOf g3
  have hEf:∀ {w2:World},RFr pb w1 w2->Ext w0 w2:=fun hF=>⟨hF.os.trans hE1.os,hF.tape.trans hE1.tape,hF.output.trans hE1.output,Nat.le_trans hE1.size hF.size,fun b o hb _=>by
   have h1:=hE1.ext _ _ hb
   have h2:=ltOf hb
   exact hF.block b o h1 (by rintro (h | ⟨h,_⟩)<;>omega)⟩
  refine⟨fun _ w'=>∃ k vs er at_,RP w' pb tb T k vs 0 er at_/\RFr pb w3 w'/\((er=0/\at_=0/\∃ x,IsRb (Nu w1 w2) w2 [a,b,c,f] x/\((P.tk T k).kind=0->P.quesT T = .ok x k vs)/\((P.tk T k).kind≠0->P.quesT T = .err 2 (P.tk T k).pos))\/(er≠0/\P.quesT T = .err er at_)),?_,?_⟩
  ·cases q with
   | err c0 a0=>
    obtain⟨hc0,k2,vs2,hP2⟩:=hst
    have hP3:=hP2.ext hE3
    obtain⟨lc,vv,hx3⟩:=id hP3
    have h3:=hx3.cell
    have hc0':¬ ((c0:Nat):Int)=0:=by omega
    simp (disch:=first|assumption|omega|simp only[zS]<;>omega|decide) only[zb52,simprocAttr,h3]
    exact⟨k2,vs2,c0,a0,hP3,FrM.refl _ _,.inr ⟨hc0,by rw[P.quesT,hq]⟩⟩
   | ok x k2 vs2=>
    obtain⟨hx2,hP2⟩:=hst
    have hP3:=hP2.ext hE3
    obtain⟨lc,vv,hx3⟩:=id hP3
    have h3:=hx3.cell
    simp (disch:=first|assumption|omega|simp only[zS]<;>omega|decide) only[zb52,simprocAttr,h3]
    cases hmu:P.musT T [46] x k2 vs2 with
    | none=>unfold P.musT at hmu;split at hmu<;>cases hmu
    | some qm=>
    refine rMustX hP3 [46] x hmu ?_ ?_
    ·intro w4 hrm hP4 hF4
     simp (disch:=first|assumption|omega|simp only[zS]<;>omega|decide) only[zb52,simprocAttr]
     refine⟨_,_,_,_,hP4,hF4,.inl ⟨rfl,rfl,x,hx2,fun hk=>?_,fun hk=>?_⟩⟩
     ·rw[P.quesT,hq];simp only[hmu,hrm,if_pos hk]
     ·rw[P.quesT,hq];simp only[hmu,hrm,if_neg hk]
    ·intro w4 a4 hrm hP4 hF4
     simp (disch:=first|assumption|omega|simp only[zS]<;>omega|decide) only[zb52,simprocAttr]
     refine⟨_,_,_,_,hP4,hF4,.inr ⟨by decide,?_⟩⟩
     rw[P.quesT,hq];simp only[hmu,hrm]
  ·rintro s' w4 ⟨k4,vs4,er,at4,hP4,hF4,hor⟩ d'
   refine Calls.mono (rFinished hP4) ?_
   rintro e w5 ⟨rfl,hP5,hF5⟩
   obtain⟨er5,a5,her5,ha5⟩:∃ er5 a5,er5=(if er=0/\(P.tk T k4).kind≠0 then 2 else er)/\a5=(if er=0/\(P.tk T k4).kind≠0 then(P.tk T k4).pos else at4):=⟨_,_,rfl,rfl⟩
   rw[<- her5,<- ha5] at hP5
   obtain⟨lc,vv,hx5⟩:=id hP5
   have h5:=hx5.cell
   have hE5:Ext w0 w5.drew:=hEf ((((hF2.trans hE3.toM).trans hF4).trans hF5).drew)
   have g5:=hE5.ext _ _ g0
   have l5:=ltOf g5
   by_cases he5:er5=0
   ·have he0:er=0/\(P.tk T k4).kind=0:=by
     by_cases hc:er=0/\(P.tk T k4).kind≠0
     ·rw[if_pos hc] at her5;omega
     ·rw[if_neg hc] at her5
      refine⟨by omega,?_⟩
      have:er=0:=by omega
      simpa [this] using hc
    obtain⟨-,-,x,hx2,ht1,-⟩:=hor.resolve_right (fun h=>h.1 he0.1)
    have hte:=ht1 he0.2
    rw[hte]
    subst he5
    have own5:=hx5.own
    obtain⟨va,vc,rfl⟩:=own_slice own5
    have s4:=hF4.size
    have s5:=hF5.size
    obtain⟨lc1,vv1,hx1⟩:=id hP1
    have lpb:=ltOf hx1.cell
    have g5':w5.heap[w.heap.size]?=_:=g5
    have q5:w5.drew.heap[w2.heap.size]?=some (.cells #[a,b,c,f] 40):=(hF4.trans hF5).block _ _ g3 (by
     rintro (h | ⟨h,cs,z,h1⟩)
     ·omega
     ·simp at h1)
    simp (disch:=first|assumption|omega|simp only[zS]<;>omega|decide) only[zb52,simprocAttr,h5,q5,g5',ha,hb,hc,hf]
    have hsz:∀ o,(upd w5.drew w.heap.size o).heap.size=w5.heap.size:=fun o=>size_upd _ _ _
    have hup:∀ {b:Nat} {o o':Obj},b≠w.heap.size->w5.heap[b]?=some o->(upd w5.drew w.heap.size o').heap[b]?=some o:=fun hne ho=>by rw[hp_upd_other (by omega)];exact ho
    refine⟨hEu hE5,_,_,_,_,_,_,rfl,?_,?_,hx5.nv.2 rfl⟩
    ·refine hx2.mono (fun b hb=>⟨by have:=hb.1;omega,by rw[hsz];have:=hb.2;omega⟩) (fun bb cs hF hb=>?_) (fun bb cs hF hb=>?_)
     ·exact hup (by have:=hF.1;omega) ((hF4.trans hF5).block _ _ (hE3.ext _ _ hb) (by
       rintro (h | ⟨h,cs,z,h1⟩)
       ·have:=hF.1;omega
       ·simp at h1))
     ·exact hup (by have:=hF.1;omega) ((hF4.trans hF5).block _ _ (hE3.ext _ _ hb) (by
       rintro (h | ⟨h,cs,z,h1⟩)
       ·have:=hF.1;omega
       ·simp at h1))
    ·exact(own_IsSl own5 (F:=fun b=>pb+1≤b/\b<w5.heap.size) (fun b hb=>own5.lt b hb)).mono (fun b hb=>⟨by have:=hb.1;omega,by rw[hsz];exact hb.2⟩) (fun b cs hb ho=>hup (by have:=hb.1;omega) ho)
   ·have he5':¬ ((er5:Nat):Int)=0:=by omega
    have hte:P.quesT T = .err er5 a5:=by
     by_cases hc:er=0/\(P.tk T k4).kind≠0
     ·rw[if_pos hc] at her5 ha5
      obtain⟨-,-,x,hx2,-,ht1⟩:=hor.resolve_right (fun h=>h.1 hc.1)
      rw[ht1 hc.2,her5,ha5]
     ·rw[if_neg hc] at her5 ha5
      rw[her5,ha5]
      rcases hor with⟨h1,-⟩| ⟨-,h1⟩
      ·omega
      ·exact h1
    rw[hte]
    simp (disch:=first|assumption|omega|simp only[zS]<;>omega|decide) only[zb52,simprocAttr,h5]
    refine⟨fun w'=>w'.heap[pb]?=w5.heap[pb]?,rfl,?_⟩
    refine rds (.agg #[.string (bs []),.slice none 0 0,.int .u8 0,.string (bs []),.slice none 0 0,.slice none 0 0,.slice none 0 0]) (fun w' hS=>by simp (disch:=first|assumption|omega|simp only[zS]<;>omega|decide) only[zb52,simprocAttr]) ?_
    refine rds (pq pb 4) (fun w' hS=>by rw[h5] at hS;simp (disch:=first|assumption|omega|simp only[zS]<;>omega|decide) only[zb52,simprocAttr,hS]) (rds (zi (er5:Nat)) (fun w' hS=>by rw[h5] at hS;have:=ltOf hS;simp (disch:=first|assumption|omega|simp only[zS]<;>omega|decide) only[zb52,simprocAttr,hS]) ?_)
    refine rds (pq pb 5) (fun w' hS=>by rw[h5] at hS;simp (disch:=first|assumption|omega|simp only[zS]<;>omega|decide) only[zb52,simprocAttr,hS]) (rds (zi (a5:Nat)) (fun w' hS=>by rw[h5] at hS;have:=ltOf hS;simp (disch:=first|assumption|omega|simp only[zS]<;>omega|decide) only[zb52,simprocAttr,hS]) ?_)
    simp (disch:=first|assumption|omega|simp only[zS]<;>omega|decide) only[zb52,simprocAttr,g5]
    exact⟨hEu hE5,he5,rfl⟩
end Go.Proofs.YtilpjhceemaplaaGreatDoor
namespace Go.Proofs.YtilpjhceemaplaaGreatDoor.P
structure Nd where
 kind:Nat
 name:Bs
 n:Int
 args:List Nat
deriving Inhabited
structure Hp where
 nodes:List Nd
 to:List Int
 trail:List Nat
 cost:Nat
 most:Nat
 err:Nat
def Hp.nd(H:Hp)(t:Nat):Nd:=H.nodes.getD t ⟨0,[],0,[]⟩
def Hp.toOf(H:Hp)(t:Nat):Int:=H.to.getD t (-1)
def Hp.spent(H:Hp):Bool:=decide (H.most<H.cost) || decide (H.err≠0)
def Hp.add(H:Hp)(d:Nd):Hp:={ H with nodes:=H.nodes++[d],to:=H.to++[-1] }
def Hp.walk(H:Hp):Nat->Nat->Option Nat
 | 0,t=>if (H.nd t).kind=118/\0≤H.toOf t then none else some t
 | f+1,t=>if (H.nd t).kind=118/\0≤H.toOf t then H.walk f (H.toOf t).toNat else some t
def Hp.fresh(H:Hp):Nat->Hp×List Nat
 | 0=>(H,[])
 | n+1=>let (H',l):=(H.add ⟨118,[],0,[]⟩).fresh n;(H',H.nodes.length::l)
mutual
def Hp.made (H:Hp) (vs:List Nat):Ex->Hp×Nat
 | .mk kind name n k args=>if kind=118 then(H,vs.getD k 0) else
  let (H',l):=H.mades vs args
  (H'.add ⟨kind,name,n,l⟩,H'.nodes.length)
 termination_by structural x=>x
def Hp.mades (H:Hp) (vs:List Nat):List Ex->Hp×List Nat
 | []=>(H,[])
 | x::xs=>let (H',t):=H.made vs x;let (H'',l):=H'.mades vs xs;(H'',t::l)
 termination_by structural x=>x
end
def Hp.power(H:Hp)(t:Nat):Nat:=if (H.nd t).kind≠99 then 0 else P.power (H.nd t).name (H.nd t).args.length
abbrev Xr:=Bs×Nat×List Nat
def Xb(x:Option Xr)(k:Bs->Nat->List Nat->Option Xr):Option Xr:=
 match x with
 | none=>none
 | some (s,c,l)=>k s c l
def Hp.over(H:Hp)(c:Nat):Bool:=decide (H.most<c) || decide (H.err≠0)
mutual
def Hp.text (H:Hp):Nat->Nat->Nat->Nat->List Nat->Option Xr
 | 0,_,_,_,_=>none
 | f+1,t,least,c,seen=>
  if H.over (c+1) then some ([],c+1,seen)
  else match H.walk f t with
   | none=>none
   | some t=>
    if (H.nd t).kind=97 then some ((H.nd t).name,c+1,seen)
    else if (H.nd t).kind=110 then some (decI (H.nd t).n,c+1,seen)
    else if (H.nd t).kind=118 then match seen.idxOf? t with
     | some k=>some (95::decN (k+1),c+1,seen)
     | none=>some (95::decN (seen.length+1),c+1,seen++[t])
    else if H.power t≠0 then
     Xb (H.text f ((H.nd t).args.getD 0 0) (H.power t) (c+1) seen) fun a c seen=>Xb (H.text f ((H.nd t).args.getD 1 0) (H.power t+1) c seen) fun b c seen=>
      let op:=if (H.nd t).name=[109,111,100] then [32,109,111,100,32] else(H.nd t).name
      some (if H.power t<least then 40::(a++op++b++[41]) else a++op++b,c,seen)
    else if (H.nd t).name=[46]/\(H.nd t).args.length=2 then H.list f t [91] (c+1) seen
    else H.targs f (H.nd t).args true ((H.nd t).name++[40]) (c+1) seen
 termination_by structural f=>f
def Hp.targs (H:Hp):Nat->List Nat->Bool->Bs->Nat->List Nat->Option Xr
 | 0,_,_,_,_,_=>none
 | _+1,[],_,out,c,seen=>some (out++[41],c,seen)
 | f+1,a::r,first,out,c,seen=>Xb (H.text f a 0 c seen) fun s c seen=>H.targs f r false ((if first then out else out++[44])++s) c seen
 termination_by structural f=>f
def Hp.list (H:Hp):Nat->Nat->Bs->Nat->List Nat->Option Xr
 | 0,_,_,_,_=>none
 | f+1,t,out,c,seen=>
  Xb (H.text f ((H.nd t).args.getD 0 0) 0 c seen) fun a c seen=>
   match H.walk f ((H.nd t).args.getD 1 0) with
   | none=>none
   | some r=>
    if H.over c then some (out++a,c,seen)
    else if (H.nd r).kind=97/\(H.nd r).name=[91,93] then some (out++a++[93],c,seen)
    else if (H.nd r).kind=99/\(H.nd r).name=[46]/\(H.nd r).args.length=2 then H.list f r (out++a++[44]) c seen
    else Xb (H.text f r 0 c seen) fun b c seen=>some (out++a++[124]++b++[93],c,seen)
 termination_by structural f=>f
end
end Go.Proofs.YtilpjhceemaplaaGreatDoor.P
namespace Go.Proofs.YtilpjhceemaplaaGreatDoor
open Go.RowKit Sx
theorem Tryz.infoU8:(Tryz.prog.info? 5).map (fun i=>(i.zero,i.size,i.bytes))=some (some (.int .u8 0),1,1):=by kernel_rfl
mutual
def IsTm (F:Nat->Prop) (ρ:Nat->Nat) (n:Nat) (w:World) (v:Value):P.Tm->Prop
 | .atom s=>v = .iface 302 (.string (bs s))
 | .int k=>v = .iface 301 (.int .i64 k)
 | .var i=>i<n/\v = .iface 236 (.pointer (some ⟨ρ i,0,none⟩))
 | .comp name args=>∃ b av vs,v = .iface 306 (.pointer (some ⟨b,0,none⟩))/\F b/\w.heap[b]?=some (.cells #[.string (bs name),av] 336 (0,0)) /\
  IsSl F w 238 av vs/\IsTms F ρ n w vs args
 termination_by structural t=>t
def IsTms (F:Nat->Prop) (ρ:Nat->Nat) (n:Nat) (w:World) (vs:List Value):List P.Tm->Prop
 | []=>vs=[]
 | t::ts=>∃ v r,vs=v::r/\IsTm F ρ n w v t/\IsTms F ρ n w r ts
 termination_by structural t=>t
end
abbrev IsT(ρ:Nat->Nat)(n:Nat)(w:World)(v:Value)(t:P.Tm):Prop:=IsTm (fun _=>True) ρ n w v t
def KeepT(F:Nat->Prop)(w w':World):Prop:=∀ b cs t,F b->t=336\/t=238->w.heap[b]?=some (.cells cs t (0,0))->w'.heap[b]?=some (.cells cs t (0,0))
structure StV(ρ:Nat->Nat)(n:Nat)(tr:P.Tr)(w:World):Prop where
 inj:∀ i j,i<n->j<n->ρ i=ρ j->i=j
 var:∀ i,i<n->∃ ref,w.heap[ρ i]?=some (.cells #[ref] 240)/\(match P.look i tr with | none=>ref = .nilIface | some t=>IsT ρ n w ref t)
theorem digs_eq:∀ (f n:Nat),n<f->P.digs f n=Lib.decDigits n
 | 0,n,h=>by omega
 | f+1,n,h=>by
  rw[P.digs,Lib.decDigits]
  split
  ·rfl
  ·rw[digs_eq f (n / 10) (by omega)]
theorem decN_eq(n:Nat):P.decN n=Lib.decDigits n:=digs_eq _ _ (by omega)
end Go.Proofs.YtilpjhceemaplaaGreatDoor
namespace Go.Proofs.YtilpjhceemaplaaGreatDoor
open Go.Proofs.YtilpjhceemaplaaGreatDoor.Sx
section
variable{p0 p1 p2 p3 p4 p5 p6 p7:Value}{w:World}{R:Ending->World->Prop}
def sh_Pr_Heap_add(p0 p1 p2 p3 p4:Value)(w:World)(R:Ending->World->Prop):Prop:=
 xH 93 0 89 p0 w R fun x15=>
 WR Tryz.prog (Instr.buildSlice 89 1 #[(0,p1)]) w (fun x17 w1=>
 WR Tryz.prog (Builtin.append_ #[89,89] 89 #[x15,x17]) w1 (fun x18 v1=>
 NC p0 fun x19=>
 xrF 93 x19 0 v1 R fun x20=>
 xuS 89 x20 x18 v1 R fun v2=>
 xH 93 1 41 p0 v2 R fun x25=>
 WR Tryz.prog (Instr.buildSlice 41 1 #[(0,p2)]) v2 (fun x27 v3=>
 WR Tryz.prog (Builtin.append_ #[41,41] 41 #[x25,x27]) v3 (fun x28 v4=>
 NC p0 fun x29=>
 xrF 93 x29 1 v4 R fun x30=>
 xuS 41 x30 x28 v4 R fun v5=>
 xH 93 2 90 p0 v5 R fun x35=>
 WR Tryz.prog (Instr.buildSlice 90 1 #[(0,p3)]) v5 (fun x37 v6=>
 WR Tryz.prog (Builtin.append_ #[90,90] 90 #[x35,x37]) v6 (fun x38 v7=>
 NC p0 fun x39=>
 xrF 93 x39 2 v7 R fun x40=>
 xuS 90 x40 x38 v7 R fun v8=>
 xH 93 3 91 p0 v8 R fun x45=>
 WR Tryz.prog (Instr.buildSlice 91 1 #[(0,p4)]) v8 (fun x47 v9=>
 WR Tryz.prog (Builtin.append_ #[91,91] 91 #[x45,x47]) v9 (fun x48 v10=>
 NC p0 fun x49=>
 xrF 93 x49 3 v10 R fun x50=>
 xuS 91 x50 x48 v10 R fun v11=>
 xH 93 4 83 p0 v11 R fun x55=>
 WR Tryz.prog (Instr.buildSlice 83 1 #[(0,(.int .i64 (-1)))]) v11 (fun x56 v12=>
 WR Tryz.prog (Builtin.append_ #[83,83] 83 #[x55,x56]) v12 (fun x57 v13=>
 NC p0 fun x58=>
 xrF 93 x58 4 v13 R fun x59=>
 xuS 83 x59 x57 v13 R fun v14=>
 xH 93 0 89 p0 v14 R fun x63=>
 xrN 89 x63 v14 R fun x64=>
 xrO .sub 3 64 x64 (.int .i64 1) v14 R fun x65=>
 R (.returned x65) v14) (PX R)) (PX R)) (PX R)) (PX R)) (PX R)) (PX R)) (PX R)) (PX R)) (PX R)) (PX R)
theorem sh_Pr_Heap_add_ok(h:sh_Pr_Heap_add p0 p1 p2 p3 p4 w R):Calls Tryz.prog 45 #[p0,p1,p2,p3,p4] w R:=
 cq (args:=[p0,p1,p2,p3,p4]) (good (fun _=>[]) (fun _=>none) (fun _=>0) (fun _=>none) (fun _=>[]) (fun _=>[]) (fun _=>false) (fun _=>false)) Tryz.func45 rfl (by kernel_rfl) (by kernel_rfl) h
def sh_Pr_Heap_Spent(p0:Value)(w:World)(R:Ending->World->Prop):Prop:=
 nH 93 6 3 p0 w.drew fun x6=>
 nH 93 7 3 p0 w.drew fun x10=>
 nrT .gtr 3 6 10 x6 x10 w.drew fun x11=>BS x11 (
 R (.returned (.bool true)) w.drew) (
 nH 93 8 32 p0 w.drew fun x16=>
 nrO .neq 32 16 x16 (.int .i64 0) w.drew fun x17=>
 R (.returned x17) w.drew)
theorem sh_Pr_Heap_Spent_ok(h:sh_Pr_Heap_Spent p0 w R):Calls Tryz.prog 46 #[p0] w R:=
 cq (args:=[p0]) (good (fun _=>[]) (fun _=>none) (zN [(1,17)]) (fun _=>none) (fun _=>[]) (fun _=>[]) (fun _=>false) (zT [2,17,18])) Tryz.func46 rfl (by kernel_rfl) (by kernel_rfl) h
def sh_Pr_Heap_walk(p0 p1:Value)(w:World)(R:Ending->World->Prop):Prop:=
 JS (fun j=>
 LoopW (fun rec s_1 d_1 v1=>
 xH 93 0 89 p0 v1 R fun x8=>
 xrI 89 x8 (s_1 1) v1 R fun x10=>
 xrL 5 x10 v1 R fun x11=>
 xrO .eql 5 11 x11 (.int .u8 118) v1 R fun x12=>BS x12 (
 xH 93 4 83 p0 v1 R fun x17=>
 xrI 83 x17 (s_1 1) v1 R fun x19=>
 xrL 3 x19 v1 R fun x20=>
 xrO .geq 3 20 x20 (.int .i64 0) v1 R fun x21=>
 BS x21 (xH 93 4 83 p0 v1 R fun x26=>
 xrI 83 x26 (s_1 1) v1 R fun x28=>
 xrL 3 x28 v1 R fun x29=>
 rec (sOf [(1,x29)]) v1) (j (sOf [(1,(s_1 1))]) v1)) (
 BS (.bool false) (xH 93 4 83 p0 v1 R fun x26_1=>
 xrI 83 x26_1 (s_1 1) v1 R fun x28_1=>
 xrL 3 x28_1 v1 R fun x29_1=>
 rec (sOf [(1,x29_1)]) v1) (j (sOf [(1,(s_1 1))]) v1)))
 (sOf [(1,p1)]) w)
 (fun s d w1=>
 R (.returned (s 1)) w1)
theorem sh_Pr_Heap_walk_ok(h:sh_Pr_Heap_walk p0 p1 w R):Calls Tryz.prog 87 #[p0,p1] w R:=
 cq (args:=[p0,p1]) (good (zL [(1,[1])]) (zO [(2001,[1])]) (fun _=>0) (fun _=>none) (zL [(1,[])]) (zL [(2001,[])]) (zT [2001]) (zT [21,22])) Tryz.func87 rfl (by kernel_rfl) (by kernel_rfl) h
def sh_Pr_Heap_fresh(p0 p1:Value)(w:World)(R:Ending->World->Prop):Prop:=
 LoopW (fun rec s d w1=>
 xrT .lss 3 8 9 (s 6) p1 w1 R fun x10=>
 BS x10 (xC 45 #[p0,(.int .u8 118),(.string (bs [])),(.int .i64 0),(.slice none 0 0)] w1 R fun x14 v1=>
 WR Tryz.prog (Instr.buildSlice 83 1 #[(0,x14)]) v1 (fun x17 v2=>
 WR Tryz.prog (Builtin.append_ #[83,83] 83 #[(s 5),x17]) v2 (fun x18 v3=>
 xrO .add 3 11 (s 6) (.int .i64 1) v3 R fun x12=>
 rec (sOf [(5,x18),(6,x12)]) v3) (PX R)) (PX R)) (R (.returned (s 5)) w1))
 (sOf [(5,(.slice none 0 0)),(6,(.int .i64 0))]) w
theorem sh_Pr_Heap_fresh_ok(h:sh_Pr_Heap_fresh p0 p1 w R):Calls Tryz.prog 26 #[p0,p1] w R:=
 cq (args:=[p0,p1]) (good (zL [(3,[5,6])]) (fun _=>none) (fun _=>0) (fun _=>none) (zL [(3,[])]) (fun _=>[]) (fun _=>false) (zT [10])) Tryz.func26 rfl (by kernel_rfl) (by kernel_rfl) h
def sh_Pr_Heap_made(p0 p1 p2:Value)(w:World)(R:Ending->World->Prop):Prop:=
 xwB 111 p1 w R fun x4 w1=>
 xG 111 0 5 x4 w1 R fun x11=>
 xrO .eql 5 11 x11 (.int .u8 118) w1 R fun x12=>
 BS x12 (xG 111 3 3 x4 w1 R fun x15=>
 xrI 83 p2 x15 w1 R fun x16=>
 xrL 3 x16 w1 R fun x17=>
 R (.returned x17) w1) (LoopW (fun rec s d v1=>
 xG 111 4 37 x4 v1 R fun x20=>
 xrN 37 x20 v1 R fun x21=>
 xrT .lss 3 18 21 (s 8) x21 v1 R fun x22=>
 BS x22 (xG 111 4 37 x4 v1 R fun x27=>
 xrI 37 x27 (s 8) v1 R fun x29=>
 xrL 111 x29 v1 R fun x30=>
 xC 85 #[p0,x30,p2] v1 R fun x32 v2=>
 WR Tryz.prog (Instr.buildSlice 83 1 #[(0,x32)]) v2 (fun x35 v3=>
 WR Tryz.prog (Builtin.append_ #[83,83] 83 #[(s 7),x35]) v3 (fun x36 v4=>
 xrO .add 3 23 (s 8) (.int .i64 1) v4 R fun x24=>
 rec (sOf [(7,x36),(8,x24)]) v4) (PX R)) (PX R)) (xG 111 0 5 x4 v1 R fun x39=>
 xG 111 1 9 x4 v1 R fun x41=>
 xG 111 2 2 x4 v1 R fun x43=>
 xC 45 #[p0,x39,x41,x43,(s 7)] v1 R fun x45 v5=>
 R (.returned x45) v5))
 (sOf [(7,(.slice none 0 0)),(8,(.int .i64 0))]) w1)
theorem sh_Pr_Heap_made_ok(h:sh_Pr_Heap_made p0 p1 p2 w R):Calls Tryz.prog 85 #[p0,p1,p2] w R:=
 cq (args:=[p0,p1,p2]) (good (zL [(5,[7,8])]) (fun _=>none) (fun _=>0) (fun _=>none) (zL [(5,[])]) (fun _=>[]) (fun _=>false) (zT [12,22])) Tryz.func85 rfl (by kernel_rfl) (by kernel_rfl) h
def sh_r_decimal(p0:Value)(w:World)(R:Ending->World->Prop):Prop:=
 xrO .lss 2 6 p0 (.int .i64 0) w R fun x7=>
 BS x7 (RD Tryz.prog (Op.unary .neg p0) w (fun x10=>
 xrT .eql 2 8 10 p0 x10 w R fun x11=>
 BS x11 (R (.returned (.string (bs [45,57,50,50,51,51,55,50,48,51,54,56,53,52,55,55,53,56,48,56]))) w) (RD Tryz.prog (Op.unary .neg p0) w (fun x13=>
 xC 88 #[x13] w R fun x14 w1=>
 RD Tryz.prog (bo .add 9 (.const (.string (bs [45]))) (.tmp 15) (.string (bs [45])) x14) w1 (fun x16=>
 R (.returned x16) w1) (PX R)) (PX R))) (PX R)) (xrO .rem 2 17 p0 (.int .i64 10) w R fun x18=>
 xrO .rem 2 19 p0 (.int .i64 10) w R fun x20=>
 xrO .add 2 20 x20 (.int .i64 1) w R fun x21=>
 RD Tryz.prog (Instr.sliceAt 9 (.string (bs [48,49,50,51,52,53,54,55,56,57])) (some x18) (some x21) none) w (fun x22=>
 xrO .lss 2 23 p0 (.int .i64 10) w R fun x24=>
 BS x24 (R (.returned x22) w) (xrO .quo 2 26 p0 (.int .i64 10) w R fun x27=>
 xC 88 #[x27] w R fun x28 v1=>
 xrT .add 9 29 30 x28 x22 v1 R fun x31=>
 R (.returned x31) v1)) (PX R))
theorem sh_r_decimal_ok(h:sh_r_decimal p0 w R):Calls Tryz.prog 88 #[p0] w R:=
 cq (args:=[p0]) (good (fun _=>[]) (fun _=>none) (fun _=>0) (fun _=>none) (fun _=>[]) (fun _=>[]) (fun _=>false) (zT [7,11,24])) Tryz.func88 rfl (by kernel_rfl) (by kernel_rfl) h
def sh_Pr_writer_power(p0 p1:Value)(w:World)(R:Ending->World->Prop):Prop:=
 JS (fun j=>
 JS (fun j_1=>
 xH 151 0 79 p0 w R fun x8=>
 xH 93 0 89 x8 w R fun x11=>
 xrI 89 x11 p1 w R fun x13=>
 xrL 5 x13 w R fun x14=>
 xrO .neq 5 14 x14 (.int .u8 99) w R fun x15=>BS x15 (
 j_1 (sOf [(29,(.bool true))]) w) (
 xH 151 0 79 p0 w R fun x20=>
 xH 93 3 91 x20 w R fun x23=>
 xrI 91 x23 p1 w R fun x25=>
 xrL 83 x25 w R fun x26=>
 xrN 83 x26 w R fun x27=>
 xrO .neq 3 27 x27 (.int .i64 2) w R fun x28=>
 j_1 (sOf [(29,x28)]) w))
 (fun s_1 d_1 v1=>
 BS (s_1 29) (R (.returned (.int .i64 0)) v1) (j (sOf []) v1)))
 (fun s d w1=>
 xH 151 0 79 p0 w1 R fun x33=>
 xH 93 1 41 x33 w1 R fun x36=>
 xrI 41 x36 p1 w1 R fun x38=>
 xrL 9 x38 w1 R fun x39=>
 JS (fun j_2=>
 xrO .eql 9 39 x39 (.string (bs [43])) w1 R fun x41=>
 BS x41 (j_2 (sOf [(40,x41)]) w1) (xrO .eql 9 39 x39 (.string (bs [45])) w1 R fun x42=>
 j_2 (sOf [(40,x42)]) w1))
 (fun s_2 d_2 v2=>
 BS (s_2 40) (R (.returned (.int .i64 1)) v2) (JS (fun j_3=>
 xrO .eql 9 39 x39 (.string (bs [42])) v2 R fun x44=>
 BS x44 (j_3 (sOf [(43,x44)]) v2) (xrO .eql 9 39 x39 (.string (bs [47,47])) v2 R fun x45=>
 BS x45 (j_3 (sOf [(43,x45)]) v2) (xrO .eql 9 39 x39 (.string (bs [109,111,100])) v2 R fun x46=>
 j_3 (sOf [(43,x46)]) v2)))
 (fun s_3 d_3 v3=>
 BS (s_3 43) (R (.returned (.int .i64 2)) v3) (R (.returned (.int .i64 0)) v3)))))
theorem sh_Pr_writer_power_ok(h:sh_Pr_writer_power p0 p1 w R):Calls Tryz.prog 89 #[p0,p1] w R:=
 cq (args:=[p0,p1]) (good (fun _=>[]) (zO [(1000,[29]),(2001,[]),(5001,[40]),(9002,[43])]) (fun _=>0) (fun _=>none) (fun _=>[]) (zL [(1000,[]),(2001,[]),(5001,[]),(9002,[])]) (zT [1000,2001,5001,9002]) (zT [28,29,40,41,42,43,44,45,46])) Tryz.func89 rfl (by kernel_rfl) (by kernel_rfl) h
def sh_Pr_writer_text(p0 p1 p2:Value)(w:World)(R:Ending->World->Prop):Prop:=
 xH 151 0 79 p0 w R fun x22=>
 xH 93 6 3 x22 w R fun x25=>
 xrO .add 3 25 x25 (.int .i64 1) w R fun x26=>
 NC x22 fun x27=>
 xrF 93 x27 6 w R fun x28=>
 xuS 3 x28 x26 w R fun w1=>
 xH 151 0 79 p0 w1 R fun x32=>
 xC 46 #[x32] w1 R fun x33 v1=>
 BS x33 (R (.returned (.string (bs []))) v1) (xH 151 0 79 p0 v1 R fun x38=>
 xC 87 #[x38,p1] v1 R fun x40 v2=>
 xH 151 0 79 p0 v2 R fun x44=>
 xH 93 0 89 x44 v2 R fun x47=>
 xrI 89 x47 x40 v2 R fun x49=>
 xrL 5 x49 v2 R fun x50=>
 xrO .eql 5 50 x50 (.int .u8 97) v2 R fun x52=>
 BS x52 (xH 151 0 79 p0 v2 R fun x56=>
 xH 93 1 41 x56 v2 R fun x59=>
 xrI 41 x59 x40 v2 R fun x61=>
 xrL 9 x61 v2 R fun x62=>
 R (.returned x62) v2) (xrO .eql 5 50 x50 (.int .u8 110) v2 R fun x64=>
 BS x64 (xH 151 0 79 p0 v2 R fun x68=>
 xH 93 2 90 x68 v2 R fun x71=>
 xrI 90 x71 x40 v2 R fun x73=>
 xrL 2 x73 v2 R fun x74=>
 xC 88 #[x74] v2 R fun x75 v3=>
 R (.returned x75) v3) (xrO .eql 5 50 x50 (.int .u8 118) v2 R fun x77=>
 BS x77 (LoopW (fun rec s d v4=>
 xH 151 1 83 p0 v4 R fun x82=>
 xrN 83 x82 v4 R fun x83=>
 xrT .lss 3 78 83 (s 8) x83 v4 R fun x84=>
 BS x84 (xH 151 1 83 p0 v4 R fun x90=>
 xrI 83 x90 (s 8) v4 R fun x92=>
 xrL 3 x92 v4 R fun x93=>
 xrT .eql 3 93 94 x93 x40 v4 R fun x95=>
 BS x95 (xrO .add 3 96 (s 8) (.int .i64 1) v4 R fun x97=>
 xC 88 #[x97] v4 R fun x98 v5=>
 RD Tryz.prog (bo .add 9 (.const (.string (bs [95]))) (.tmp 99) (.string (bs [95])) x98) v5 (fun x100=>
 R (.returned x100) v5) (PX R)) (xrO .add 3 85 (s 8) (.int .i64 1) v4 R fun x86=>
 rec (sOf [(8,x86)]) v4)) (xH 151 1 83 p0 v4 R fun x105=>
 WR Tryz.prog (Instr.buildSlice 83 1 #[(0,x40)]) v4 (fun x107 v6=>
 WR Tryz.prog (Builtin.append_ #[83,83] 83 #[x105,x107]) v6 (fun x108 v7=>
 NC p0 fun x109=>
 xrF 151 x109 1 v7 R fun x110=>
 xuS 83 x110 x108 v7 R fun v8=>
 xH 151 1 83 p0 v8 R fun x114=>
 xrN 83 x114 v8 R fun x115=>
 xC 88 #[x115] v8 R fun x116 v9=>
 RD Tryz.prog (bo .add 9 (.const (.string (bs [95]))) (.tmp 117) (.string (bs [95])) x116) v9 (fun x118=>
 R (.returned x118) v9) (PX R)) (PX R)) (PX R)))
 (sOf [(8,(.int .i64 0))]) v2) (xC 89 #[p0,x40] v2 R fun x121 v10=>
 xH 151 0 79 p0 v10 R fun x125=>
 xH 93 3 91 x125 v10 R fun x128=>
 xrI 91 x128 x40 v10 R fun x130=>
 xrL 83 x130 v10 R fun x131=>
 xrO .gtr 3 132 x121 (.int .i64 0) v10 R fun x133=>
 BS x133 (xrI 83 x131 (.int .i64 0) v10 R fun x136=>
 xrL 3 x136 v10 R fun x137=>
 xC 50 #[p0,x137,x121] v10 R fun x139 v11=>
 xrI 83 x131 (.int .i64 1) v11 R fun x142=>
 xrL 3 x142 v11 R fun x143=>
 xrO .add 3 144 x121 (.int .i64 1) v11 R fun x145=>
 xC 50 #[p0,x143,x145] v11 R fun x146 v12=>
 xH 151 0 79 p0 v12 R fun x150=>
 xH 93 1 41 x150 v12 R fun x153=>
 xrI 41 x153 x40 v12 R fun x155=>
 xrL 9 x155 v12 R fun x156=>
 JS (fun j=>
 xrO .eql 9 157 x156 (.string (bs [109,111,100])) v12 R fun x158=>
 BS x158 (j (sOf [(15,(.string (bs [32,109,111,100,32])))]) v12) (j (sOf [(15,x156)]) v12))
 (fun s_1 d_1 v13=>
 xrT .lss 3 159 160 x121 p2 v13 R fun x161=>
 BS x161 (RD Tryz.prog (bo .add 9 (.const (.string (bs [40]))) (.tmp 162) (.string (bs [40])) x139) v13 (fun x163=>
 xrT .add 9 163 164 x163 (s_1 15) v13 R fun x165=>
 xrT .add 9 165 166 x165 x146 v13 R fun x167=>
 xrO .add 9 167 x167 (.string (bs [41])) v13 R fun x168=>
 R (.returned x168) v13) (PX R)) (xrT .add 9 169 170 x139 (s_1 15) v13 R fun x171=>
 xrT .add 9 171 172 x171 x146 v13 R fun x173=>
 R (.returned x173) v13))) (JS (fun j_1=>
 JS (fun j_2=>
 xH 151 0 79 p0 v10 R fun x177=>
 xH 93 1 41 x177 v10 R fun x180=>
 xrI 41 x180 x40 v10 R fun x182=>
 xrL 9 x182 v10 R fun x183=>
 xrO .eql 9 183 x183 (.string (bs [46])) v10 R fun x184=>BS x184 (
 xrN 83 x131 v10 R fun x187=>
 xrO .eql 3 187 x187 (.int .i64 2) v10 R fun x188=>
 j_2 (sOf [(189,x188)]) v10) (
 j_2 (sOf [(189,(.bool false))]) v10))
 (fun s_3 d_3 v15=>
 BS (s_3 189) (xC 90 #[p0,x40] v15 R fun x192 v16=>
 R (.returned x192) v16) (j_1 (sOf []) v15)))
 (fun s_2 d_2 v14=>
 xH 151 0 79 p0 v14 R fun x196=>
 xH 93 1 41 x196 v14 R fun x199=>
 xrI 41 x199 x40 v14 R fun x201=>
 xrL 9 x201 v14 R fun x202=>
 xrO .add 9 202 x202 (.string (bs [40])) v14 R fun x203=>
 LoopW (fun rec_1 s_4 d_4 v17=>
 xrN 83 x131 v17 R fun x206=>
 xrT .lss 3 204 206 (s_4 17) x206 v17 R fun x207=>
 BS x207 (JS (fun j_3=>
 xrI 83 x131 (s_4 17) v17 R fun x213=>
 xrL 3 x213 v17 R fun x214=>
 xC 50 #[p0,x214,(.int .i64 0)] v17 R fun x215 v19=>
 JS (fun j_4=>
 xrO .gtr 3 216 (s_4 17) (.int .i64 0) v19 R fun x217=>
 BS x217 (xrO .add 9 218 (s_4 16) (.string (bs [44])) v19 R fun x219=>
 j_4 (sOf [(16,x219)]) v19) (j_4 (sOf [(16,(s_4 16))]) v19))
 (fun s_6 d_6 v20=>
 xrT .add 9 220 221 (s_6 16) x215 v20 R fun x222=>
 j_3 (sOf [(16,x222)]) v20))
 (fun s_5 d_5 v18=>
 xrO .add 3 208 (s_4 17) (.int .i64 1) v18 R fun x209=>
 rec_1 (sOf [(16,(s_5 16)),(17,x209)]) v18)) (xrO .add 9 223 (s_4 16) (.string (bs [41])) v17 R fun x224=>
 R (.returned x224) v17))
 (sOf [(16,x203),(17,(.int .i64 0))]) v14))))))
theorem sh_Pr_writer_text_ok(h:sh_Pr_writer_text p0 p1 p2 w R):Calls Tryz.prog 50 #[p0,p1,p2] w R:=
 cq (args:=[p0,p1,p2]) (good (zL [(13,[8]),(36,[16,17])]) (zO [(28001,[15]),(32000,[189]),(33001,[]),(40001,[16]),(41003,[16])]) (fun _=>0) (fun _=>none) (zL [(13,[]),(36,[])]) (zL [(28001,[]),(32000,[]),(33001,[]),(40001,[]),(41003,[])]) (zT [28001,32000,33001,40001,41003]) (zT [7,33,34,51,52,63,64,76,77,84,95,133,158,161,188,189,207,217])) Tryz.func50 rfl (by kernel_rfl) (by kernel_rfl) h
def sh_Pr_writer_list(p0 p1:Value)(w:World)(R:Ending->World->Prop):Prop:=
 LoopW (fun rec s d w1=>
 xH 151 0 79 p0 w1 R fun x14=>
 xH 93 3 91 x14 w1 R fun x17=>
 xrI 91 x17 (s 1) w1 R fun x19=>
 xrL 83 x19 w1 R fun x20=>
 xrI 83 x20 (.int .i64 0) w1 R fun x23=>
 xrL 3 x23 w1 R fun x24=>
 xC 50 #[p0,x24,(.int .i64 0)] w1 R fun x25 v1=>
 xrT .add 9 26 27 (s 5) x25 v1 R fun x28=>
 nH 151 0 79 p0 v1.drew fun x32=>
 nrI 83 x20 (.int .i64 1) v1.drew fun x34=>
 nrL 3 x34 v1.drew fun x35=>
 xC 87 #[x32,x35] v1.drew R fun x36 v2=>
 xH 151 0 79 p0 v2 R fun x40=>
 xC 46 #[x40] v2 R fun x41 v3=>
 BS x41 (R (.returned x28) v3) (JS (fun j=>
 JS (fun j_1=>
 xH 151 0 79 p0 v3 R fun x47=>
 xH 93 0 89 x47 v3 R fun x50=>
 xrI 89 x50 x36 v3 R fun x52=>
 xrL 5 x52 v3 R fun x53=>
 xrO .eql 5 53 x53 (.int .u8 97) v3 R fun x54=>BS x54 (
 xH 151 0 79 p0 v3 R fun x59=>
 xH 93 1 41 x59 v3 R fun x62=>
 xrI 41 x62 x36 v3 R fun x64=>
 xrL 9 x64 v3 R fun x65=>
 xrO .eql 9 65 x65 (.string (bs [91,93])) v3 R fun x66=>
 j_1 (sOf [(67,x66)]) v3) (
 j_1 (sOf [(67,(.bool false))]) v3))
 (fun s_2 d_2 v5=>
 BS (s_2 67) (xrO .add 9 68 x28 (.string (bs [93])) v5 R fun x69=>
 R (.returned x69) v5) (j (sOf []) v5)))
 (fun s_1 d_1 v4=>
 JS (fun j_2=>
 JS (fun j_3=>
 xH 151 0 79 p0 v4 R fun x73=>
 xH 93 0 89 x73 v4 R fun x76=>
 xrI 89 x76 x36 v4 R fun x78=>
 xrL 5 x78 v4 R fun x79=>
 xrO .neq 5 79 x79 (.int .u8 99) v4 R fun x80=>BS x80 (
 j_3 (sOf [(107,(.bool true))]) v4) (
 xH 151 0 79 p0 v4 R fun x85=>
 xH 93 1 41 x85 v4 R fun x88=>
 xrI 41 x88 x36 v4 R fun x90=>
 xrL 9 x90 v4 R fun x91=>
 xrO .neq 9 91 x91 (.string (bs [46])) v4 R fun x92=>BS x92 (
 j_3 (sOf [(107,(.bool true))]) v4) (
 xH 151 0 79 p0 v4 R fun x98=>
 xH 93 3 91 x98 v4 R fun x101=>
 xrI 91 x101 x36 v4 R fun x103=>
 xrL 83 x103 v4 R fun x104=>
 xrN 83 x104 v4 R fun x105=>
 xrO .neq 3 105 x105 (.int .i64 2) v4 R fun x106=>
 j_3 (sOf [(107,x106)]) v4)))
 (fun s_4 d_4 v7=>
 BS (s_4 107) (xC 50 #[p0,x36,(.int .i64 0)] v7 R fun x110 v8=>
 xrO .add 9 111 x28 (.string (bs [124])) v8 R fun x112=>
 xrT .add 9 112 113 x112 x110 v8 R fun x114=>
 xrO .add 9 114 x114 (.string (bs [93])) v8 R fun x115=>
 R (.returned x115) v8) (j_2 (sOf []) v7)))
 (fun s_3 d_3 v6=>
 xrO .add 9 116 x28 (.string (bs [44])) v6 R fun x117=>
 rec (sOf [(1,x36),(5,x117)]) v6))))
 (sOf [(1,p1),(5,(.string (bs [91])))]) w
theorem sh_Pr_writer_list_ok(h:sh_Pr_writer_list p0 p1 w R):Calls Tryz.prog 90 #[p0,p1] w R:=
 cq (args:=[p0,p1]) (good (zL [(2,[1,5])]) (zO [(9000,[67]),(10001,[]),(11000,[107]),(13002,[])]) (zN [(5,7)]) (fun _=>none) (zL [(2,[])]) (zL [(9000,[]),(10001,[]),(11000,[]),(13002,[])]) (zT [9000,10001,11000,13002]) (zT [9,41,42,66,67,106,107])) Tryz.func90 rfl (by kernel_rfl) (by kernel_rfl) h
end
end Go.Proofs.YtilpjhceemaplaaGreatDoor
namespace Go.Proofs.YtilpjhceemaplaaGreatDoor
open Go.RowKit Sx
def OwnOf(w:World)(hb b:Nat):Prop:=b=hb\/∃ cs T,w.heap[hb]?=some (.cells cs T (0,0))/\∃ v∈cs.toList,v.ownBlock=some b
structure HFr(hb:Nat)(w w':World):Prop where
 fr:FrM (fun b _=>OwnOf w hb b) w w'
 own:∀ b,OwnOf w' hb b->OwnOf w hb b\/w.heap.size≤b
theorem HFr.refl(hb:Nat)(w:World):HFr hb w w:=⟨FrM.refl _ _,fun _ h=>.inl h⟩
theorem HFr.trans{hb:Nat}{a b c:World}(h:HFr hb a b)(k:HFr hb b c):HFr hb a c:=
 ⟨⟨k.fr.os.trans h.fr.os,k.fr.tape.trans h.fr.tape,k.fr.output.trans h.fr.output,Nat.le_trans h.fr.size k.fr.size,fun i o hi hm=>by
  refine k.fr.block i o (h.fr.block i o hi hm) fun hx=>?_
  rcases h.own i hx with h1 | h1
  ·exact hm h1
  ·have:=ltOf hi;omega⟩,fun i hi=>by
  rcases k.own i hi with h1 | h1
  ·exact h.own i h1
  ·exact .inr (Nat.le_trans h.fr.size h1)⟩
theorem HFr.ofExt{hb:Nat}{a b:World}(h:Ext a b)(hl:hb<a.heap.size):HFr hb a b:=
 ⟨h.toM,fun i hi=>by
  rcases hi with rfl | ⟨cs,T,h1,h2⟩
  ·exact .inl (.inl rfl)
  ·cases ho:a.heap[hb]? with
   | none=>rw[Array.getElem?_eq_getElem hl] at ho;cases ho
   | some o=>
    rw[h.ext _ _ ho] at h1
    injection h1 with h1
    subst h1
    exact .inl (.inr ⟨cs,T,ho,h2⟩)⟩
abbrev Row:=Nat×Value×List Value
def Row.Dis(a b:Row):Prop:=a.2.1.ownBlock=none\/a.2.1.ownBlock≠b.2.1.ownBlock
structure QR(w:World)(hb T:Nat)(rows:List Row)(tail:List Value):Prop where
 cell:w.heap[hb]?=some (.cells (rows.map (·.2.1)++tail).toArray T (0,0))
 own:∀ r∈rows,w.ownsRow (hb+1) r.1 1 r.2.1 r.2.2.length r.2.2
 dis:∀ (i j:Nat) (a b:Row),i≠j->rows[i]?=some a->rows[j]?=some b->Row.Dis a b
 tl:∀ v∈tail,v.ownBlock=none
theorem own_kept{w w2:World}{base e n:Nat}{u:Value}{ys:List Value}{r:Option Nat}(hu:w.ownsRow base e 1 u n ys)(hg:w.grownBy w2 r)(hne:u.ownBlock=none\/u.ownBlock≠r):w2.ownsRow base e 1 u n ys:=by
 obtain⟨h0,hu⟩:=hu
 refine⟨h0,?_⟩
 rcases hu with h | ⟨g,cap,cur,rfl,h1,h2,h3⟩
 ·exact .inl h
 ·refine .inr ⟨g,cap,cur,rfl,h1,?_,h3⟩
  rw[hg.block g (ltOf h2) (fun e=>?_)]
  ·exact h2
  ·rcases hne with h | h
   ·cases h
   ·exact h e
theorem QR.step{w w2 w3:World}{hb T:Nat}{rows:List Row}{tail:List Value}(h:QR w hb T rows tail){i e:Nat}{v:Value}{xs:List Value}(hi:rows[i]?=some (e,v,xs)){x v':Value}
  (ho:w2.ownsRow (hb+1) e 1 v' (xs.length+1) (xs++[x])) (hg:w.grownBy w2 v.ownBlock) (hv:v'.ownBlock=v.ownBlock\/∀ k,v'.ownBlock=some k->w.heap.size≤k)
  {l3:List Value} (hl3:(rows.set i (e,v',xs++[x])).map (·.2.1)++tail=l3) (h3:w3=upd w2 hb (.cells l3.toArray T (0,0))) :
  (QR w3 hb T (rows.set i (e,v',xs++[x])) tail/\HFr hb w w3)/\w2.heap[hb]?=some (.cells (rows.map (·.2.1)++tail).toArray T (0,0)):=by
 have hil:i<rows.length:=(List.getElem?_eq_some_iff.1 hi).1
 have hmem:(e,v,xs)∈rows:=List.mem_of_getElem? hi
 have lb:=ltOf h.cell
 have hvb:v.ownBlock≠some hb:=fun e'=>by have:=((h.own _ hmem).lt hb e').1;omega
 have hb2:w2.heap[hb]?=some (.cells (rows.map (·.2.1)++tail).toArray T (0,0)):=by
  rw[hg.block hb lb (fun e'=>hvb e'.symm)];exact h.cell
 have lb2:=ltOf hb2
 have hn:∀ (j:Nat) (b:Row),i≠j->rows[j]?=some b->b.2.1.ownBlock=none\/b.2.1.ownBlock≠v.ownBlock:=fun j b hij hj=>h.dis j i b _ (fun e=>hij e.symm) hj hi
 have hvlt:∀ k,v.ownBlock=some k->hb+1≤k/\k<w.heap.size:=fun k hk=>(h.own _ hmem).lt k hk
 subst hl3
 subst h3
 refine⟨?_,hb2⟩
 refine⟨⟨hp_upd_same rfl lb2,?_,?_,h.tl⟩,⟨⟨hg.os,hg.tape,hg.output,by rw[size_upd];exact hg.size,?_⟩,?_⟩⟩
 ·intro r hr
  rw[List.mem_iff_getElem?] at hr
  obtain⟨j,hj⟩:=hr
  by_cases hij:i=j
  ·subst hij
   rw[List.getElem?_set_self hil] at hj
   injection hj with hj
   subst hj
   exact own_upd (by simpa using ho) (by omega)
  ·rw[List.getElem?_set_ne hij] at hj
   exact own_upd (own_kept (h.own _ (List.mem_of_getElem? hj)) hg (hn j r hij hj)) (by omega)
 ·intro j k a b hjk ha hb'
  have key:∀ (j:Nat) (b:Row),i≠j->rows[j]?=some b->Row.Dis (e,v',xs++[x]) b/\Row.Dis b (e,v',xs++[x]):=by
   intro j b hij hj
   have h1:=hn j b hij hj
   have h2:=fun k hk=>((h.own _ (List.mem_of_getElem? hj)).lt k hk).2
   unfold Row.Dis
   rcases hv with hv | hv
   ·simp only[hv]
    refine⟨?_,h1⟩
    have:=h.dis i j _ b hij hi hj
    exact this
   ·cases hb1:b.2.1.ownBlock with
    | none=>refine⟨?_,.inl rfl⟩;cases hv':v'.ownBlock<;>simp
    | some q=>
     have hq:=h2 q hb1
     cases hv':v'.ownBlock with
     | none=>simp
     | some q'=>
      have:=hv q' hv'
      have hne:q'≠q:=by omega
      simp [hne,Ne.symm hne]
  by_cases hij:i=j
  ·subst hij
   rw[List.getElem?_set_self hil] at ha
   injection ha with ha
   subst ha
   rw[List.getElem?_set_ne hjk] at hb'
   exact(key k b hjk hb').1
  ·rw[List.getElem?_set_ne hij] at ha
   by_cases hik:i=k
   ·subst hik
    rw[List.getElem?_set_self hil] at hb'
    injection hb' with hb'
    subst hb'
    exact(key j a hij ha).2
   ·rw[List.getElem?_set_ne hik] at hb'
    exact h.dis j k a b hjk ha hb'
 ·intro b o hbo hm
  have hbh:b≠hb:=fun e'=>hm (.inl e')
  rw[hp_upd_other hbh,hg.block b (ltOf hbo) (fun e'=>?_)]
  ·exact hbo
  ·refine hm (.inr ⟨_,_,h.cell,v,?_,e'.symm⟩)
   simp only[List.mem_append,List.mem_map]
   exact .inl ⟨_,hmem,rfl⟩
 ·rintro b (rfl | ⟨cs,T',h1,u,hu,hub⟩)
  ·exact .inl (.inl rfl)
  ·rw[hp_upd_same rfl lb2] at h1
   injection h1 with h1
   injection h1 with h1 _ _
   subst h1
   simp only[List.mem_append,List.mem_map] at hu
   rcases hu with⟨r,hr,rfl⟩| hu
   ·rw[List.mem_iff_getElem?] at hr
    obtain⟨j,hj⟩:=hr
    by_cases hij:i=j
    ·subst hij
     rw[List.getElem?_set_self hil] at hj
     injection hj with hj
     subst hj
     rcases hv with hv | hv
     ·refine .inl (.inr ⟨_,_,h.cell,v,?_,?_⟩)
      ·simp only[List.mem_append,List.mem_map]
       exact .inl ⟨_,hmem,rfl⟩
      ·rw[<- hv];exact hub
     ·exact .inr (hv b hub)
    ·rw[List.getElem?_set_ne hij] at hj
     refine .inl (.inr ⟨_,_,h.cell,r.2.1,?_,hub⟩)
     simp only[List.mem_append,List.mem_map]
     exact .inl ⟨_,List.mem_of_getElem? hj,rfl⟩
   ·rw[h.tl u hu] at hub
    cases hub
def IsAr(F:Nat->Prop)(w:World)(rows:List Value):List P.Nd->Prop
 | []=>rows=[]
 | d::ds=>∃ v r,rows=v::r/\IsSl F w 3 v (d.args.map fun n=>.int .i64 (n:Nat))/\IsAr F w r ds
theorem IsAr.mono{F F':Nat->Prop}{w w':World}(hf:∀ b,F b->F' b)(hw:∀ b cs,F b->w.heap[b]?=some (.cells cs 3 (0,0))->w'.heap[b]?=some (.cells cs 3 (0,0))):∀ {ds:List P.Nd} {rows:List Value},IsAr F w rows ds->IsAr F' w' rows ds
 | [],rows,h=>h
 | d::ds,rows,h=>by
  obtain⟨v,r,h1,h2,h3⟩:=h
  exact⟨v,r,h1,h2.mono hf hw,IsAr.mono hf hw h3⟩
theorem IsAr.snoc{F:Nat->Prop}{w:World}{v:Value}{d:P.Nd}(hv:IsSl F w 3 v (d.args.map fun n=>zi (n:Nat))):∀ {ds:List P.Nd} {rows:List Value},IsAr F w rows ds->IsAr F w (rows++[v]) (ds++[d])
 | [],rows,h=>by
  have h:rows=[]:=h
  subst h
  exact⟨v,[],rfl,hv,rfl⟩
 | e::ds,rows,h=>by
  obtain⟨u,r,rfl,h2,h3⟩:=h
  exact⟨u,r++[v],rfl,h2,IsAr.snoc hv h3⟩
theorem IsAr.length{F:Nat->Prop}{w:World}:∀ {ds:List P.Nd} {rows:List Value},IsAr F w rows ds->rows.length=ds.length
 | [],rows,h=>by have h:rows=[]:=h;subst h;rfl
 | d::ds,rows,h=>by
  obtain⟨v,r,rfl,h2,h3⟩:=h
  simp [IsAr.length h3]
theorem IsAr.at{F:Nat->Prop}{w:World}:∀ {ds:List P.Nd} {rows:List Value} (j:Nat) (hj:j<ds.length),IsAr F w rows ds->∃ v,rows[j]?=some v/\IsSl F w 3 v (ds[j].args.map fun n=>zi (n:Nat))
 | d::ds,rows,0,_,h=>by
  obtain⟨v,r,rfl,h2,h3⟩:=h
  exact⟨v,rfl,h2⟩
 | d::ds,rows,j+1,hj,h=>by
  obtain⟨v,r,rfl,h2,h3⟩:=h
  simpa using IsAr.at j (by simpa using hj) h3
abbrev kindsV(H:P.Hp):List Value:=H.nodes.map fun d=>.int .u8 (d.kind:Nat)
abbrev nmsV(H:P.Hp):List Value:=H.nodes.map fun d=>.string (bs d.name)
abbrev nsV(H:P.Hp):List Value:=H.nodes.map fun d=>zi d.n
abbrev tosV(H:P.Hp):List Value:=H.to.map fun z=>zi z
abbrev trsV(H:P.Hp):List Value:=H.trail.map fun n=>zi (n:Nat)
abbrev rows6(kv nv iv av tv rv:Value)(H:P.Hp)(ars:List Value):List Row:=
 [(5,kv,kindsV H),(9,nv,nmsV H),(2,iv,nsV H),(83,av,ars),(3,tv,tosV H),(3,rv,trsV H)]
abbrev tail3(H:P.Hp):List Value:=[zi (H.cost:Nat),zi (H.most:Nat),zi (H.err:Nat)]
structure RHx(A:Nat->Prop)(w:World)(hb:Nat)(H:P.Hp)(kv nv iv av tv rv:Value)(ars:List Value):Prop where
 q:QR w hb 93 (rows6 kv nv iv av tv rv H ars) (tail3 H)
 ar:IsAr (fun b=>¬ OwnOf w hb b/\A b) w ars H.nodes
 len:H.to.length=H.nodes.length
def RHp(A:Nat->Prop)(w:World)(hb:Nat)(H:P.Hp):Prop:=∃ kv nv iv av tv rv ars,RHx A w hb H kv nv iv av tv rv ars
theorem RHx.cell{A:Nat->Prop}{w:World}{hb:Nat}{H:P.Hp}{kv nv iv av tv rv:Value}{ars:List Value}(h:RHx A w hb H kv nv iv av tv rv ars) :
 w.heap[hb]?=some (.cells #[kv,nv,iv,av,tv,rv,zi (H.cost:Nat),zi (H.most:Nat),zi (H.err:Nat)] 93):=h.q.cell
theorem QR.ext{w w':World}{hb T:Nat}{rows:List Row}{tail:List Value}(h:QR w hb T rows tail)(hE:Ext w w'):QR w' hb T rows tail:=
 ⟨hE.ext _ _ h.cell,fun r hr=>own_ext hE.ext (h.own r hr),h.dis,h.tl⟩
theorem slKeepH{A:Nat->Prop}{w w':World}{hb et:Nat}(hf:HFr hb w w'){v:Value}{vs:List Value}(h:IsSl (fun b=>¬ OwnOf w hb b/\A b) w et v vs):IsSl (fun b=>¬ OwnOf w' hb b/\A b) w' et v vs:=by
 rcases h with h | ⟨b,cs,h1,h2,h3,h4⟩
 ·exact .inl h
 ·refine .inr ⟨b,cs,h1,⟨fun ho=>?_,h2.2⟩,hf.fr.block b _ h3 h2.1,h4⟩
  rcases hf.own b ho with h | h
  ·exact h2.1 h
  ·have:=ltOf h3;omega
theorem IsAr.keepH{A:Nat->Prop}{w w':World}{hb:Nat}(hf:HFr hb w w'):∀ {ds:List P.Nd} {rows:List Value},IsAr (fun b=>¬ OwnOf w hb b/\A b) w rows ds->IsAr (fun b=>¬ OwnOf w' hb b/\A b) w' rows ds
 | [],rows,h=>h
 | d::ds,rows,h=>by
  obtain⟨v,r,h1,h2,h3⟩:=h
  exact⟨v,r,h1,slKeepH hf h2,IsAr.keepH hf h3⟩
theorem RHx.ext{A:Nat->Prop}{w w':World}{hb:Nat}{H:P.Hp}{kv nv iv av tv rv:Value}{ars:List Value}(h:RHx A w hb H kv nv iv av tv rv ars)(hE:Ext w w'):RHx A w' hb H kv nv iv av tv rv ars:=
 ⟨h.q.ext hE,h.ar.keepH (HFr.ofExt hE (ltOf h.cell)),h.len⟩
theorem RHp.ext{A:Nat->Prop}{w w':World}{hb:Nat}{H:P.Hp}(h:RHp A w hb H)(hE:Ext w w'):RHp A w' hb H:=by
 obtain⟨kv,nv,iv,av,tv,rv,ars,h⟩:=h
 exact⟨kv,nv,iv,av,tv,rv,ars,h.ext hE⟩
theorem Tryz.infoSt:(Tryz.prog.info? 9).map (fun i=>(i.zero,i.size,i.bytes))=some (some (.string .empty),1,16):=by kernel_rfl
theorem Tryz.infoI64:(Tryz.prog.info? 2).map (fun i=>(i.zero,i.size,i.bytes))=some (some (zi 0),1,8):=by kernel_rfl
theorem Tryz.infoInt:(Tryz.prog.info? 3).map (fun i=>(i.zero,i.size,i.bytes))=some (some (zi 0),1,8):=by kernel_rfl
theorem Tryz.infoLi:(Tryz.prog.info? 83).map (fun i=>(i.zero,i.size,i.bytes))=some (some (.slice none 0 0),1,24):=by kernel_rfl
theorem wr_app1{P:Program}{t ty e bytes:Nat}{z:Value}(ht:P.underlying t=some (.slice e))(hi:(P.info? e).map (fun i=>(i.zero,i.size,i.bytes))=some (some z,1,bytes))(hz1:z.cells.size=1)(hby:bytes≤1000)
  {w:World} {base n:Nat} {v:Value} {xs:List Value} (hown:w.ownsRow base e 1 v n xs) {b m:Nat} {a:Value} (hb:w.heap[b]?=some (.cells #[a] e (0,0))) (h1:a.oneCell'=true)
  (hn:n≤900000000) (hbase:base≤w.heap.size) {K:Value->World->Prop} {X:Value->World->Prop}
  (h:∀ v' w',w'.ownsRow base e 1 v' (n+1) (xs++[a])->w.grownBy w' v.ownBlock->(v'.ownBlock=v.ownBlock\/∀ k,v'.ownBlock=some k->w.heap.size≤k)->K v' w') :
  WR P (Builtin.append_ #[t,t] ty #[v,.slice (some ⟨b,0,none⟩) 1 m]) w K X:=by
 obtain⟨i,hi,h0⟩:=Option.map_eq_some_iff.1 hi
 simp only[Prod.mk.injEq] at h0
 obtain⟨hz,hs,hbt⟩:=h0
 refine Sx.wr_appendB (m:=1) (t:=t) (e:=e) ht hi hz hs hbt hz1 (by decide) hown hb rfl (fun u hu=>?_) (by omega) hby hbase h
 simp only[List.mem_cons,List.not_mem_nil,or_false] at hu
 subst hu
 exact h1
def zb53:=(zA zG0 (zA @sh_Pr_Heap_Spent.eq_1 (zA @fa_93_6 (zA @fa_93_7 (zA @fa_93_8 (zA @ld_3 @ld_32))))))
theorem rSpent {A:Nat->Prop} {w:World} {hb:Nat} {H:P.Hp} (h:RHp A w hb H):Calls Tryz.prog 46 #[pp hb] w fun e w'=>e = .returned (.bool H.spent)/\Ext w w':=by
 obtain⟨kv,nv,iv,av,tv,rv,ars,h⟩:=h
 have hc:=h.cell
 refine sh_Pr_Heap_Spent_ok ?_
 by_cases h1:H.most<H.cost
 ·simp (disch:=first|assumption|omega|simp only[zS]<;>omega|decide) only[zb53,simprocAttr,hc]
  exact⟨by simp [P.Hp.spent,h1],(FrM.refl _ _).drew⟩
 ·simp (disch:=first|assumption|omega|simp only[zS]<;>omega|decide) only[zb53,simprocAttr,hc]
  refine⟨?_,(FrM.refl _ _).drew⟩
  simp only[P.Hp.spent,decide_eq_false h1,Bool.false_or]
  congr 2
  simp
def zb54:=(zA zG0 (zA @sh_Pr_Heap_add.eq_1 (zA @br_41_1 (zA @br_83_1 (zA @br_89_1 (zA @br_90_1 (zA @br_91_1 (zA @fa_93_0 (zA @fa_93_1 (zA @fa_93_2 (zA @fa_93_3 (zA @fa_93_4 (zA @ld_41 (zA @ld_83 (zA @ld_89 (zA @ld_90 (zA @ld_91 (zA @ln_89 (zA @st_41 (zA @st_83 (zA @st_89 (zA @st_90 @st_91))))))))))))))))))))))
set_option maxHeartbeats 2000000 in
theorem rAdd {A:Nat->Prop} {w:World} {hb:Nat} {H:P.Hp} (h:RHp A w hb H) (hl:H.nodes.length≤100000000) (kind:Nat) (name:P.Bs) (n:Int) {l:List Nat} {v5:Value} {G:Nat->Prop} (hG:∀ b,G b->¬ OwnOf w hb b/\A b) (h5:IsSl G w 3 v5 (l.map fun n=>zi (n:Nat))) :
   Calls Tryz.prog 45 #[pp hb,.int .u8 kind,.string (bs name),zi n,v5] w fun e w'=>
     e = .returned (zi (H.nodes.length:Nat))/\RHp A w' hb (H.add ⟨kind,name,n,l⟩)/\HFr hb w w':=by
 obtain⟨kv,nv,iv,av,tv,rv,ars,h⟩:=h
 have hlen:=h.len
 have hal:=h.ar.length
 obtain⟨a5,c5,e5⟩:=h5.sl
 rw[List.length_map] at e5
 subst e5
 have qS:QR w hb 93 (rows6 kv nv iv av tv rv H ars) (tail3 H):=h.q
 have hc:=h.cell
 have lS:=ltOf hc
 refine sh_Pr_Heap_add_ok ?_
 simp (disch:=first|assumption|omega|simp only[zS]<;>omega|decide) only[zb54,simprocAttr,hc]
 have qa0:=qS.ext ((FrM.refl _ _).alloc (.cells #[.int .u8 kind] 5))
 refine wr_app1 (by kernel_rfl) Tryz.infoU8 rfl (by decide) (qa0.own _ (List.mem_of_getElem? (i:=0) rfl)) (hp_alloc_new rfl) rfl (by simp [kindsV];omega) (by rw[size_alloc];omega) ?_
 intro v0' wA0 own0 hg0 hv0
 have sg0:=hg0.size
 rw[size_alloc] at sg0
 obtain⟨p0,d0,e0⟩:=own_slice own0
 subst e0
 obtain⟨wS0,hwS0⟩:∃ y,y=upd wA0 hb (.cells #[.slice p0 ((kindsV H).length+1) d0,nv,iv,av,tv,rv,zi (H.cost:Nat),zi (H.most:Nat),zi (H.err:Nat)] 93):=⟨_,rfl⟩
 obtain⟨⟨q0,f0⟩,hcw0⟩:=qa0.step (i:=0) rfl own0 hg0 hv0 (by simp only[List.set_cons_zero,List.set_cons_succ,List.map_cons,List.map_nil,List.cons_append,List.nil_append]) hwS0
 simp only[List.set_cons_zero,List.set_cons_succ] at q0
 simp only[List.map_cons,List.map_nil,List.cons_append,List.nil_append] at hcw0
 have lw0:=ltOf hcw0
 simp (disch:=first|assumption|omega|simp only[zS]<;>omega|decide) only[zb54,simprocAttr,hcw0]
 rw[<- hwS0]
 have hc0:=q0.cell
 simp only[List.map_cons,List.map_nil,List.cons_append,List.nil_append] at hc0
 have sS0:wS0.heap.size=wA0.heap.size:=by rw[hwS0,size_upd]
 have qa1:=q0.ext ((FrM.refl _ _).alloc (.cells #[.string (bs name)] 9))
 refine wr_app1 (by kernel_rfl) Tryz.infoSt rfl (by decide) (qa1.own _ (List.mem_of_getElem? (i:=1) rfl)) (hp_alloc_new sS0.symm) rfl (by simp [nmsV];omega) (by rw[size_alloc];omega) ?_
 intro v1' wA1 own1 hg1 hv1
 have sg1:=hg1.size
 rw[size_alloc] at sg1
 obtain⟨p1,d1,e1⟩:=own_slice own1
 subst e1
 obtain⟨wS1,hwS1⟩:∃ y,y=upd wA1 hb (.cells #[.slice p0 ((kindsV H).length+1) d0,.slice p1 ((nmsV H).length+1) d1,iv,av,tv,rv,zi (H.cost:Nat),zi (H.most:Nat),zi (H.err:Nat)] 93):=⟨_,rfl⟩
 obtain⟨⟨q1,f1⟩,hcw1⟩:=qa1.step (i:=1) rfl own1 hg1 hv1 (by simp only[List.set_cons_zero,List.set_cons_succ,List.map_cons,List.map_nil,List.cons_append,List.nil_append]) hwS1
 simp only[List.set_cons_zero,List.set_cons_succ] at q1
 simp only[List.map_cons,List.map_nil,List.cons_append,List.nil_append] at hcw1
 have lw1:=ltOf hcw1
 simp (disch:=first|assumption|omega|simp only[zS]<;>omega|decide) only[zb54,simprocAttr,hcw1]
 rw[<- hwS1]
 have hc1:=q1.cell
 simp only[List.map_cons,List.map_nil,List.cons_append,List.nil_append] at hc1
 have sS1:wS1.heap.size=wA1.heap.size:=by rw[hwS1,size_upd]
 have qa2:=q1.ext ((FrM.refl _ _).alloc (.cells #[zi n] 2))
 refine wr_app1 (by kernel_rfl) Tryz.infoI64 rfl (by decide) (qa2.own _ (List.mem_of_getElem? (i:=2) rfl)) (hp_alloc_new sS1.symm) rfl (by simp [nsV];omega) (by rw[size_alloc];omega) ?_
 intro v2' wA2 own2 hg2 hv2
 have sg2:=hg2.size
 rw[size_alloc] at sg2
 obtain⟨p2,d2,e2⟩:=own_slice own2
 subst e2
 obtain⟨wS2,hwS2⟩:∃ y,y=upd wA2 hb (.cells #[.slice p0 ((kindsV H).length+1) d0,.slice p1 ((nmsV H).length+1) d1,.slice p2 ((nsV H).length+1) d2,av,tv,rv,zi (H.cost:Nat),zi (H.most:Nat),zi (H.err:Nat)] 93):=⟨_,rfl⟩
 obtain⟨⟨q2,f2⟩,hcw2⟩:=qa2.step (i:=2) rfl own2 hg2 hv2 (by simp only[List.set_cons_zero,List.set_cons_succ,List.map_cons,List.map_nil,List.cons_append,List.nil_append]) hwS2
 simp only[List.set_cons_zero,List.set_cons_succ] at q2
 simp only[List.map_cons,List.map_nil,List.cons_append,List.nil_append] at hcw2
 have lw2:=ltOf hcw2
 simp (disch:=first|assumption|omega|simp only[zS]<;>omega|decide) only[zb54,simprocAttr,hcw2]
 rw[<- hwS2]
 have hc2:=q2.cell
 simp only[List.map_cons,List.map_nil,List.cons_append,List.nil_append] at hc2
 have sS2:wS2.heap.size=wA2.heap.size:=by rw[hwS2,size_upd]
 have qa3:=q2.ext ((FrM.refl _ _).alloc (.cells #[.slice a5 l.length c5] 83))
 refine wr_app1 (by kernel_rfl) Tryz.infoLi rfl (by decide) (qa3.own _ (List.mem_of_getElem? (i:=3) rfl)) (hp_alloc_new sS2.symm) rfl (by show ars.length≤_;omega) (by rw[size_alloc];omega) ?_
 intro v3' wA3 own3 hg3 hv3
 have sg3:=hg3.size
 rw[size_alloc] at sg3
 obtain⟨p3,d3,e3⟩:=own_slice own3
 subst e3
 obtain⟨wS3,hwS3⟩:∃ y,y=upd wA3 hb (.cells #[.slice p0 ((kindsV H).length+1) d0,.slice p1 ((nmsV H).length+1) d1,.slice p2 ((nsV H).length+1) d2,.slice p3 (ars.length+1) d3,tv,rv,zi (H.cost:Nat),zi (H.most:Nat),zi (H.err:Nat)] 93):=⟨_,rfl⟩
 obtain⟨⟨q3,f3⟩,hcw3⟩:=qa3.step (i:=3) rfl own3 hg3 hv3 (by simp only[List.set_cons_zero,List.set_cons_succ,List.map_cons,List.map_nil,List.cons_append,List.nil_append]) hwS3
 simp only[List.set_cons_zero,List.set_cons_succ] at q3
 simp only[List.map_cons,List.map_nil,List.cons_append,List.nil_append] at hcw3
 have lw3:=ltOf hcw3
 simp (disch:=first|assumption|omega|simp only[zS]<;>omega|decide) only[zb54,simprocAttr,hcw3]
 rw[<- hwS3]
 have hc3:=q3.cell
 simp only[List.map_cons,List.map_nil,List.cons_append,List.nil_append] at hc3
 have sS3:wS3.heap.size=wA3.heap.size:=by rw[hwS3,size_upd]
 have qa4:=q3.ext ((FrM.refl _ _).alloc (.cells #[zi (-1)] 3))
 refine wr_app1 (by kernel_rfl) Tryz.infoInt rfl (by decide) (qa4.own _ (List.mem_of_getElem? (i:=4) rfl)) (hp_alloc_new sS3.symm) rfl (by simp [tosV];omega) (by rw[size_alloc];omega) ?_
 intro v4' wA4 own4 hg4 hv4
 have sg4:=hg4.size
 rw[size_alloc] at sg4
 obtain⟨p4,d4,e4⟩:=own_slice own4
 subst e4
 obtain⟨wS4,hwS4⟩:∃ y,y=upd wA4 hb (.cells #[.slice p0 ((kindsV H).length+1) d0,.slice p1 ((nmsV H).length+1) d1,.slice p2 ((nsV H).length+1) d2,.slice p3 (ars.length+1) d3,.slice p4 ((tosV H).length+1) d4,rv,zi (H.cost:Nat),zi (H.most:Nat),zi (H.err:Nat)] 93):=⟨_,rfl⟩
 obtain⟨⟨q4,f4⟩,hcw4⟩:=qa4.step (i:=4) rfl own4 hg4 hv4 (by simp only[List.set_cons_zero,List.set_cons_succ,List.map_cons,List.map_nil,List.cons_append,List.nil_append]) hwS4
 simp only[List.set_cons_zero,List.set_cons_succ] at q4
 simp only[List.map_cons,List.map_nil,List.cons_append,List.nil_append] at hcw4
 have lw4:=ltOf hcw4
 simp (disch:=first|assumption|omega|simp only[zS]<;>omega|decide) only[zb54,simprocAttr,hcw4]
 rw[<- hwS4]
 have hc4:=q4.cell
 simp only[List.map_cons,List.map_nil,List.cons_append,List.nil_append] at hc4
 have hfr:HFr hb w wS4:=by
   have g0:HFr hb w wS0:=(HFr.ofExt ((FrM.refl _ _).alloc _) lS).trans f0
   have g1:HFr hb wS0 wS1:=(HFr.ofExt ((FrM.refl _ _).alloc _) (ltOf hc0)).trans f1
   have g2:HFr hb wS1 wS2:=(HFr.ofExt ((FrM.refl _ _).alloc _) (ltOf hc1)).trans f2
   have g3:HFr hb wS2 wS3:=(HFr.ofExt ((FrM.refl _ _).alloc _) (ltOf hc2)).trans f3
   have g4:HFr hb wS3 wS4:=(HFr.ofExt ((FrM.refl _ _).alloc _) (ltOf hc3)).trans f4
   exact(((g0.trans g1).trans g2).trans g3).trans g4
 have e0:(kindsV H).length=H.nodes.length:=by simp [kindsV]
 have hx:RHx A wS4 hb (H.add ⟨kind,name,n,l⟩) (.slice p0 ((kindsV H).length+1) d0) (.slice p1 ((nmsV H).length+1) d1) (.slice p2 ((nsV H).length+1) d2) (.slice p3 (ars.length+1) d3) (.slice p4 ((tosV H).length+1) d4) rv (ars++[.slice a5 l.length c5]):=by
  refine⟨?_,?_,?_⟩
  · have e1:rows6 (.slice p0 ((kindsV H).length+1) d0) (.slice p1 ((nmsV H).length+1) d1) (.slice p2 ((nsV H).length+1) d2) (.slice p3 (ars.length+1) d3) (.slice p4 ((tosV H).length+1) d4) rv (H.add ⟨kind,name,n,l⟩) (ars++[.slice a5 l.length c5]) =
      [(5,.slice p0 ((kindsV H).length+1) d0,kindsV H++[.int .u8 kind]),(9,.slice p1 ((nmsV H).length+1) d1,nmsV H++[.string (bs name)]),(2,.slice p2 ((nsV H).length+1) d2,nsV H++[zi n]),
       (83,.slice p3 (ars.length+1) d3,ars++[.slice a5 l.length c5]),(3,.slice p4 ((tosV H).length+1) d4,tosV H++[zi (-1)]),(3,rv,trsV H)]:=by
      simp [rows6,kindsV,nmsV,nsV,tosV,trsV,P.Hp.add]
    have q5:=q4
    rw[<- e1] at q5
    exact q5
  · refine IsAr.snoc ?_ (h.ar.keepH hfr)
    exact slKeepH hfr (h5.mono hG fun _ _ _ h=>h)
  · simp [P.Hp.add,hlen]
 refine⟨?_,⟨_,_,_,_,_,_,_,hx⟩,hfr⟩
 rw[e0,i64w (by omega) (by omega)]
 congr 2
 omega
end Go.Proofs.YtilpjhceemaplaaGreatDoor
