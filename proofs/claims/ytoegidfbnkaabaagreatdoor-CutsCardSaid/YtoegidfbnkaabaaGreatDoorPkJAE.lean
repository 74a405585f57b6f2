/- A part of one proof (ShT, SBase, GBase, SW1). -/
import Derived.Test.YtoegidfbnkaabaaGreatDoorPkJAD
import Derived.Test.YtoegidfbnkaabaaGreatDoorProg
import Derived.WalkSpells
import Derived.WalkLawsBesides
set_option linter.all false
set_option maxRecDepth 100000
set_option maxHeartbeats 8000000
open Option renaming some → O, none → V
open Go renaming Value → Y, World → Z
open Bool renaming true → A, false → G
open Go.Obj renaming cells → ae
open Go.Ending renaming returned → ah
open Go.Value renaming nilIface → ai, iface → aj, tuple → ak, pointer → aq
open Go.Instr renaming loadAt → aZX, typeAssert → aZ0, makeInterface → a0g, sliceAt → a0v, makeMap → a1Z, makeSlice → a2x
open Go.Value renaming int → a0f
open Go.IntKind renaming i64 → a0n
open Nat renaming reduceAdd → a1H, reduceLeDiff → a2k, reduceEqDiff → a2l, reduceMul → a2V
open Int renaming reduceToNat → a2w, reduceAdd → a2W, reduceLT → a3i, reduceLE → a3j
open Go.Proofs.Tryz renaming prog → a9s
open Go.Proofs.Tryz
namespace Go.Proofs.YtoegidfbnkaabaaGreatDoor
open P
open Go.Proofs.YtoegidfbnkaabaaGreatDoor.Sx
variable{A0 A1 Q Jz:Prop}{B b base c cap d e k k' m n o pb tb:Nat}{F:Nat->Prop}{K:Y->Prop}{T:List P.Tok}{X:Y->Z->Prop}{cs:Array Y}{l:Int}{v z:Y}{El OA:IntKind}{vars:List Bs}{vs xs:List Y}{w w':Z}{y:Operand}
abbrev zw(t e:Nat)(z:Array Y):Prop:=∀ {u:Y} {w:Z} {X:Y->Z->Prop} {K:Y->Z->Prop},WR a9s (Instr.alloc t A u) w K X=K (aq (O ⟨w.heap.size,0,V⟩)) (w.alloc (ae z e))
def awl:zw 100 100 #[(aq V),bV]:=zp (z:=(.agg #[(aq V),bV])) zk
def awm:zw 103 103 #[(aq V),bV,(aq V),(.map V)]:=zp (z:=(.agg #[(aq V),bV,(aq V),(.map V)])) zk
def awn:zw 108 108 #[(aq V)]:=zp (z:=(aq V)) zk
def awo:zw 122 122 #[(aq V)]:=zp (z:=(aq V)) zk
def aiJ:zw 142 142 #[(.int .i64 0),(aT []),(.int .i64 0)]:=zp (z:=(.agg #[(.int .i64 0),(aT []),(.int .i64 0)])) zk
def awp:zw 198 198 #[(aT []),(aT []),ai,bV]:=zp (z:=(.agg #[(aT []),(aT []),ai,bV])) zk
def awq:zw 27 27 #[(.int .i64 0)]:=zp (z:=(.int .i64 0)) zk
def awr:zw 3 3 #[(.int .i64 0)]:=zp (z:=(.int .i64 0)) zk
def aws:zw 4 4 #[(.bool G)]:=zp (z:=(.bool G)) zk
def awt:zw 57 57 #[ai]:=zp (z:=ai) zk
def awu:zw 68 68 #[bV]:=zp (z:=bV) zk
def awv:zw 73 73 #[(aq V)]:=zp (z:=(aq V)) zk
def aww:zw 79 79 #[(aq V)]:=zp (z:=(aq V)) zk
def awx:zw 9 9 #[(aT [])]:=zp (z:=(aT [])) zk
def awy:zw 91 91 #[ai]:=zp (z:=(.agg #[ai])) zk
abbrev rN(t:Nat)(l:List (Nat×Nat))(z:Array Y):Prop:=∀ {parts:Array (Nat×Y)} {w:Z} {X:Y->Z->Prop} {K:Y->Prop},RD a9s (Instr.build t parts) w K X=Vv (Em l z parts.toList) K (FK a9s (Instr.build t parts) w K X)
def awz:rN 103 [(0,2),(2,1),(3,1)] #[(aq V),bV,(aq V),(.map V)]:=rL zk
def awA:rN 116 [(0,1),(1,2),(3,1),(4,1),(5,1)] #[(aq V),bV,(.int .i64 0),(aq V),(.int .i64 0),bV]:=rL zk
def awB:rN 121 [(0,1),(1,1),(2,1),(3,1),(4,1)] #[ai,(aq V),.nilFunc,bV,ai]:=rL zk
def awC:rN 130 [(0,1),(1,2),(3,1),(4,1),(5,1)] #[(.map V),bV,(.int .i64 0),(aq V),bV,bV]:=rL zk
def awD:rN 134 [] #[]:=rL zk
def aiK:rN 142 [(0,1),(1,1),(2,1)] #[(.int .i64 0),(aT []),(.int .i64 0)]:=rL zk
def awE:rN 145 [(0,1),(1,1),(2,1)] #[bV,bV,(.int .i64 0)]:=rL zk
def aiL:rN 149 [(0,1),(1,1),(2,1),(3,1)] #[(.int .u8 0),(aT []),bV,bV]:=rL zk
def awF:rN 180 [(0,1),(1,1)] #[(aT []),bV]:=rL zk
def awG:rN 187 [(0,1),(1,1),(2,1)] #[(.map V),(aq V),(.int .i64 0)]:=rL zk
def awH:rN 196 [(0,1),(1,1)] #[(.int .i64 0),bV]:=rL zk
def awI:rN 198 [(0,1),(1,1),(2,1),(3,1)] #[(aT []),(aT []),ai,bV]:=rL zk
def awJ:rN 203 [(0,1),(1,1),(2,1),(3,1),(4,1)] #[(aq V),bV,(.int .i64 0),(aq V),(.int .i64 0)]:=rL zk
def awK:rN 207 [(0,1),(1,1),(2,1),(3,1)] #[(aq V),bV,(.int .i64 0),(aq V)]:=rL zk
def awL:rN 213 [(0,1),(1,1),(2,1)] #[(aT []),(.int .i64 0),bV]:=rL zk
def awM:rN 247 [(0,2),(2,1),(3,1)] #[(.int .i64 0),bV,bV,(.int .i64 0)]:=rL zk
def awN:rN 342 [(0,1),(1,1),(2,1),(3,1),(4,1)] #[(.int .i64 0),(aq V),(.int .i64 0),bV,bV]:=rL zk
def awO:rN 356 [(0,1),(1,1),(2,1),(3,1)] #[(.int .i64 0),(aq V),bV,bV]:=rL zk
def awP:rN 72 [(0,1)] #[bV]:=rL zk
def awQ:rN 77 [(0,1),(1,1)] #[(.int .i64 0),(.int .i64 0)]:=rL zk
def aiM:rN 86 [(0,1),(1,1),(2,1),(3,1)] #[(aT []),bV,(aq V),bV]:=rL zk
def awR:rN 96 [(0,1),(1,1)] #[bV,(.int .i64 0)]:=rL zk
abbrev wY(t n e:Nat)(l:List (Nat×Nat))(z:Array Y):Prop:=∀ {parts:Array (Nat×Y)} {w:Z} {X:Y->Z->Prop} {K:Y->Z->Prop},WR a9s (Instr.buildSlice t n parts) w K X=Vw (Em l z parts.toList) e n w K (WR0 a9s (Instr.buildSlice t n parts) w K X)
def awS:wY 114 1 342 [(0,5)] #[(.int .i64 0),(aq V),(.int .i64 0),bV,bV]:=wX zk
def awT:wY 128 1 356 [(0,4)] #[(.int .i64 0),(aq V),bV,bV]:=wX zk
def aiN:wY 143 1 142 [(0,3)] #[(.int .i64 0),(aT []),(.int .i64 0)]:=wX zk
def awU:wY 192 1 185 [(0,1)] #[(aq V)]:=wX zk
def awV:wY 194 1 198 [(0,4)] #[(aT []),(aT []),ai,bV]:=wX zk
def awW:wY 200 1 20 [(0,1)] #[ai]:=wX zk
def awX:wY 209 1 211 [(0,1)] #[(aq V)]:=wX zk
def awY:wY 39 1 9 [(0,1)] #[(aT [])]:=wX zk
def awZ:wY 39 2 9 [(0,1),(1,1)] #[(aT []),(aT [])]:=wX zk
def aw0:wY 45 1 3 [(0,1)] #[(.int .i64 0)]:=wX zk
def aw1:wY 45 2 3 [(0,1),(1,1)] #[(.int .i64 0),(.int .i64 0)]:=wX zk
def aiO:wY 68 1 79 [(0,1)] #[(aq V)]:=wX zk
def aw2:wY 82 1 89 [(0,1)] #[ai]:=wX zk
def aw3:wY 94 1 87 [(0,1)] #[(aq V)]:=wX zk
def aw4:wY 98 1 5 [(0,1)] #[(.int .u8 0)]:=wX zk
def aw5:wY 98 2 5 [(0,1),(1,1)] #[(.int .u8 0),(.int .u8 0)]:=wX zk
def aw6:wY 98 3 5 [(0,1),(1,1),(2,1)] #[(.int .u8 0),(.int .u8 0),(.int .u8 0)]:=wX zk
def aiP{l:List UInt8}{k:IntKind}{i:Int}(a:0<=i)(b:i<l.length):RD a9s (Instr.index 9 (aT l) (.int k i)) w K X=K (.int .u8 ((l.getD i.toNat 0).toNat)):=as5 zk a b
def aw7{k:IntKind}{n:Int}{K:Y->Z->Prop}:WR a9s (convert 3 21 (.int k n)) w K X=K (.int .i32 (IntKind.i32.wrap n)) w:=as9 zk zk
def aw8{x:Operand}(c:Y):RD a9s (bo .eql 57 x (.const c) ai ai) w K X=K (.bool A):=aiw zk c
def aw9{x:Operand}(c:Y):RD a9s (bo .eql 89 x (.const c) ai ai) w K X=K (.bool A):=aiw zk c
def axa{x:Operand}(u:TypeId)(v:Y):RD a9s (bo .eql 57 x y (aj u v) ai) w K X=K (.bool G):=aiv zk u v
def axb{x:Operand}(u:TypeId)(v:Y):RD a9s (bo .eql 89 x y (aj u v) ai) w K X=K (.bool G):=aiv zk u v
def axc{x:Operand}(p:Option Nat):RD a9s (bo .eql 101 x y (.map p) (.map V)) w K X=K (.bool p.isNone):=avT zk p
def axd{x:Operand}(p:Option Addr):RD a9s (bo .eql 113 x y (.pointer p) (aq V)) w K X=K (.bool p.isNone):=LU zk p
def axe{x:Operand}(p:Option Addr):RD a9s (bo .eql 127 x y (.pointer p) (aq V)) w K X=K (.bool p.isNone):=LU zk p
def axf{x:Operand}(p:Option Addr):RD a9s (bo .eql 185 x y (.pointer p) (aq V)) w K X=K (.bool p.isNone):=LU zk p
def axg{x:Operand}(p:Option Addr):RD a9s (bo .eql 30 x y (.pointer p) (aq V)) w K X=K (.bool p.isNone):=LU zk p
def axh{x:Operand}(p:Option Addr):RD a9s (bo .eql 35 x y (.pointer p) (aq V)) w K X=K (.bool p.isNone):=LU zk p
def axi{x:Operand}(p:Option Addr):RD a9s (bo .eql 84 x y (.pointer p) (aq V)) w K X=K (.bool p.isNone):=LU zk p
def axj{x:Operand}(p:Option Addr):RD a9s (bo .eql 87 x y (.pointer p) (aq V)) w K X=K (.bool p.isNone):=LU zk p
def axk{x:Operand}(p:Option Addr)(n c:Nat):RD a9s (bo .eql 192 x y (.slice p n c) bV) w K X=K (.bool p.isNone):=aiu zk p n c
def axl{x:Operand}(p:Option Addr)(n c:Nat):RD a9s (bo .eql 68 x y (.slice p n c) bV) w K X=K (.bool p.isNone):=aiu zk p n c
abbrev fC(t f d:Nat):Prop:=∀ {b o:Nat} {w:Z} {X:Y->Z->Prop} {K:Y->Prop},RD a9s (Instr.fieldAt t (aq (O ⟨b,o,V⟩)) f) w K X=K (aq (O ⟨b,o+d,V⟩))
def axm:fC 100 1 1:=fB zk
def axn:fC 103 0 0:=fB zk
def axo:fC 103 1 2:=fB zk
def axp:fC 103 2 3:=fB zk
def axq:fC 116 0 0:=fB zk
def axr:fC 116 1 1:=fB zk
def axs:fC 116 2 3:=fB zk
def axt:fC 116 3 4:=fB zk
def axu:fC 116 4 5:=fB zk
def axv:fC 121 0 0:=fB zk
def axw:fC 121 1 1:=fB zk
def axx:fC 121 2 2:=fB zk
def axy:fC 121 3 3:=fB zk
def axz:fC 121 4 4:=fB zk
def axA:fC 130 0 0:=fB zk
def axB:fC 130 1 1:=fB zk
def axC:fC 130 2 3:=fB zk
def axD:fC 130 3 4:=fB zk
def axE:fC 130 4 5:=fB zk
def aiQ:fC 142 0 0:=fB zk
def aiR:fC 142 1 1:=fB zk
def aiS:fC 142 2 2:=fB zk
def aiT:fC 145 0 0:=fB zk
def aiU:fC 145 1 1:=fB zk
def axF:fC 149 0 0:=fB zk
def axG:fC 149 1 1:=fB zk
def axH:fC 149 2 2:=fB zk
def axI:fC 149 3 3:=fB zk
def axJ:fC 178 0 0:=fB zk
def axK:fC 178 1 1:=fB zk
def axL:fC 178 2 2:=fB zk
def axM:fC 178 3 3:=fB zk
def axN:fC 178 4 4:=fB zk
def axO:fC 180 0 0:=fB zk
def axP:fC 180 1 1:=fB zk
def axQ:fC 187 0 0:=fB zk
def axR:fC 187 1 1:=fB zk
def axS:fC 187 2 2:=fB zk
def axT:fC 196 0 0:=fB zk
def axU:fC 196 1 1:=fB zk
def axV:fC 198 0 0:=fB zk
def axW:fC 198 1 1:=fB zk
def axX:fC 198 2 2:=fB zk
def axY:fC 198 3 3:=fB zk
def axZ:fC 203 0 0:=fB zk
def ax0:fC 203 1 1:=fB zk
def ax1:fC 203 2 2:=fB zk
def ax2:fC 203 3 3:=fB zk
def ax3:fC 203 4 4:=fB zk
def ax4:fC 207 0 0:=fB zk
def ax5:fC 207 1 1:=fB zk
def ax6:fC 207 2 2:=fB zk
def ax7:fC 207 3 3:=fB zk
def ax8:fC 213 0 0:=fB zk
def ax9:fC 213 1 1:=fB zk
def aya:fC 213 2 2:=fB zk
def ayb:fC 247 0 0:=fB zk
def ayc:fC 247 1 2:=fB zk
def ayd:fC 247 2 3:=fB zk
def aye:fC 342 0 0:=fB zk
def ayf:fC 342 1 1:=fB zk
def ayg:fC 342 2 2:=fB zk
def ayh:fC 342 3 3:=fB zk
def ayi:fC 342 4 4:=fB zk
def ayj:fC 356 0 0:=fB zk
def ayk:fC 356 1 1:=fB zk
def ayl:fC 356 2 2:=fB zk
def aym:fC 356 3 3:=fB zk
def ayn:fC 72 0 0:=fB zk
def ayo:fC 77 0 0:=fB zk
def ayp:fC 77 1 1:=fB zk
def ayq:fC 86 0 0:=fB zk
def aiV:fC 86 1 1:=fB zk
def aiW:fC 86 2 2:=fB zk
def aiX:fC 86 3 3:=fB zk
def ayr:fC 91 0 0:=fB zk
def ays:fC 96 0 0:=fB zk
def ayt:fC 96 1 1:=fB zk
abbrev zx(t n:Nat):Prop:=∀ {b o len cap:Nat} {k:IntKind} {i:Int} {w:Z} {X:Y->Z->Prop} {K:Y->Prop},0<=i->i<len->RD a9s (Instr.indexAt t (.slice (O ⟨b,o,V⟩) len cap) (.int k i)) w K X=K (aq (O ⟨b,o+i.toNat*n,V⟩))
def ayu:zx 114 5:=fun a b=>zt zk a b
def ayv:zx 128 4:=fun a b=>zt zk a b
def aiY:zx 143 3:=fun a b=>zt zk a b
def ayw:zx 147 1:=fun a b=>zt zk a b
def ayx:zx 192 1:=fun a b=>zt zk a b
def ayy:zx 194 4:=fun a b=>zt zk a b
def ayz:zx 200 1:=fun a b=>zt zk a b
def ayA:zx 209 1:=fun a b=>zt zk a b
def ayB:zx 39 1:=fun a b=>zt zk a b
def ayC:zx 45 1:=fun a b=>zt zk a b
def ayD:zx 68 1:=fun a b=>zt zk a b
def ayE:zx 82 1:=fun a b=>zt zk a b
def ayF:zx 83 1:=fun a b=>zt zk a b
def ayG:zx 94 1:=fun a b=>zt zk a b
def ayH:zx 98 1:=fun a b=>zt zk a b
abbrev jZ(t:Nat):Prop:=∀ {b o:Nat} {w:Z} {X:Y->Z->Prop} {K:Y->Prop},RD a9s (aZX t (aq (O ⟨b,o,V⟩))) w K X=Vu (w.heap[b]?) o K (FK a9s (aZX t (aq (O ⟨b,o,V⟩))) w K X)
def ayI:jZ 101:=jY zk
def ayJ:jZ 106:=jY zk
def ayK:jZ 108:=jY zk
def ayL:jZ 113:=jY zk
def ayM:jZ 114:=jY zk
def ayN:jZ 117:=jY zk
def ayO:jZ 119:=jY zk
def ayP:jZ 122:=jY zk
def ayQ:jZ 125:=jY zk
def ayR:jZ 127:=jY zk
def ayS:jZ 128:=jY zk
def aiZ:jZ 140:=jY zk
def ai0:RD a9s (aZX 142 (aq (O ⟨b,o,V⟩))) w K X=LR (w.heap[b]?) o 3 K (FK a9s (aZX 142 (aq (O ⟨b,o,V⟩))) w K X):=Z0 zk
def ai1:jZ 143:=jY zk
def ayT:jZ 147:=jY zk
def ayU:jZ 184:=jY zk
def ayV:jZ 185:=jY zk
def ayW:jZ 192:=jY zk
def ayX:jZ 194:=jY zk
def ayY:RD a9s (aZX 198 (aq (O ⟨b,o,V⟩))) w K X=LR (w.heap[b]?) o 4 K (FK a9s (aZX 198 (aq (O ⟨b,o,V⟩))) w K X):=Z0 zk
def ayZ:jZ 2:=jY zk
def ay0:jZ 20:=jY zk
def ay1:jZ 200:=jY zk
def ay2:jZ 201:=jY zk
def ay3:jZ 211:=jY zk
def ay4:jZ 245:=jY zk
def ai2:RD a9s (aZX 256 (aq (O ⟨b,o,V⟩))) w K X=LR (w.heap[b]?) o 23 K (FK a9s (aZX 256 (aq (O ⟨b,o,V⟩))) w K X):=Z0 zk
def ay5:jZ 27:=jY zk
def ai3:jZ 3:=jY zk
def ay6:jZ 35:=jY zk
def ai4:jZ 39:=jY zk
def ay7:jZ 4:=jY zk
def ay8:jZ 45:=jY zk
def ay9:jZ 5:=jY zk
def aza:jZ 57:=jY zk
def azb:jZ 68:=jY zk
def azc:jZ 73:=jY zk
def azd:jZ 79:=jY zk
def aze:jZ 82:=jY zk
def azf:jZ 83:=jY zk
def azg:jZ 84:=jY zk
def azh:jZ 87:=jY zk
def azi:jZ 89:=jY zk
def ai5:jZ 9:=jY zk
def azj:jZ 93:=jY zk
def azk:jZ 94:=jY zk
def azl:jZ 98:=jY zk
abbrev AI(t:Nat):Prop:=∀ {a:Option Addr} {n c:Nat} {w:Z} {X:Y->Z->Prop} {K:Y->Prop},RD a9s (Builtin.len_ #[t] 3 #[.slice a n c]) w K X=K (.int .i64 n)
def azm:AI 114:=AE (e:=342) zk
def azn:AI 128:=AE (e:=356) zk
def azo:AI 147:=AE (e:=84) zk
def azp:AI 192:=AE (e:=185) zk
def azq:AI 194:=AE (e:=198) zk
def azr:AI 200:=AE (e:=20) zk
def azs:AI 209:=AE (e:=211) zk
def azt:AI 39:=AE (e:=9) zk
def azu:AI 45:=AE (e:=3) zk
def ai6:AI 68:=AE (e:=79) zk
def azv:AI 82:=AE (e:=89) zk
def azw:AI 83:=AE (e:=106) zk
def ai7{l:List UInt8}:RD a9s (Builtin.len_ #[9] 3 #[aT l]) w K X=K (.int .i64 l.length):=as4 zk
def azx:AI 94:=AE (e:=87) zk
def azy:AI 98:=AE (e:=5) zk
def azz{K:Y->Z->Prop}:WR a9s (a0g 111 v) w K X=K (aj 111 v) w:=CZ zk
def azA{K:Y->Z->Prop}:WR a9s (a0g 122 v) w K X=K (aj 122 v) w:=CZ zk
def azB{K:Y->Z->Prop}:WR a9s (a0g 134 v) w K X=K (aj 134 v) w:=CZ zk
def azC{K:Y->Z->Prop}:WR a9s (a0g 171 v) w K X=K (aj 171 v) w:=CZ zk
def azD{K:Y->Z->Prop}:WR a9s (a0g 172 v) w K X=K (aj 172 v) w:=CZ zk
def azE{K:Y->Z->Prop}:WR a9s (a0g 175 v) w K X=K (aj 175 v) w:=CZ zk
def azF{K:Y->Z->Prop}:WR a9s (a0g 201 v) w K X=K (aj 201 v) w:=CZ zk
def azG{K:Y->Z->Prop}:WR a9s (a0g 27 v) w K X=K (aj 27 v) w:=CZ zk
def azH{K:Y->Z->Prop}:WR a9s (a0g 73 v) w K X=K (aj 73 v) w:=CZ zk
def azI{K:Y->Z->Prop}:WR a9s (a0g 75 v) w K X=K (aj 75 v) w:=CZ zk
def azJ{K:Y->Z->Prop}:WR a9s (a0g 78 v) w K X=K (aj 78 v) w:=CZ zk
def azK{K:Y->Z->Prop}:WR a9s (a0g 87 v) w K X=K (aj 87 v) w:=CZ zk
def azL{K:Y->Z->Prop}:WR a9s (a1Z 101 V) w K X=K (.map (O w.heap.size)) (w.alloc (.map #[] 0)):=Rz
def azM{K:Y->Z->Prop}:WR a9s (a1Z 125 V) w K X=K (.map (O w.heap.size)) (w.alloc (.map #[] 0)):=Rz
def azN{K:Y->Z->Prop}:WR a9s (a1Z 184 V) w K X=K (.map (O w.heap.size)) (w.alloc (.map #[] 0)):=Rz
def azO{K:Y->Z->Prop}:WR a9s (a1Z 210 V) w K X=K (.map (O w.heap.size)) (w.alloc (.map #[] 0)):=Rz
def azP{K:Y->Z->Prop}:WR a9s (a1Z 240 V) w K X=K (.map (O w.heap.size)) (w.alloc (.map #[] 0)):=Rz
def azQ{K:Y->Z->Prop}(a:n<=m)(hm:m<=1000000):WR a9s (a2x 200 (.int El n) (.int OA m)) w K X=K (cR w.heap.size n m) (w.alloc (ae (madeCells #[ai] (m*1)) 20)):=aaP (z:=ai) (by_:=16) zk a zd hm
def azR{K:Y->Z->Prop}(a:n<=m)(hm:m<=1000000):WR a9s (a2x 45 (.int El n) (.int OA m)) w K X=K (cR w.heap.size n m) (w.alloc (ae (madeCells #[(.int .i64 0)] (m*1)) 3)):=aaP (z:=(.int .i64 0)) (by_:=8) zk a zd hm
def azS{K:Y->Z->Prop}(a:n<=m)(hm:m<=1000000):WR a9s (a2x 82 (.int El n) (.int OA m)) w K X=K (cR w.heap.size n m) (w.alloc (ae (madeCells #[ai] (m*1)) 89)):=aaP (z:=ai) (by_:=16) zk a zd hm
def azT{x:Operand}(c:Y):RD a9s (bo .neq 57 x (.const c) ai ai) w K X=K (.bool G):=avV zk c
def azU{x:Operand}(u:TypeId)(v:Y):RD a9s (bo .neq 57 x y (aj u v) ai) w K X=K (.bool A):=avU zk u v
def azV{x:Operand}(p:Option Addr):RD a9s (bo .neq 113 x y (.pointer p) (aq V)) w K X=K (.bool !p.isNone):=aaI zk p
def azW{x:Operand}(p:Option Addr):RD a9s (bo .neq 185 x y (.pointer p) (aq V)) w K X=K (.bool !p.isNone):=aaI zk p
def azX{x:Operand}(p:Option Addr):RD a9s (bo .neq 35 x y (.pointer p) (aq V)) w K X=K (.bool !p.isNone):=aaI zk p
def azY{x:Operand}(p:Option Addr)(n c:Nat):RD a9s (bo .neq 39 x y (.slice p n c) bV) w K X=K (.bool !p.isNone):=avS zk p n c
def azZ{a:Option Addr}{k:IntKind}(b:0<=l)(c:l<=cap):RD a9s (a0v 114 (.slice a pb cap) V (O (.int k l)) V) w K X=K (sliced a 0 l.toNat cap 5):=Rs zk b c
def az0{a:Option Addr}{k:IntKind}(b:0<=l)(c:l<=cap):RD a9s (a0v 128 (.slice a pb cap) V (O (.int k l)) V) w K X=K (sliced a 0 l.toNat cap 4):=Rs zk b c
def az1{a:Option Addr}{k:IntKind}(b:0<=l)(c:l<=cap):RD a9s (a0v 200 (.slice a pb cap) V (O (.int k l)) V) w K X=K (sliced a 0 l.toNat cap 1):=Rs zk b c
def az2{a:Option Addr}{k:IntKind}(b:0<=l)(c:l<=cap):RD a9s (a0v 39 (.slice a pb cap) V (O (.int k l)) V) w K X=K (sliced a 0 l.toNat cap 1):=Rs zk b c
def az3{a:Option Addr}{k:IntKind}(b:0<=l)(c:l<=cap):RD a9s (a0v 94 (.slice a pb cap) V (O (.int k l)) V) w K X=K (sliced a 0 l.toNat cap 1):=Rs zk b c
def ai8{a:Option Addr}{k:IntKind}(b:0<=l)(c:l<=pb):RD a9s (a0v 143 (.slice a pb cap) (O (.int k l)) V V) w K X=K (sliced a l.toNat pb cap 3):=Ou zk b c
def az4{a:Option Addr}{k:IntKind}(b:0<=l)(c:l<=pb):RD a9s (a0v 192 (.slice a pb cap) (O (.int k l)) V V) w K X=K (sliced a l.toNat pb cap 1):=Ou zk b c
def az5{a:Option Addr}{k:IntKind}(b:0<=l)(c:l<=pb):RD a9s (a0v 39 (.slice a pb cap) (O (.int k l)) V V) w K X=K (sliced a l.toNat pb cap 1):=Ou zk b c
def az6{a:Option Addr}{k:IntKind}(b:0<=l)(c:l<=pb):RD a9s (a0v 45 (.slice a pb cap) (O (.int k l)) V V) w K X=K (sliced a l.toNat pb cap 1):=Ou zk b c
def az7{a:Option Addr}{k:IntKind}(b:0<=l)(c:l<=pb):RD a9s (a0v 68 (.slice a pb cap) (O (.int k l)) V V) w K X=K (sliced a l.toNat pb cap 1):=Ou zk b c
def ai9{s:List UInt8}{k:IntKind}(a:0<=l)(b:l<=s.length):RD a9s (a0v 9 (aT s) (O (.int k l)) V V) w K X=K (aT (s.drop l.toNat)):=as7 zk a b
def az8{a:Option Addr}{k:IntKind}(b:0<=l)(c:l<=pb):RD a9s (a0v 94 (.slice a pb cap) (O (.int k l)) V V) w K X=K (sliced a l.toNat pb cap 1):=Ou zk b c
def aja{s:List UInt8}{k:IntKind}{m:Int}(a:0<=l)(b:l<=m)(c:m<=s.length):RD a9s (a0v 9 (aT s) (O (.int k l)) (O (.int El m)) V) w K X=K (aT ((s.take m.toNat).drop l.toNat)):=as8 zk a b c
abbrev nM(t n:Nat):Prop:=∀ {b o:Nat} {w:Z} {X:Y->Z->Prop} {K:Z->Prop} (v:Y),WU a9s (Instr.storeAt t (aq (O ⟨b,o,V⟩)) v) w K X=Rq (w.heap[b]?) w b o n v K (WU0 a9s (Instr.storeAt t (aq (O ⟨b,o,V⟩)) v) w K X)
def az9:nM 101 1:=fun v=>nL zk v
def aAa:nM 103 4:=fun v=>nL zk v
def aAb:nM 108 1:=fun v=>nL zk v
def aAc:nM 113 1:=fun v=>nL zk v
def aAd:nM 114 1:=fun v=>nL zk v
def aAe:nM 122 1:=fun v=>nL zk v
def aAf:nM 127 1:=fun v=>nL zk v
def aAg:nM 128 1:=fun v=>nL zk v
def ajb:nM 142 3:=fun v=>nL zk v
def ajc:nM 143 1:=fun v=>nL zk v
def aAh:nM 185 1:=fun v=>nL zk v
def aAi:nM 192 1:=fun v=>nL zk v
def aAj:nM 194 1:=fun v=>nL zk v
def aAk:nM 198 4:=fun v=>nL zk v
def aAl:nM 20 1:=fun v=>nL zk v
def aAm:nM 3 1:=fun v=>nL zk v
def ajd:nM 39 1:=fun v=>nL zk v
def aAn:nM 4 1:=fun v=>nL zk v
def aAo:nM 45 1:=fun v=>nL zk v
def aAp:nM 57 1:=fun v=>nL zk v
def aAq:nM 68 1:=fun v=>nL zk v
def aAr:nM 79 1:=fun v=>nL zk v
def aAs:nM 82 1:=fun v=>nL zk v
def aje:nM 83 1:=fun v=>nL zk v
def ajf:nM 84 1:=fun v=>nL zk v
def aAt:nM 89 1:=fun v=>nL zk v
def aAu:nM 9 1:=fun v=>nL zk v
def aAv:nM 94 1:=fun v=>nL zk v
def aAw:nM 98 1:=fun v=>nL zk v
def aAx(t:TypeId)(v:Y):RD a9s (aZ0 (aj t v) 20 201 A) w K X=if t=201 then K (ak #[v,.bool A]) else K (ak #[(.int .i64 0),.bool G]):=Rx zk zk t v
def aAy(t:TypeId)(v:Y):RD a9s (aZ0 (aj t v) 89 171 A) w K X=if t=171 then K (ak #[v,.bool A]) else K (ak #[(aT []),.bool G]):=Rx zk zk t v
def aAz(t:TypeId)(v:Y):RD a9s (aZ0 (aj t v) 89 172 A) w K X=if t=172 then K (ak #[v,.bool A]) else K (ak #[(.int .i64 0),.bool G]):=Rx zk zk t v
def aAA(t:TypeId)(v:Y):RD a9s (aZ0 (aj t v) 89 175 A) w K X=if t=175 then K (ak #[v,.bool A]) else K (ak #[(aq V),.bool G]):=Rx zk zk t v
def aAB(t:TypeId)(v:Y):RD a9s (aZ0 (aj t v) 89 87 A) w K X=if t=87 then K (ak #[v,.bool A]) else K (ak #[(aq V),.bool G]):=Rx zk zk t v
def aAC:RD a9s (aZ0 ai 20 201 A) w K X=K (ak #[(.int .i64 0),.bool G]):=Ry zk zk
def aAD:RD a9s (aZ0 ai 89 171 A) w K X=K (ak #[(aT []),.bool G]):=Ry zk zk
def aAE:RD a9s (aZ0 ai 89 172 A) w K X=K (ak #[(.int .i64 0),.bool G]):=Ry zk zk
def aAF:RD a9s (aZ0 ai 89 175 A) w K X=K (ak #[(aq V),.bool G]):=Ry zk zk
def aAG:RD a9s (aZ0 ai 89 87 A) w K X=K (ak #[(aq V),.bool G]):=Ry zk zk
def ajg{k:IntKind}{i:Int}(a:0<=i)(b:i<23):RD a9s (Instr.index 256 (.agg cs) (.int k i)) w K X=Rv cs i K (FK a9s (Instr.index 256 (.agg cs) (.int k i)) w K X):=avW (e:=9) zk zk a b
def zB := (zA zG0 (zA @awQ (zA @azH (zA @aiJ (zA @aiK (zA @aiP (zA @ai0 (zA @ai7 (zA @ajb (zA @aiN (zA @ai2 (zA @ai9 (zA @aja (zA @ajg (zA @aiL (zA @aiM (zA @aiO (zA @aiQ (zA @aiR (zA @aiS (zA @aiT (zA @aiU (zA @aiV (zA @aiW (zA @aiX (zA @aiY (zA @aiZ (zA @ai1 (zA @ai3 (zA @ai4 (zA @ai5 (zA @ai6 (zA @ai8 (zA @ajc (zA @ajd (zA @aje (zA @ajf (zA @awt (zA @awu (zA @awE (zA @aza (zA @azb (zA @aAp (zA @aAq (zA @aww (zA @azd (zA @aAr (zA @awP (zA @azT (zA @azU (zA @awq (zA @awv (zA @aw8 (zA @axa (zA @ayo (zA @ayp (zA @ay5 (zA @azc (zA @azI (zA @azJ (zA @axm (zA @azl (zA @aAw (zA @aw4 (zA @aw9 (zA @axb (zA @ayr (zA @azi (zA @aAB (zA @aAG (zA @awD (zA @ayt (zA @azB (zA @aAm (zA @ays (zA @azk (zA @azx (zA @aw3 (zA @aAt (zA @aAv (zA @ayG (zA @azh (zA @az3 (zA @az8 (zA @axc (zA @axn (zA @axo (zA @axp (zA @ayI (zA @azj (zA @azL (zA @az9 (zA @aAy (zA @aAz (zA @aAA (zA @aAD (zA @aAE (zA @aAF (zA @axO (zA @axP (zA @ayE (zA @aze (zA @azv (zA @axj (zA @azK (zA @azG (zA @azD (zA @awF (zA @aw2 (zA @axJ (zA @axK (zA @axL (zA @axM (zA @axN (zA @ayF (zA @ayJ (zA @ayZ (zA @ay9 (zA @azf (zA @azw (zA @azC (zA @azE (zA @aAs (zA @awO (zA @awT (zA @axB (zA @axD (zA @ayS (zA @aAg (zA @awy (zA @azS (zA @awK (zA @axC (zA @ayl (zA @ayv (zA @ayD (zA @azg (zA @azt (zA @az0 (zA @az7 (zA @aAf (zA @aw7 (zA @axl (zA @axA (zA @axG (zA @axH (zA @ayQ (zA @ayR (zA @azn (zA @axi (zA @axF (zA @axI (zA @ax4 (zA @ax5 (zA @ax6 (zA @ayw (zA @ayT (zA @azo (zA @axe (zA @ax7 (zA @ayj (zA @ayk (zA @aym (zA @ayq (zA @azM (zA @awC (zA @axE (zA @azy (zA @awx (zA @awz (zA @axv (zA @axw (zA @axx (zA @axy (zA @axz (zA @ayB (zA @ayN (zA @ayO (zA @ay6 (zA @azY (zA @aAu (zA @ayP (zA @awo (zA @awB (zA @ayn (zA @azA (zA @azX (zA @aAe (zA @axs (zA @axY (zA @ax0 (zA @ayz (zA @ayC (zA @ayL (zA @ay0 (zA @ay1 (zA @ay8 (zA @awJ (zA @awN (zA @awS (zA @axr (zA @axt (zA @axu (zA @axT (zA @ayx (zA @ayM (zA @ayV (zA @azp (zA @azr (zA @azQ (zA @azZ (zA @az4 (zA @aAc (zA @aAd (zA @axk (zA @aye (zA @ayf (zA @ayg (zA @ayh (zA @ayi (zA @ayu (zA @ayW (zA @azm (zA @axW (zA @azu (zA @az6 (zA @aAl (zA @awW (zA @axq (zA @axQ (zA @ayK (zA @ayU (zA @axd (zA @axV (zA @axX (zA @ax1 (zA @ax2 (zA @ax3 (zA @ay2 (zA @azF (zA @aAx (zA @aAC (zA @axR (zA @axU (zA @axZ (zA @ayy (zA @ayX (zA @azq (zA @azV (zA @azW (zA @awA (zA @axS (zA @az1 (zA @aw5 (zA @aw6 (zA @azP (zA @ayb (zA @awI (zA @awV (zA @aAj (zA @aw0 (zA @aw1 (zA @ayc (zA @awr (zA @ay4 (zA @awM (zA @ayd (zA @azR (zA @awm (zA @awp (zA @awR (zA @awY (zA @ayH (zA @ayY (zA @aAa (zA @aAk (zA @awl (zA @awZ (zA @ax8 (zA @ax9 (zA @aya (zA @ayA (zA @ay3 (zA @azs (zA @aws (zA @awL (zA @awU (zA @awX (zA @ay7 (zA @azO (zA @aAi (zA @aAn (zA @az5 (zA @aAo (zA @awn (zA @awG (zA @awH (zA @axf (zA @azN (zA @az2 (zA @aAb (zA @aAh (zA @azz (zA @axg @axh))))))))))))))))))))))))))))))))))))))))))))))))))))))))))))))))))))))))))))))))))))))))))))))))))))))))))))))))))))))))))))))))))))))))))))))))))))))))))))))))))))))))))))))))))))))))))))))))))))))))))))))))))))))))))))))))))))))))))))))))))))))))))))))))))))))))))))))))))))))))))))))))))))))))))))))))
def bE {P : Prop} (k : Q) (t : Q -> P := by intro  a; simp (disch:=first|assumption|omega|simp only[zS]<;>omega|decide) only[zB,simprocAttr,kJ]; exact a) : P := t k
def eR {P : Prop} (t : P := by simp (disch:=first|assumption|omega|simp only[zS]<;>omega|decide) only[zB,simprocAttr,kJ]) : P := t
def cH {P:Prop} (a : A0) (k : Q) (t : A0 -> Q -> P := by intro a b; simp (disch:=first|assumption|omega|simp only[zS]<;>omega|decide) only[zB,simprocAttr,kJ, a]; exact b) : P := t a k
def fa {P:Prop} (a : A0) (t : A0 -> P := by intro a; simp (disch:=first|assumption|omega|simp only[zS]<;>omega|decide) only[zB,simprocAttr,kJ, a]) : P := t a
def du {P:Prop} (a : A0) (b : A1) (k : Q) (t : A0 -> A1 -> Q -> P := by intro a b c; simp (disch:=first|assumption|omega|simp only[zS]<;>omega|decide) only[zB,simprocAttr,kJ, a, b]; exact c) : P := t a b k
def lP {P:Prop} (a : A0) (b : A1) (t : A0 -> A1 -> P := by intro a b; simp (disch:=first|assumption|omega|simp only[zS]<;>omega|decide) only[zB,simprocAttr,kJ, a, b]) : P := t a b
def iZ {P:Prop} (a : A0) (b : A1) (c : Jz) (k : Q) (t : A0 -> A1 -> Jz -> Q -> P := by intro a b c d; simp (disch:=first|assumption|omega|simp only[zS]<;>omega|decide) only[zB,simprocAttr,kJ, a, b, c]; exact d) : P := t a b c k
def FU {P:Prop} (a : A0) (b : A1) (c : Jz) (t : A0 -> A1 -> Jz -> P := by intro a b c; simp (disch:=first|assumption|omega|simp only[zS]<;>omega|decide) only[zB,simprocAttr,kJ, a, b, c]) : P := t a b c
def dH {e P:Prop} (a : A0) (b : A1) (c : Jz) (d : e) (k : Q) (t : A0 -> A1 -> Jz -> e -> Q -> P := by intro a b c d f; simp (disch:=first|assumption|omega|simp only[zS]<;>omega|decide) only[zB,simprocAttr,kJ, a, b, c, d]; exact f) : P := t a b c d k
def AK {e P:Prop} (a : A0) (b : A1) (c : Jz) (d : e) (t : A0 -> A1 -> Jz -> e -> P := by intro a b c d; simp (disch:=first|assumption|omega|simp only[zS]<;>omega|decide) only[zB,simprocAttr,kJ, a, b, c, d]) : P := t a b c d
def JA {P : Prop} (k : Q) (t : Q -> P := by intro  a; simp (disch:=first|assumption|omega|simp only[zS]<;>omega|decide) only[zB,Nat.reduceAdd,Nat.reduceMul,Nat.reduceLeDiff,Nat.reduceEqDiff,Int.reduceToNat,Int.reduceAdd,Int.reduceLT,Int.reduceLE,↓reduceIte,kJ]; exact a) : P := t k
def yf {P:Prop} (a : A0) (k : Q) (t : A0 -> Q -> P := by intro a b; simp (disch:=first|assumption|omega|simp only[zS]<;>omega|decide) only[zB,Nat.reduceAdd,Nat.reduceMul,Nat.reduceLeDiff,Nat.reduceEqDiff,Int.reduceToNat,Int.reduceAdd,Int.reduceLT,Int.reduceLE,↓reduceIte,kJ, a]; exact b) : P := t a k
def aaT {P:Prop} (a : A0) (t : A0 -> P := by intro a; simp (disch:=first|assumption|omega|simp only[zS]<;>omega|decide) only[zB,Nat.reduceAdd,Nat.reduceMul,Nat.reduceLeDiff,Nat.reduceEqDiff,Int.reduceToNat,Int.reduceAdd,Int.reduceLT,Int.reduceLE,↓reduceIte,kJ, a]) : P := t a
open Go.RowKit
def fK(F:Nat->Prop)(w:Z)(a:TypeId)(v:Y)(vs:List Y):Prop:=
 (vs=[]/\v = bV) \/
 ∃ b cs,v = cR b vs.length cs.size/\F b/\w.heap[b]?=aM cs a/\vs.length<=cs.size/\cs.toList.take vs.length=vs
theorem fK.mono{F':Nat->Prop}{a:TypeId}(h:fK F w a v vs)
  (c:∀ b,F b->F' b) (hw:∀ b cs,F b->w.heap[b]?=aM cs a->w'.heap[b]?=aM cs a):fK F' w' a v vs:=by
 rcases h with h | ⟨b,cs,d,e,f,g⟩
 .exact .inl h
 .exact .inr zg
mutual
def eL (F:Nat->Prop) (w:Z) (v:Y):Ex->Prop
 | .mk kind name n k args=>∃ b av vs,v = aq (O ⟨b,0,V⟩)/\F b /\
  w.heap[b]?=aM #[.int .u8 kind,aT name,zi n,zi k,av] 178 /\
  fK F w 106 av vs/\eO F w vs args
 termination_by structural x=>x
def eO (F:Nat->Prop) (w:Z) (vs:List Y):List Ex->Prop
 | []=>vs=[]
 | x::xs=>∃ v r,vs=v::r/\eL F w v x/\eO F w r xs
 termination_by structural x=>x
end
def C5:Obj->Prop
 | ae _ t z=>(t=178\/t=106\/t=149\/t=84)/\z=(0,0)
 | _=>False
mutual
theorem eL.mono {F F':Nat->Prop} {w w':Z} (a:∀ b,F b->F' b) (hw:∀ b o,F b->C5 o->w.heap[b]?=O o->w'.heap[b]?=O o) :
  ∀ (x:Ex) (v:Y),eL F w v x->eL F' w' v x
 | .mk kind name n k args,v,h=>by
  unfold eL at h ⊢;obtain⟨b,av,vs,d,c,e,f,g⟩:=h;exact⟨b,av,vs,d,a b c,hw b _ c ⟨.inl J,J⟩ e,f.mono a fun b cs i j=>hw b _ i ⟨zg,J⟩ j,eO.mono a hw args vs g⟩
 termination_by structural x=>x
theorem eO.mono {F F':Nat->Prop} {w w':Z} (a:∀ b,F b->F' b) (hw:∀ b o,F b->C5 o->w.heap[b]?=O o->w'.heap[b]?=O o) :
  ∀ (l:List Ex) (vs:List Y),eO F w vs l->eO F' w' vs l
 | [],vs,h=>by grind [eO]
 | x::xs,vs,h=>by
  unfold eO at h ⊢;obtain⟨v,r,d,c,e⟩:=h;exact⟨v,r,d,eL.mono a hw x v c,eO.mono a hw xs r e⟩
 termination_by structural x=>x
end
mutual
def dL (F:Nat->Prop) (w:Z) (v:Y):Bd->Prop
 | .mk kind name args parts=>∃ b av a vs us,v = aq (O ⟨b,0,V⟩)/\F b /\
  w.heap[b]?=aM #[.int .u8 kind,aT name,av,a] 149 /\
  fK F w 106 av vs/\eO F w vs args/\fK F w 84 a us/\gx F w us parts
 termination_by structural x=>x
def gx (F:Nat->Prop) (w:Z) (vs:List Y):List Bd->Prop
 | []=>vs=[]
 | x::xs=>∃ v r,vs=v::r/\dL F w v x/\gx F w r xs
 termination_by structural x=>x
end
mutual
theorem dL.mono {F F':Nat->Prop} {w w':Z} (a:∀ b,F b->F' b) (hw:∀ b o,F b->C5 o->w.heap[b]?=O o->w'.heap[b]?=O o) :
  ∀ (x:Bd) (v:Y),dL F w v x->dL F' w' v x
 | .mk kind name args parts,v,h=>by
  unfold dL at h ⊢;obtain⟨b,av,i,vs,us,d,c,e,j,n,k,m⟩:=h;exact⟨b,av,i,vs,us,d,a b c,hw b _ c ⟨zg,J⟩ e,j.mono a fun b cs f g=>hw b _ f ⟨zg,J⟩ g,
   (by grind [eO.mono]),k.mono a fun b cs f g=>hw b _ f ⟨zg,J⟩ g,gx.mono a hw parts us m⟩
 termination_by structural x=>x
theorem gx.mono {F F':Nat->Prop} {w w':Z} (a:∀ b,F b->F' b) (hw:∀ b o,F b->C5 o->w.heap[b]?=O o->w'.heap[b]?=O o) :
  ∀ (l:List Bd) (vs:List Y),gx F w vs l->gx F' w' vs l
 | [],vs,h=>by grind [gx]
 | x::xs,vs,h=>by
  unfold gx at h ⊢;obtain⟨v,r,d,c,e⟩:=h;exact⟨v,r,d,dL.mono a hw x v c,gx.mono a hw xs r e⟩
 termination_by structural x=>x
end
structure TW(T:List P.Tok):Prop where
 len:T.length<=2001
 last:∃ l t,T=l++[t]/\t.kind=0/\∀ u∈l,u.kind≠0
 kind:∀ u∈T,u.kind<=4
 digits:∀ u∈T,u.kind=3->u.text≠[]/\u.text.all P.digit=A/\u.text.length<=9
 words:∀ u∈T,u.kind=1->∃ c r,u.text=c::r/\P.cls c=115
 vars:∀ u∈T,u.kind=2->u.text≠[]
def TW.pos(h:TW T):0<T.length:=by
 obtain⟨l,t,rfl,_⟩:=h.last;simp
def TW.next(h:TW T)(hk:k<T.length)(a:(tk T k).kind≠0):k+1<T.length:=by
 obtain⟨l,t,rfl,b,_⟩:=h.last;grind [List.length_append,List.length_cons,List.length_nil,Nat.lt_or_ge,absurd,tk]
def JB(hk:k<T.length):tk T k∈T:=by
 grind [tk,List.getElem?_eq_getElem,List.getElem_mem]
structure zy(w:Z)(B:Nat):Prop where
 lt:2<B
 FV:∀ l,l<2->∃ b o c,b<B/\w.cell? ⟨2,l,V⟩=O (.slice (O ⟨b,o,V⟩) (P.ops l).length c) /\
  ∀ j,j<(P.ops l).length->w.cell? ⟨b,o+j,V⟩=O (aT ((P.ops l).getD j []))
theorem LX{a:Addr}(h:w.cell? a=O v)(hw:∀ o,w.heap[a.block]?=O o->w'.heap[a.block]?=O o):w'.cell? a=O v:=by
 grind [World.cell?,World.cell?_of_block]
theorem zy.ext(h:zy w B)(hw:∀ (b:Nat) (o:Obj),b<B->w.heap[b]?=O o->w'.heap[b]?=O o):zy w' B:=by
 refine⟨h.lt,fun l a=>?_⟩;grind [LX,FV,lt]
def RC(w:Z)(tb:Nat)(T:List P.Tok):Prop:=
 zy w tb/\∃ cs,w.heap[tb]?=aM cs 142/\∀ j,j<T.length ->
  cs[j*3]?=O (zi ((tk T j).kind))/\cs[j*3+1]?=O (aT ((tk T j).text))/\cs[j*3+2]?=O (zi ((tk T j).pos))
structure SP(w:Z)(pb tb:Nat)(T:List P.Tok)(k:Nat)(vars:List Bs)(d:Nat):Prop where
 tw:TW T
 lt:tb<pb
 kt:k<T.length
 nv:vars.length<=12
 toks:RC w tb T
 yg:∃ cap vv,T.length<=cap/\cap<=9223372036854775807/\w.heap[pb]?=aM #[.slice (O ⟨tb,k*3,V⟩) (T.length-k) (cap-k),vv,zi d] 145 /\
  w.ownsRow (pb+1) 9 1 vv vars.length (vars.map fun s=>aT s)
def SB(w:Z)(pb:Nat):Prop:=∃ lv vv d,w.heap[pb]?=aM #[lv,vv,zi d] 145
def MS(pb b:Nat)(o:Obj):Prop:=b=pb\/(pb<b/\∃ cs z,o = ae cs 9 z)
abbrev cZ(pb:Nat)(w w':Z):Prop:=bB (MS pb) w w'
def cZ.toks(h:cZ pb w w')(f:tb<pb)(ht:RC w tb T):RC w' tb T:=by
 obtain⟨a,cs,c,d⟩:=ht;exact⟨a.ext fun b o g e=>h.block _ _ e (by rintro (h | ⟨h,_⟩)<;>omega),cs,h.block _ _ c (by rintro (h | ⟨h,_⟩)<;>omega),d⟩
theorem cZ.bH(h:cZ pb w w'){t:TypeId}{z:Nat×Nat}(a:w.heap[b]?=O (ae cs t z))
  (c:b≠pb) (ht:t≠9):w'.heap[b]?=O (ae cs t z):=
 h.block _ _ a (by
  rintro (h | ⟨_,cs',d,h⟩)<;>grind)
theorem cZ.kX{o:Obj}(h:cZ pb w w')(a:C5 o)(c:w.heap[b]?=O o)(d:b≠pb):w'.heap[b]?=O o:=by
 cases o with
 | cells cs t z=>
  refine h.bH c d ?_;rintro rfl;rcases a.1 with h | h | h | h<;>cases h
 | _=>exact a.elim
abbrev Nu(w w':Z):Nat->Prop:=fun b=>w.heap.size<=b/\b<w'.heap.size
def mN(c a:Int)(w w':Z)(e:Ending):Prop:=
 ∃ b,e = .panicked [{ v:=aj 73 (pp b),recovered:=false }] /\
  w'.heap[b]?=aM #[zi c,zi a] 77/\w.heap.size<=b
def jN{α:Type}(I:(Nat->Prop)->Z->Y->α->Prop)(pb tb:Nat)(T:List P.Tok)(d:Nat)(w:Z):cj α->Ending->Z->Prop
 | .ok x k vs,e,w'=>∃ v,e = ah v/\I (Nu w w') w' v x/\SP w' pb tb T k vs d/\cZ pb w w'
 | .err c a,e,w'=>mN c a w w' e/\cZ pb w w'/\SB w' pb
open Sx
theorem bB.bO{M:Nat->Obj->Prop}{a b:Z}(h:bB M a b){p:Nat}{o:Obj}(c:(∀ x,M p x)\/a.heap.size<=p):bB M a (bO b p o):=
 ⟨h.os,h.tape,h.output,by rw[uC];exact h.size,(by grind [absurd,iY,bg,block])⟩
def yF{p:Prop}(h:p:=by grind [bB.refl,bB.alloc,bB.drew,bB.bO,bB.trans,bB.toM,bB.ext,size_alloc,uC,BE,bg]):p:=h
def jJ(hw:∀ (b:Nat) (o:Obj),w.heap[b]?=O o->w'.heap[b]?=O o){size:Nat}(h:w.ownsRow base e size v n xs):w'.ownsRow base e size v n xs:=by
 obtain⟨g1,g2⟩:=h;refine⟨g1,?_⟩;rcases g2 with g | ⟨g,a,cur,c,d,i,f⟩
 .exact yH
 .exact .inr ⟨g,a,cur,c,d,yH,f⟩
theorem JC{p:Nat}{o:Obj}{size:Nat}(h:w.ownsRow base e size v n xs)(f:p<base):(bO w p o).ownsRow base e size v n xs:=by
 obtain⟨g1,g2⟩:=h;refine⟨g1,?_⟩;rcases g2 with g | ⟨g,a,cur,b,c,i,d⟩
 .exact yH
 .exact .inr ⟨g,a,cur,b,c,yH,d⟩
def ajh{P:Program}{t ty e:TypeId}{i:TypeInfo}{size bytes:Nat}(ht:P.underlying t=O (.slice e))(d:P.info? e=O i)(f:i.zero=O z)
  (g:i.size=size) (l:i.bytes=bytes) (o:z.cells.size=size) (p:0<size)
 (q:w.ownsRow base e size v n xs) {T:TypeId} {r:Nat×Nat} (D:w.heap[b]?=O (ae cs T r)) (s:cs.toList.length=m*size) (x:∀ u∈cs.toList,u.oneCell'=A)
  (y:n+m<=1000000) (a:bytes<=1000) (B:base<=w.heap.size) {K:Y->Z->Prop}
  (h:∀ v' w',w'.ownsRow base e size v' (n+m) (xs++cs.toList)->w.grownBy w' v.ownBlock->(v'.ownBlock=v.ownBlock\/∀ k,v'.ownBlock=O k->w.heap.size<=k)->K v' w') :
  WR P (Builtin.append_ #[t,t] ty #[v,cR b m c]) w K X:=by
 have E:(n+m)*bytes<=1000000*1000:=Nat.mul_le_mul y a;obtain⟨v',w',C,F,H,I⟩:=Vk (P:=P) w base t ty e i z size bytes ht d f g l o p v n xs q ⟨b,0,V⟩ m c cs.toList s (fun j u hu=>by
  rw[addr_add,Nat.zero_add];grind [cellOf]) x (by grind [maxLen]) zo B
 rw[wU C];grind
def bB.grow{M:Nat->Obj->Prop}{a b c:Z}(h:bB M a b){r:Option Nat}(d:b.grownBy c r)(hr:∀ k,r=O k->a.heap.size<=k):bB M a c:=
 ⟨d.os.trans h.os,d.tape.trans h.tape,d.output.trans h.output,Nat.le_trans h.size d.size,fun i o f hm=>by
  have:=bg f;have g:=h.block i o f hm;rw[d.block i (bg g) (fun e=>by have:=hr i e.symm;omega)];exact g⟩
def gV{size:Nat}(h:w.ownsRow base e size v n xs):∃ a c,v = .slice a n c:=by
 rcases h.2 with⟨rfl,rfl⟩| ⟨g,cap,cur,rfl,_⟩<;>grind
theorem RC.at(h:RC w tb T)(hk:k<T.length) :
  w.cell? ⟨tb,k*3,V⟩=O (zi ((tk T k).kind))/\w.cell? ⟨tb,k*3+1,V⟩=O (aT ((tk T k).text)) /\
   w.cell? ⟨tb,k*3+2,V⟩=O (zi ((tk T k).pos)):=by
 obtain⟨-,cs,a,b⟩:=h;grind [cellOf]
def SP.set{a:Nat}(h:SP w pb tb T k vars d)(hk:k'<T.length)
  (c:cZ pb w w')
  (o:∀ cap vv,w.heap[pb]?=aM #[.slice (O ⟨tb,k*3,V⟩) (T.length-k) (cap-k),vv,zi d] 145 ->
   w'.heap[pb]?=aM #[.slice (O ⟨tb,k'*3,V⟩) (T.length-k') (cap-k'),vv,zi a] 145)
  (p:∀ b,b≠pb->w'.heap[b]?=w.heap[b]?):SP w' pb tb T k' vars a:=by
 obtain⟨tw,lt,kt,nv,toks,cap,vv,e,f,q,i⟩:=h;refine⟨tw,lt,hk,nv,c.toks lt toks,cap,vv,e,f,zg,?_⟩;obtain⟨g1,g2⟩:=i;refine⟨g1,?_⟩;rcases g2 with g | ⟨g,j,cur,l,m,r,n⟩
 .grind
 .exact .inr ⟨g,j,cur,l,m,zg,n⟩
theorem cZ.FW{a b:Z}(h:cZ pb a b)(v:Y):cZ pb a (b.setCell ⟨pb,o,V⟩ v):=h.asK (fun _=>.inl J) v
def uE(hp:SP w pb tb T k vars d)(s:Bs)(h:eh T k s=A) :
  Calls a9s 49 #[pp pb,aT s] w fun e w'=>
   e = ah (.bool A)/\SP w' pb tb T (k+1) vars d/\cZ pb w w':=by
 obtain⟨cap,vv,jw,rO,fY,-⟩:=hp.yg;have h0:=cellOf fY (o:=0) J;have f0:=jH fY 0;obtain⟨t0,t1,-⟩:=hp.toks.at hp.kt;simp only[eh,Bool.and_eq_true,Bool.or_eq_true,beq_iff_eq] at h;have hkn:k+1<T.length:=hp.tw.next hp.kt zo
 have kK:SP (w.setCell ⟨pb,0,V⟩ (.slice (O ⟨tb,k*3+3,V⟩) (T.length-k-1) (cap-k-1))) pb tb T (k+1) vars d:=by
  refine hp.set hkn (cZ.FW (bB.refl _ _) _) (fun cp v2 hv=>?_) (by grind [blk_setCell_other]);rw[fY] at hv;injection hv with hv;injection hv with hv;have hx:(Value.slice (O ⟨tb,k*3,V⟩) (T.length-k) (cap-k))=Value.slice (O ⟨tb,k*3,V⟩) (T.length-k) (cp-k):=by
   grind
  have hy:vv=v2:=zg;injection hx with _ _ hx;subst hy;rw[Az fY];grind
 have sH:cZ pb w (w.setCell ⟨pb,0,V⟩ (.slice (O ⟨tb,k*3+3,V⟩) (T.length-k-1) (cap-k-1))):=cZ.FW (bB.refl _ _) _;obtain⟨kd,iN⟩:∃ kd:Int,kd=((tk T k).kind:Int):=⟨_,J⟩;rw[<- iN] at t0;rw[h.2] at t1;have k0:(kd == 0)=false:=zg;have k2:(kd == 2)=false:=zg;have l1:1<T.length-k:=zo;have l2:T.length-k<=100000:=by have:=hp.tw.len;omega
 have l3:T.length-k<=cap-k:=zo;clear iN h;generalize hn:T.length-k=n at *;generalize hm:cap-k=m at *;clear hn hm jw rO hkn hp fY
 go_enter func49,ntmps49
 go_wp2
 go_ret
 exact⟨J,kK,sH⟩
def pW(hp:SP w pb tb T k vars d)(s:Bs)(h:eh T k s=G)
  (hs:s.all P.digit=G) :
  Calls a9s 49 #[pp pb,aT s] w fun e w'=>e = ah (.bool G)/\w=w':=by
 obtain⟨cap,vv,jw,rO,fY,-⟩:=hp.yg;have h0:=cellOf fY (o:=0) J;obtain⟨t0,t1,-⟩:=hp.toks.at hp.kt;have yh:=hp.tw.kind _ (JB hp.kt);have wZ:=hp.tw.digits _ (JB hp.kt);have l1:0<T.length-k:=by have:=hp.kt;omega
 have l2:T.length-k<=100000:=by have:=hp.tw.len;omega
 by_cases hx:(tk T k).text=s
 .have iN:(tk T k).kind=0\/(tk T k).kind=2:=by
   simp only[eh,hx,beq_self_eq_true,Bool.and_true,Bool.or_eq_false_iff,beq_eq_false_iff_ne] at h;grind
  rw[hx] at t1;rcases iN with iN | iN
  .rw[iN] at t0;clear h wZ yh iN hx hp;generalize hn:T.length-k=n at *;generalize hm:cap-k=m at *;clear hn hm jw rO fY
   go_enter func49,ntmps49
   go_wp2
   go_ret
   exact⟨J,J⟩
  .rw[iN] at t0;clear h wZ yh iN hx hp;generalize hn:T.length-k=n at *;generalize hm:cap-k=m at *;clear hn hm jw rO fY
   go_enter func49,ntmps49
   go_wp2
   go_ret
   exact⟨J,J⟩
 .obtain⟨kd,iN⟩:∃ kd:Int,kd=((tk T k).kind:Int):=⟨_,J⟩;rw[<- iN] at t0;obtain⟨x,xd⟩:=cd ((tk T k).text);rw[<- xd] at t1 hx;clear iN h wZ yh xd hp;generalize hn:T.length-k=n at *;generalize hm:cap-k=m at *;clear hn hm jw rO fY
  go_enter func49,ntmps49
  go_wp2
  go_ret
  exact⟨J,J⟩
def BF(c a:Int)(w:Z)(pb:Nat)(yi:SB w pb) :
  Calls a9s 47 #[zi c,zi a] w fun e w'=>mN c a w w' e/\cZ pb w w'/\SB w' pb:=by
 have kK:mN c a w (w.alloc (Obj.cells #[a0f a0n c,a0f a0n a] 77))
   (.panicked [{ v:=aj 73 (pp w.heap.size),recovered:=false }]):=
  ⟨_,J,blk_alloc_new _ _,Nat.le_refl _⟩
 have aAI:SB (w.alloc (Obj.cells #[a0f a0n c,a0f a0n a] 77)) pb:=by
  obtain⟨lv,vv,d,h⟩:=yi;exact⟨lv,vv,d,dQ h⟩
 clear yi
 go_enter func47,ntmps47
 go_wp2
 exact⟨J,kK,(bB.refl _ _).alloc _,aAI⟩
