/- A part of one proof (ShT, SBase, GBase, SW1). -/
import Derived.Test.YtoegidfbnkaabaaGreatDoorPkLAD
import Derived.Test.YtoegidfbnkaabaaGreatDoorProg
import Derived.WalkSpells
import Derived.WalkLawsBesides
set_option linter.all false
set_option maxRecDepth 100000
set_option maxHeartbeats 8000000
open Option renaming some → O, none → V
open Go renaming Value → Y, World → Z
open Bool renaming true → A, false → G
open Go.Obj renaming cells → ae
open Go.Ending renaming returned → ah
open Go.Value renaming nilIface → ai, iface → aj, tuple → ak, pointer → aq
open Go.Instr renaming loadAt → a1G, typeAssert → a1J, makeInterface → a16, sliceAt → a2l, makeMap → a3W, makeSlice → a4p
open Go.Value renaming int → a1Z
open Go.IntKind renaming i64 → a2b
open Nat renaming reduceAdd → a3F, reduceLeDiff → a4c, reduceEqDiff → a4d, reduceMul → a4L
open Int renaming reduceToNat → a4o, reduceAdd → a4M, reduceLT → a44, reduceLE → a45
open Go.Proofs.Tryz renaming prog → bbp
open Go.Proofs.Tryz
namespace Go.Proofs.YtoegidfbnkaabaaGreatDoor
open P
open Go.Proofs.YtoegidfbnkaabaaGreatDoor.Sx
variable{A0 A1 Q J4:Prop}{B b base c cap d e k k' m n o pb tb:Nat}{F:Nat->Prop}{K:Y->Prop}{T:List P.Tok}{X:Y->Z->Prop}{cs:Array Y}{l:Int}{v:Y}{ET Pn:IntKind}{vars:List Bs}{vs xs:List Y}{w w':Z}{y:Operand}
abbrev Aj(t e:Nat)(z:Array Y):Prop:=∀ {u:Y} {w:Z} {X:Y->Z->Prop} {K:Y->Z->Prop},WR bbp (Instr.alloc t A u) w K X=K (aq (O ⟨w.heap.size,0,V⟩)) (w.alloc (ae z e))
def axo:Aj 100 100 #[(aq V),bW]:=Af (z:=(.agg #[(aq V),bW])) zk
def axp:Aj 103 103 #[(aq V),bW,(aq V),(.map V)]:=Af (z:=(.agg #[(aq V),bW,(aq V),(.map V)])) zk
def axq:Aj 108 108 #[(aq V)]:=Af (z:=(aq V)) zk
def axr:Aj 122 122 #[(aq V)]:=Af (z:=(aq V)) zk
def ajE:Aj 142 142 #[(.int .i64 0),(aT []),(.int .i64 0)]:=Af (z:=(.agg #[(.int .i64 0),(aT []),(.int .i64 0)])) zk
def axs:Aj 198 198 #[(aT []),(aT []),ai,bW]:=Af (z:=(.agg #[(aT []),(aT []),ai,bW])) zk
def axt:Aj 27 27 #[(.int .i64 0)]:=Af (z:=(.int .i64 0)) zk
def axu:Aj 3 3 #[(.int .i64 0)]:=Af (z:=(.int .i64 0)) zk
def axv:Aj 4 4 #[(.bool G)]:=Af (z:=(.bool G)) zk
def axw:Aj 57 57 #[ai]:=Af (z:=ai) zk
def axx:Aj 68 68 #[bW]:=Af (z:=bW) zk
def axy:Aj 73 73 #[(aq V)]:=Af (z:=(aq V)) zk
def axz:Aj 79 79 #[(aq V)]:=Af (z:=(aq V)) zk
def axA:Aj 9 9 #[(aT [])]:=Af (z:=(aT [])) zk
def axB:Aj 91 91 #[ai]:=Af (z:=(.agg #[ai])) zk
abbrev sO(t:Nat)(l:List (Nat×Nat))(z:Array Y):Prop:=∀ {parts:Array (Nat×Y)} {w:Z} {X:Y->Z->Prop} {K:Y->Prop},RD bbp (Instr.build t parts) w K X=Wv (EU l z parts.toList) K (Gj bbp (Instr.build t parts) w K X)
def axC:sO 103 [(0,2),(2,1),(3,1)] #[(aq V),bW,(aq V),(.map V)]:=sL zk
def axD:sO 116 [(0,1),(1,2),(3,1),(4,1),(5,1)] #[(aq V),bW,(.int .i64 0),(aq V),(.int .i64 0),bW]:=sL zk
def axE:sO 121 [(0,1),(1,1),(2,1),(3,1),(4,1)] #[ai,(aq V),.nilFunc,bW,ai]:=sL zk
def axF:sO 130 [(0,1),(1,2),(3,1),(4,1),(5,1)] #[(.map V),bW,(.int .i64 0),(aq V),bW,bW]:=sL zk
def axG:sO 134 [] #[]:=sL zk
def ajF:sO 142 [(0,1),(1,1),(2,1)] #[(.int .i64 0),(aT []),(.int .i64 0)]:=sL zk
def axH:sO 145 [(0,1),(1,1),(2,1)] #[bW,bW,(.int .i64 0)]:=sL zk
def ajG:sO 149 [(0,1),(1,1),(2,1),(3,1)] #[(.int .u8 0),(aT []),bW,bW]:=sL zk
def axI:sO 180 [(0,1),(1,1)] #[(aT []),bW]:=sL zk
def axJ:sO 187 [(0,1),(1,1),(2,1)] #[(.map V),(aq V),(.int .i64 0)]:=sL zk
def axK:sO 196 [(0,1),(1,1)] #[(.int .i64 0),bW]:=sL zk
def axL:sO 198 [(0,1),(1,1),(2,1),(3,1)] #[(aT []),(aT []),ai,bW]:=sL zk
def axM:sO 203 [(0,1),(1,1),(2,1),(3,1),(4,1)] #[(aq V),bW,(.int .i64 0),(aq V),(.int .i64 0)]:=sL zk
def axN:sO 207 [(0,1),(1,1),(2,1),(3,1)] #[(aq V),bW,(.int .i64 0),(aq V)]:=sL zk
def axO:sO 213 [(0,1),(1,1),(2,1)] #[(aT []),(.int .i64 0),bW]:=sL zk
def axP:sO 247 [(0,2),(2,1),(3,1)] #[(.int .i64 0),bW,bW,(.int .i64 0)]:=sL zk
def axQ:sO 342 [(0,1),(1,1),(2,1),(3,1),(4,1)] #[(.int .i64 0),(aq V),(.int .i64 0),bW,bW]:=sL zk
def axR:sO 356 [(0,1),(1,1),(2,1),(3,1)] #[(.int .i64 0),(aq V),bW,bW]:=sL zk
def axS:sO 72 [(0,1)] #[bW]:=sL zk
def axT:sO 77 [(0,1),(1,1)] #[(.int .i64 0),(.int .i64 0)]:=sL zk
def ajH:sO 86 [(0,1),(1,1),(2,1),(3,1)] #[(aT []),bW,(aq V),bW]:=sL zk
def axU:sO 96 [(0,1),(1,1)] #[bW,(.int .i64 0)]:=sL zk
abbrev wq(t n e:Nat)(l:List (Nat×Nat))(z:Array Y):Prop:=∀ {parts:Array (Nat×Y)} {w:Z} {X:Y->Z->Prop} {K:Y->Z->Prop},WR bbp (Instr.buildSlice t n parts) w K X=Ww (EU l z parts.toList) e n w K (WR0 bbp (Instr.buildSlice t n parts) w K X)
def axV:wq 114 1 342 [(0,5)] #[(.int .i64 0),(aq V),(.int .i64 0),bW,bW]:=v8 zk
def axW:wq 128 1 356 [(0,4)] #[(.int .i64 0),(aq V),bW,bW]:=v8 zk
def ajI:wq 143 1 142 [(0,3)] #[(.int .i64 0),(aT []),(.int .i64 0)]:=v8 zk
def axX:wq 192 1 185 [(0,1)] #[(aq V)]:=v8 zk
def axY:wq 194 1 198 [(0,4)] #[(aT []),(aT []),ai,bW]:=v8 zk
def axZ:wq 200 1 20 [(0,1)] #[ai]:=v8 zk
def ax0:wq 209 1 211 [(0,1)] #[(aq V)]:=v8 zk
def ax1:wq 39 1 9 [(0,1)] #[(aT [])]:=v8 zk
def ax2:wq 39 2 9 [(0,1),(1,1)] #[(aT []),(aT [])]:=v8 zk
def ax3:wq 39 5 9 [(0,1),(1,1),(2,1),(3,1),(4,1)] #[(aT []),(aT []),(aT []),(aT []),(aT [])]:=v8 zk
def ax4:wq 45 1 3 [(0,1)] #[(.int .i64 0)]:=v8 zk
def ax5:wq 45 2 3 [(0,1),(1,1)] #[(.int .i64 0),(.int .i64 0)]:=v8 zk
def ajJ:wq 68 1 79 [(0,1)] #[(aq V)]:=v8 zk
def ax6:wq 82 1 89 [(0,1)] #[ai]:=v8 zk
def ax7:wq 94 1 87 [(0,1)] #[(aq V)]:=v8 zk
def ax8:wq 98 1 5 [(0,1)] #[(.int .u8 0)]:=v8 zk
def ax9:wq 98 2 5 [(0,1),(1,1)] #[(.int .u8 0),(.int .u8 0)]:=v8 zk
def aya:wq 98 3 5 [(0,1),(1,1),(2,1)] #[(.int .u8 0),(.int .u8 0),(.int .u8 0)]:=v8 zk
def ajK{l:List UInt8}{k:IntKind}{i:Int}(a:0<=i)(b:i<l.length):RD bbp (Instr.index 9 (aT l) (.int k i)) w K X=K (.int .u8 ((l.getD i.toNat 0).toNat)):=aug zk a b
def ayb{k:IntKind}{n:Int}{K:Y->Z->Prop}:WR bbp (convert 3 21 (.int k n)) w K X=K (.int .i32 (IntKind.i32.wrap n)) w:=auk zk zk
def ayc{x:Operand}(c:Y):RD bbp (bo .eql 57 x (.const c) ai ai) w K X=K (.bool A):=ajr zk c
def ayd{x:Operand}(c:Y):RD bbp (bo .eql 89 x (.const c) ai ai) w K X=K (.bool A):=ajr zk c
def aye{x:Operand}(u:TypeId)(v:Y):RD bbp (bo .eql 57 x y (aj u v) ai) w K X=K (.bool G):=ajq zk u v
def ayf{x:Operand}(u:TypeId)(v:Y):RD bbp (bo .eql 89 x y (aj u v) ai) w K X=K (.bool G):=ajq zk u v
def ayg{x:Operand}(p:Option Nat):RD bbp (bo .eql 101 x y (.map p) (.map V)) w K X=K (.bool p.isNone):=aw0 zk p
def ayh{x:Operand}(p:Option Addr):RD bbp (bo .eql 113 x y (.pointer p) (aq V)) w K X=K (.bool p.isNone):=MG zk p
def ayi{x:Operand}(p:Option Addr):RD bbp (bo .eql 127 x y (.pointer p) (aq V)) w K X=K (.bool p.isNone):=MG zk p
def ayj{x:Operand}(p:Option Addr):RD bbp (bo .eql 185 x y (.pointer p) (aq V)) w K X=K (.bool p.isNone):=MG zk p
def ayk{x:Operand}(p:Option Addr):RD bbp (bo .eql 30 x y (.pointer p) (aq V)) w K X=K (.bool p.isNone):=MG zk p
def ayl{x:Operand}(p:Option Addr):RD bbp (bo .eql 35 x y (.pointer p) (aq V)) w K X=K (.bool p.isNone):=MG zk p
def aym{x:Operand}(p:Option Addr):RD bbp (bo .eql 84 x y (.pointer p) (aq V)) w K X=K (.bool p.isNone):=MG zk p
def ayn{x:Operand}(p:Option Addr):RD bbp (bo .eql 87 x y (.pointer p) (aq V)) w K X=K (.bool p.isNone):=MG zk p
def ayo{x:Operand}(p:Option Addr)(n c:Nat):RD bbp (bo .eql 192 x y (.slice p n c) bW) w K X=K (.bool p.isNone):=ajp zk p n c
def ayp{x:Operand}(p:Option Addr)(n c:Nat):RD bbp (bo .eql 68 x y (.slice p n c) bW) w K X=K (.bool p.isNone):=ajp zk p n c
abbrev fC(t f d:Nat):Prop:=∀ {b o:Nat} {w:Z} {X:Y->Z->Prop} {K:Y->Prop},RD bbp (Instr.fieldAt t (aq (O ⟨b,o,V⟩)) f) w K X=K (aq (O ⟨b,o+d,V⟩))
def ayq:fC 100 1 1:=fB zk
def ayr:fC 103 0 0:=fB zk
def ays:fC 103 1 2:=fB zk
def ayt:fC 103 2 3:=fB zk
def ayu:fC 116 0 0:=fB zk
def ayv:fC 116 1 1:=fB zk
def ayw:fC 116 2 3:=fB zk
def ayx:fC 116 3 4:=fB zk
def ayy:fC 116 4 5:=fB zk
def ayz:fC 121 0 0:=fB zk
def ayA:fC 121 1 1:=fB zk
def ayB:fC 121 2 2:=fB zk
def ayC:fC 121 3 3:=fB zk
def ayD:fC 121 4 4:=fB zk
def ayE:fC 130 0 0:=fB zk
def ayF:fC 130 1 1:=fB zk
def ayG:fC 130 2 3:=fB zk
def ayH:fC 130 3 4:=fB zk
def ayI:fC 130 4 5:=fB zk
def ajL:fC 142 0 0:=fB zk
def ajM:fC 142 1 1:=fB zk
def ajN:fC 142 2 2:=fB zk
def ajO:fC 145 0 0:=fB zk
def ajP:fC 145 1 1:=fB zk
def ayJ:fC 149 0 0:=fB zk
def ayK:fC 149 1 1:=fB zk
def ayL:fC 149 2 2:=fB zk
def ayM:fC 149 3 3:=fB zk
def ayN:fC 178 0 0:=fB zk
def ayO:fC 178 1 1:=fB zk
def ayP:fC 178 2 2:=fB zk
def ayQ:fC 178 3 3:=fB zk
def ayR:fC 178 4 4:=fB zk
def ayS:fC 180 0 0:=fB zk
def ayT:fC 180 1 1:=fB zk
def ayU:fC 187 0 0:=fB zk
def ayV:fC 187 1 1:=fB zk
def ayW:fC 187 2 2:=fB zk
def ayX:fC 196 0 0:=fB zk
def ayY:fC 196 1 1:=fB zk
def ayZ:fC 198 0 0:=fB zk
def ay0:fC 198 1 1:=fB zk
def ay1:fC 198 2 2:=fB zk
def ay2:fC 198 3 3:=fB zk
def ay3:fC 203 0 0:=fB zk
def ay4:fC 203 1 1:=fB zk
def ay5:fC 203 2 2:=fB zk
def ay6:fC 203 3 3:=fB zk
def ay7:fC 203 4 4:=fB zk
def ay8:fC 207 0 0:=fB zk
def ay9:fC 207 1 1:=fB zk
def aza:fC 207 2 2:=fB zk
def azb:fC 207 3 3:=fB zk
def azc:fC 213 0 0:=fB zk
def azd:fC 213 1 1:=fB zk
def aze:fC 213 2 2:=fB zk
def azf:fC 247 0 0:=fB zk
def azg:fC 247 1 2:=fB zk
def azh:fC 247 2 3:=fB zk
def azi:fC 342 0 0:=fB zk
def azj:fC 342 1 1:=fB zk
def azk:fC 342 2 2:=fB zk
def azl:fC 342 3 3:=fB zk
def azm:fC 342 4 4:=fB zk
def azn:fC 356 0 0:=fB zk
def azo:fC 356 1 1:=fB zk
def azp:fC 356 2 2:=fB zk
def azq:fC 356 3 3:=fB zk
def azr:fC 72 0 0:=fB zk
def azs:fC 77 0 0:=fB zk
def azt:fC 77 1 1:=fB zk
def azu:fC 86 0 0:=fB zk
def ajQ:fC 86 1 1:=fB zk
def ajR:fC 86 2 2:=fB zk
def ajS:fC 86 3 3:=fB zk
def azv:fC 91 0 0:=fB zk
def azw:fC 96 0 0:=fB zk
def azx:fC 96 1 1:=fB zk
abbrev Ak(t n:Nat):Prop:=∀ {b o len cap:Nat} {k:IntKind} {i:Int} {w:Z} {X:Y->Z->Prop} {K:Y->Prop},0<=i->i<len->RD bbp (Instr.indexAt t (.slice (O ⟨b,o,V⟩) len cap) (.int k i)) w K X=K (aq (O ⟨b,o+i.toNat*n,V⟩))
def azy:Ak 114 5:=fun a b=>Ag zk a b
def azz:Ak 128 4:=fun a b=>Ag zk a b
def ajT:Ak 143 3:=fun a b=>Ag zk a b
def azA:Ak 147 1:=fun a b=>Ag zk a b
def azB:Ak 192 1:=fun a b=>Ag zk a b
def azC:Ak 194 4:=fun a b=>Ag zk a b
def azD:Ak 200 1:=fun a b=>Ag zk a b
def azE:Ak 209 1:=fun a b=>Ag zk a b
def azF:Ak 39 1:=fun a b=>Ag zk a b
def azG:Ak 45 1:=fun a b=>Ag zk a b
def azH:Ak 68 1:=fun a b=>Ag zk a b
def azI:Ak 82 1:=fun a b=>Ag zk a b
def azJ:Ak 83 1:=fun a b=>Ag zk a b
def azK:Ak 94 1:=fun a b=>Ag zk a b
def azL:Ak 98 1:=fun a b=>Ag zk a b
abbrev ke(t:Nat):Prop:=∀ {b o:Nat} {w:Z} {X:Y->Z->Prop} {K:Y->Prop},RD bbp (a1G t (aq (O ⟨b,o,V⟩))) w K X=Wu (w.heap[b]?) o K (Gj bbp (a1G t (aq (O ⟨b,o,V⟩))) w K X)
def azM:ke 101:=j9 zk
def azN:ke 106:=j9 zk
def azO:ke 108:=j9 zk
def azP:ke 113:=j9 zk
def azQ:ke 114:=j9 zk
def azR:ke 117:=j9 zk
def azS:ke 119:=j9 zk
def azT:ke 122:=j9 zk
def azU:ke 125:=j9 zk
def azV:ke 127:=j9 zk
def azW:ke 128:=j9 zk
def ajU:ke 140:=j9 zk
def ajV:RD bbp (a1G 142 (aq (O ⟨b,o,V⟩))) w K X=ME (w.heap[b]?) o 3 K (Gj bbp (a1G 142 (aq (O ⟨b,o,V⟩))) w K X):=aaQ zk
def ajW:ke 143:=j9 zk
def azX:ke 147:=j9 zk
def azY:ke 184:=j9 zk
def azZ:ke 185:=j9 zk
def az0:ke 192:=j9 zk
def az1:ke 194:=j9 zk
def az2:RD bbp (a1G 198 (aq (O ⟨b,o,V⟩))) w K X=ME (w.heap[b]?) o 4 K (Gj bbp (a1G 198 (aq (O ⟨b,o,V⟩))) w K X):=aaQ zk
def az3:ke 2:=j9 zk
def az4:ke 20:=j9 zk
def az5:ke 200:=j9 zk
def az6:ke 201:=j9 zk
def az7:ke 211:=j9 zk
def az8:ke 245:=j9 zk
def ajX:RD bbp (a1G 256 (aq (O ⟨b,o,V⟩))) w K X=ME (w.heap[b]?) o 23 K (Gj bbp (a1G 256 (aq (O ⟨b,o,V⟩))) w K X):=aaQ zk
def az9:ke 27:=j9 zk
def ajY:ke 3:=j9 zk
def aAa:ke 35:=j9 zk
def ajZ:ke 39:=j9 zk
def aAb:ke 4:=j9 zk
def aAc:ke 45:=j9 zk
def aAd:ke 5:=j9 zk
def aAe:ke 57:=j9 zk
def aAf:ke 68:=j9 zk
def aAg:ke 73:=j9 zk
def aAh:ke 79:=j9 zk
def aAi:ke 82:=j9 zk
def aAj:ke 83:=j9 zk
def aAk:ke 84:=j9 zk
def aAl:ke 87:=j9 zk
def aAm:ke 89:=j9 zk
def aj0:ke 9:=j9 zk
def aAn:ke 93:=j9 zk
def aAo:ke 94:=j9 zk
def aAp:ke 98:=j9 zk
abbrev Bj(t:Nat):Prop:=∀ {a:Option Addr} {n c:Nat} {w:Z} {X:Y->Z->Prop} {K:Y->Prop},RD bbp (Builtin.len_ #[t] 3 #[.slice a n c]) w K X=K (.int .i64 n)
def aAq:Bj 114:=Bf (e:=342) zk
def aAr:Bj 128:=Bf (e:=356) zk
def aAs:Bj 147:=Bf (e:=84) zk
def aAt:Bj 192:=Bf (e:=185) zk
def aAu:Bj 194:=Bf (e:=198) zk
def aAv:Bj 200:=Bf (e:=20) zk
def aAw:Bj 209:=Bf (e:=211) zk
def aAx:Bj 39:=Bf (e:=9) zk
def aAy:Bj 45:=Bf (e:=3) zk
def aj1:Bj 68:=Bf (e:=79) zk
def aAz:Bj 82:=Bf (e:=89) zk
def aAA:Bj 83:=Bf (e:=106) zk
def aj2{l:List UInt8}:RD bbp (Builtin.len_ #[9] 3 #[aT l]) w K X=K (.int .i64 l.length):=auf zk
def aAB:Bj 94:=Bf (e:=87) zk
def aAC:Bj 98:=Bf (e:=5) zk
def aAD{K:Y->Z->Prop}:WR bbp (a16 111 v) w K X=K (aj 111 v) w:=Dz zk
def aAE{K:Y->Z->Prop}:WR bbp (a16 122 v) w K X=K (aj 122 v) w:=Dz zk
def aAF{K:Y->Z->Prop}:WR bbp (a16 134 v) w K X=K (aj 134 v) w:=Dz zk
def aAG{K:Y->Z->Prop}:WR bbp (a16 171 v) w K X=K (aj 171 v) w:=Dz zk
def aAH{K:Y->Z->Prop}:WR bbp (a16 172 v) w K X=K (aj 172 v) w:=Dz zk
def aAI{K:Y->Z->Prop}:WR bbp (a16 175 v) w K X=K (aj 175 v) w:=Dz zk
def aAJ{K:Y->Z->Prop}:WR bbp (a16 201 v) w K X=K (aj 201 v) w:=Dz zk
def aAK{K:Y->Z->Prop}:WR bbp (a16 27 v) w K X=K (aj 27 v) w:=Dz zk
def aAL{K:Y->Z->Prop}:WR bbp (a16 73 v) w K X=K (aj 73 v) w:=Dz zk
def aAM{K:Y->Z->Prop}:WR bbp (a16 75 v) w K X=K (aj 75 v) w:=Dz zk
def aAN{K:Y->Z->Prop}:WR bbp (a16 78 v) w K X=K (aj 78 v) w:=Dz zk
def aAO{K:Y->Z->Prop}:WR bbp (a16 87 v) w K X=K (aj 87 v) w:=Dz zk
def aAP{K:Y->Z->Prop}:WR bbp (a3W 101 V) w K X=K (.map (O w.heap.size)) (w.alloc (.map #[] 0)):=Ss
def aAQ{K:Y->Z->Prop}:WR bbp (a3W 125 V) w K X=K (.map (O w.heap.size)) (w.alloc (.map #[] 0)):=Ss
def aAR{K:Y->Z->Prop}:WR bbp (a3W 184 V) w K X=K (.map (O w.heap.size)) (w.alloc (.map #[] 0)):=Ss
def aAS{K:Y->Z->Prop}:WR bbp (a3W 210 V) w K X=K (.map (O w.heap.size)) (w.alloc (.map #[] 0)):=Ss
def aAT{K:Y->Z->Prop}:WR bbp (a3W 240 V) w K X=K (.map (O w.heap.size)) (w.alloc (.map #[] 0)):=Ss
def aAU{K:Y->Z->Prop}(a:n<=m)(hm:m<=1000000):WR bbp (a4p 200 (.int ET n) (.int Pn m)) w K X=K (cS w.heap.size n m) (w.alloc (ae (madeCells #[ai] (m*1)) 20)):=abF (z:=ai) (by_:=16) zk a zd hm
def aAV{K:Y->Z->Prop}(a:n<=m)(hm:m<=1000000):WR bbp (a4p 45 (.int ET n) (.int Pn m)) w K X=K (cS w.heap.size n m) (w.alloc (ae (madeCells #[(.int .i64 0)] (m*1)) 3)):=abF (z:=(.int .i64 0)) (by_:=8) zk a zd hm
def aAW{K:Y->Z->Prop}(a:n<=m)(hm:m<=1000000):WR bbp (a4p 82 (.int ET n) (.int Pn m)) w K X=K (cS w.heap.size n m) (w.alloc (ae (madeCells #[ai] (m*1)) 89)):=abF (z:=ai) (by_:=16) zk a zd hm
def aAX{x:Operand}(c:Y):RD bbp (bo .neq 57 x (.const c) ai ai) w K X=K (.bool G):=aw2 zk c
def aAY{x:Operand}(u:TypeId)(v:Y):RD bbp (bo .neq 57 x y (aj u v) ai) w K X=K (.bool A):=aw1 zk u v
def aAZ{x:Operand}(p:Option Addr):RD bbp (bo .neq 113 x y (.pointer p) (aq V)) w K X=K (.bool !p.isNone):=abz zk p
def aA0{x:Operand}(p:Option Addr):RD bbp (bo .neq 185 x y (.pointer p) (aq V)) w K X=K (.bool !p.isNone):=abz zk p
def aA1{x:Operand}(p:Option Addr):RD bbp (bo .neq 35 x y (.pointer p) (aq V)) w K X=K (.bool !p.isNone):=abz zk p
def aA2{x:Operand}(p:Option Addr)(n c:Nat):RD bbp (bo .neq 39 x y (.slice p n c) bW) w K X=K (.bool !p.isNone):=awZ zk p n c
def aA3{a:Option Addr}{k:IntKind}(b:0<=l)(c:l<=cap):RD bbp (a2l 114 (.slice a pb cap) V (O (.int k l)) V) w K X=K (sliced a 0 l.toNat cap 5):=Si zk b c
def aA4{a:Option Addr}{k:IntKind}(b:0<=l)(c:l<=cap):RD bbp (a2l 128 (.slice a pb cap) V (O (.int k l)) V) w K X=K (sliced a 0 l.toNat cap 4):=Si zk b c
def aA5{a:Option Addr}{k:IntKind}(b:0<=l)(c:l<=cap):RD bbp (a2l 200 (.slice a pb cap) V (O (.int k l)) V) w K X=K (sliced a 0 l.toNat cap 1):=Si zk b c
def aA6{a:Option Addr}{k:IntKind}(b:0<=l)(c:l<=cap):RD bbp (a2l 39 (.slice a pb cap) V (O (.int k l)) V) w K X=K (sliced a 0 l.toNat cap 1):=Si zk b c
def aA7{a:Option Addr}{k:IntKind}(b:0<=l)(c:l<=cap):RD bbp (a2l 94 (.slice a pb cap) V (O (.int k l)) V) w K X=K (sliced a 0 l.toNat cap 1):=Si zk b c
def aj3{a:Option Addr}{k:IntKind}(b:0<=l)(c:l<=pb):RD bbp (a2l 143 (.slice a pb cap) (O (.int k l)) V V) w K X=K (sliced a l.toNat pb cap 3):=Ph zk b c
def aA8{a:Option Addr}{k:IntKind}(b:0<=l)(c:l<=pb):RD bbp (a2l 192 (.slice a pb cap) (O (.int k l)) V V) w K X=K (sliced a l.toNat pb cap 1):=Ph zk b c
def aA9{a:Option Addr}{k:IntKind}(b:0<=l)(c:l<=pb):RD bbp (a2l 39 (.slice a pb cap) (O (.int k l)) V V) w K X=K (sliced a l.toNat pb cap 1):=Ph zk b c
def aBa{a:Option Addr}{k:IntKind}(b:0<=l)(c:l<=pb):RD bbp (a2l 45 (.slice a pb cap) (O (.int k l)) V V) w K X=K (sliced a l.toNat pb cap 1):=Ph zk b c
def aBb{a:Option Addr}{k:IntKind}(b:0<=l)(c:l<=pb):RD bbp (a2l 68 (.slice a pb cap) (O (.int k l)) V V) w K X=K (sliced a l.toNat pb cap 1):=Ph zk b c
def aj4{s:List UInt8}{k:IntKind}(a:0<=l)(b:l<=s.length):RD bbp (a2l 9 (aT s) (O (.int k l)) V V) w K X=K (aT (s.drop l.toNat)):=aui zk a b
def aBc{a:Option Addr}{k:IntKind}(b:0<=l)(c:l<=pb):RD bbp (a2l 94 (.slice a pb cap) (O (.int k l)) V V) w K X=K (sliced a l.toNat pb cap 1):=Ph zk b c
def aj5{s:List UInt8}{k:IntKind}{m:Int}(a:0<=l)(b:l<=m)(c:m<=s.length):RD bbp (a2l 9 (aT s) (O (.int k l)) (O (.int ET m)) V) w K X=K (aT ((s.take m.toNat).drop l.toNat)):=auj zk a b c
abbrev ow(t n:Nat):Prop:=∀ {b o:Nat} {w:Z} {X:Y->Z->Prop} {K:Z->Prop} (v:Y),WU bbp (Instr.storeAt t (aq (O ⟨b,o,V⟩)) v) w K X=Sg (w.heap[b]?) w b o n v K (WU0 bbp (Instr.storeAt t (aq (O ⟨b,o,V⟩)) v) w K X)
def aBd:ow 101 1:=fun v=>ou zk v
def aBe:ow 103 4:=fun v=>ou zk v
def aBf:ow 108 1:=fun v=>ou zk v
def aBg:ow 113 1:=fun v=>ou zk v
def aBh:ow 114 1:=fun v=>ou zk v
def aBi:ow 122 1:=fun v=>ou zk v
def aBj:ow 127 1:=fun v=>ou zk v
def aBk:ow 128 1:=fun v=>ou zk v
def aj6:ow 142 3:=fun v=>ou zk v
def aj7:ow 143 1:=fun v=>ou zk v
def aBl:ow 185 1:=fun v=>ou zk v
def aBm:ow 192 1:=fun v=>ou zk v
def aBn:ow 194 1:=fun v=>ou zk v
def aBo:ow 198 4:=fun v=>ou zk v
def aBp:ow 20 1:=fun v=>ou zk v
def aBq:ow 3 1:=fun v=>ou zk v
def aj8:ow 39 1:=fun v=>ou zk v
def aBr:ow 4 1:=fun v=>ou zk v
def aBs:ow 45 1:=fun v=>ou zk v
def aBt:ow 57 1:=fun v=>ou zk v
def aBu:ow 68 1:=fun v=>ou zk v
def aBv:ow 79 1:=fun v=>ou zk v
def aBw:ow 82 1:=fun v=>ou zk v
def aj9:ow 83 1:=fun v=>ou zk v
def aka:ow 84 1:=fun v=>ou zk v
def aBx:ow 89 1:=fun v=>ou zk v
def aBy:ow 9 1:=fun v=>ou zk v
def aBz:ow 94 1:=fun v=>ou zk v
def aBA:ow 98 1:=fun v=>ou zk v
def aBB(t:TypeId)(v:Y):RD bbp (a1J (aj t v) 20 201 A) w K X=if t=201 then K (ak #[v,.bool A]) else K (ak #[(.int .i64 0),.bool G]):=So zk zk t v
def aBC(t:TypeId)(v:Y):RD bbp (a1J (aj t v) 89 171 A) w K X=if t=171 then K (ak #[v,.bool A]) else K (ak #[(aT []),.bool G]):=So zk zk t v
def aBD(t:TypeId)(v:Y):RD bbp (a1J (aj t v) 89 172 A) w K X=if t=172 then K (ak #[v,.bool A]) else K (ak #[(.int .i64 0),.bool G]):=So zk zk t v
def aBE(t:TypeId)(v:Y):RD bbp (a1J (aj t v) 89 175 A) w K X=if t=175 then K (ak #[v,.bool A]) else K (ak #[(aq V),.bool G]):=So zk zk t v
def aBF(t:TypeId)(v:Y):RD bbp (a1J (aj t v) 89 87 A) w K X=if t=87 then K (ak #[v,.bool A]) else K (ak #[(aq V),.bool G]):=So zk zk t v
def aBG:RD bbp (a1J ai 20 201 A) w K X=K (ak #[(.int .i64 0),.bool G]):=Sp zk zk
def aBH:RD bbp (a1J ai 89 171 A) w K X=K (ak #[(aT []),.bool G]):=Sp zk zk
def aBI:RD bbp (a1J ai 89 172 A) w K X=K (ak #[(.int .i64 0),.bool G]):=Sp zk zk
def aBJ:RD bbp (a1J ai 89 175 A) w K X=K (ak #[(aq V),.bool G]):=Sp zk zk
def aBK:RD bbp (a1J ai 89 87 A) w K X=K (ak #[(aq V),.bool G]):=Sp zk zk
def akb{k:IntKind}{i:Int}(a:0<=i)(b:i<23):RD bbp (Instr.index 256 (.agg cs) (.int k i)) w K X=Sm cs i K (Gj bbp (Instr.index 256 (.agg cs) (.int k i)) w K X):=aw3 (e:=9) zk zk a b
def zB := (zA zG0 (zA @axT (zA @aAL (zA @ajE (zA @ajF (zA @ajK (zA @ajV (zA @aj2 (zA @aj6 (zA @ajI (zA @ajX (zA @aj4 (zA @aj5 (zA @akb (zA @ajG (zA @ajH (zA @ajJ (zA @ajL (zA @ajM (zA @ajN (zA @ajO (zA @ajP (zA @ajQ (zA @ajR (zA @ajS (zA @ajT (zA @ajU (zA @ajW (zA @ajY (zA @ajZ (zA @aj0 (zA @aj1 (zA @aj3 (zA @aj7 (zA @aj8 (zA @aj9 (zA @aka (zA @axw (zA @axx (zA @axH (zA @aAe (zA @aAf (zA @aBt (zA @aBu (zA @axz (zA @aAh (zA @aBv (zA @axS (zA @aAX (zA @aAY (zA @axt (zA @axy (zA @ayc (zA @aye (zA @azs (zA @azt (zA @az9 (zA @aAg (zA @aAM (zA @aAN (zA @ayq (zA @aAp (zA @aBA (zA @ax8 (zA @ayd (zA @ayf (zA @azv (zA @aAm (zA @aBF (zA @aBK (zA @axG (zA @azx (zA @aAF (zA @aBq (zA @azw (zA @aAo (zA @aAB (zA @ax7 (zA @aBx (zA @aBz (zA @azK (zA @aAl (zA @aA7 (zA @aBc (zA @ayg (zA @ayr (zA @ays (zA @ayt (zA @azM (zA @aAn (zA @aAP (zA @aBd (zA @aBC (zA @aBD (zA @aBE (zA @aBH (zA @aBI (zA @aBJ (zA @ayS (zA @ayT (zA @azI (zA @aAi (zA @aAz (zA @ayn (zA @aAO (zA @aAK (zA @aAH (zA @axI (zA @ax6 (zA @ayN (zA @ayO (zA @ayP (zA @ayQ (zA @ayR (zA @azJ (zA @azN (zA @az3 (zA @aAd (zA @aAj (zA @aAA (zA @aAG (zA @aAI (zA @aBw (zA @axR (zA @axW (zA @ayF (zA @ayH (zA @azW (zA @aBk (zA @axB (zA @aAW (zA @axN (zA @ayG (zA @azp (zA @azz (zA @azH (zA @aAk (zA @aAx (zA @aA4 (zA @aBb (zA @aBj (zA @ayb (zA @ayp (zA @ayE (zA @ayK (zA @ayL (zA @azU (zA @azV (zA @aAr (zA @aym (zA @ayJ (zA @ayM (zA @ay8 (zA @ay9 (zA @aza (zA @azA (zA @azX (zA @aAs (zA @ayi (zA @azb (zA @azn (zA @azo (zA @azq (zA @azu (zA @aAQ (zA @axF (zA @ayI (zA @aAC (zA @axA (zA @axC (zA @ayz (zA @ayA (zA @ayB (zA @ayC (zA @ayD (zA @azF (zA @azR (zA @azS (zA @aAa (zA @aA2 (zA @aBy (zA @azT (zA @axr (zA @axE (zA @azr (zA @aAE (zA @aA1 (zA @aBi (zA @ayw (zA @ay2 (zA @ay4 (zA @azD (zA @azG (zA @azP (zA @az4 (zA @az5 (zA @aAc (zA @axM (zA @axQ (zA @axV (zA @ayv (zA @ayx (zA @ayy (zA @ayX (zA @azB (zA @azQ (zA @azZ (zA @aAt (zA @aAv (zA @aAU (zA @aA3 (zA @aA8 (zA @aBg (zA @aBh (zA @ayo (zA @azi (zA @azj (zA @azk (zA @azl (zA @azm (zA @azy (zA @az0 (zA @aAq (zA @ay0 (zA @aAy (zA @aBa (zA @aBp (zA @axZ (zA @ayu (zA @ayU (zA @azO (zA @azY (zA @ayh (zA @ayZ (zA @ay1 (zA @ay5 (zA @ay6 (zA @ay7 (zA @az6 (zA @aAJ (zA @aBB (zA @aBG (zA @ayV (zA @ayY (zA @ay3 (zA @azC (zA @az1 (zA @aAu (zA @aAZ (zA @aA0 (zA @axD (zA @ayW (zA @aA5 (zA @ax9 (zA @aya (zA @aAT (zA @azf (zA @axL (zA @axY (zA @aBn (zA @ax4 (zA @ax5 (zA @azg (zA @axu (zA @az8 (zA @axP (zA @azh (zA @aAV (zA @axp (zA @axs (zA @axU (zA @ax1 (zA @azL (zA @az2 (zA @aBe (zA @aBo (zA @axo (zA @ax2 (zA @azc (zA @azd (zA @aze (zA @azE (zA @az7 (zA @aAw (zA @axv (zA @axO (zA @axX (zA @ax0 (zA @aAb (zA @aAS (zA @aBm (zA @aBr (zA @aA9 (zA @aBs (zA @axq (zA @axJ (zA @axK (zA @ayj (zA @aAR (zA @aA6 (zA @aBf (zA @aBl (zA @aAD (zA @ayk (zA @ayl @ax3)))))))))))))))))))))))))))))))))))))))))))))))))))))))))))))))))))))))))))))))))))))))))))))))))))))))))))))))))))))))))))))))))))))))))))))))))))))))))))))))))))))))))))))))))))))))))))))))))))))))))))))))))))))))))))))))))))))))))))))))))))))))))))))))))))))))))))))))))))))))))))))))))))))))))))))))))
def bH {P : Prop} (k : Q) (t : Q -> P := by intro  a; simp (disch:=first|assumption|omega|simp only[zS]<;>omega|decide) only[zB,simprocAttr,kW]; exact a) : P := t k
def eT {P : Prop} (t : P := by simp (disch:=first|assumption|omega|simp only[zS]<;>omega|decide) only[zB,simprocAttr,kW]) : P := t
def cJ {P:Prop} (a : A0) (k : Q) (t : A0 -> Q -> P := by intro a b; simp (disch:=first|assumption|omega|simp only[zS]<;>omega|decide) only[zB,simprocAttr,kW, a]; exact b) : P := t a k
def fh {P:Prop} (a : A0) (t : A0 -> P := by intro a; simp (disch:=first|assumption|omega|simp only[zS]<;>omega|decide) only[zB,simprocAttr,kW, a]) : P := t a
def dj {P:Prop} (a : A0) (b : A1) (k : Q) (t : A0 -> A1 -> Q -> P := by intro a b c; simp (disch:=first|assumption|omega|simp only[zS]<;>omega|decide) only[zB,simprocAttr,kW, a, b]; exact c) : P := t a b k
def lM {P:Prop} (a : A0) (b : A1) (t : A0 -> A1 -> P := by intro a b; simp (disch:=first|assumption|omega|simp only[zS]<;>omega|decide) only[zB,simprocAttr,kW, a, b]) : P := t a b
def jc {P:Prop} (a : A0) (b : A1) (c : J4) (k : Q) (t : A0 -> A1 -> J4 -> Q -> P := by intro a b c d; simp (disch:=first|assumption|omega|simp only[zS]<;>omega|decide) only[zB,simprocAttr,kW, a, b, c]; exact d) : P := t a b c k
def J5 {P:Prop} (a : A0) (b : A1) (c : J4) (t : A0 -> A1 -> J4 -> P := by intro a b c; simp (disch:=first|assumption|omega|simp only[zS]<;>omega|decide) only[zB,simprocAttr,kW, a, b, c]) : P := t a b c
def dB {e P:Prop} (a : A0) (b : A1) (c : J4) (d : e) (k : Q) (t : A0 -> A1 -> J4 -> e -> Q -> P := by intro a b c d f; simp (disch:=first|assumption|omega|simp only[zS]<;>omega|decide) only[zB,simprocAttr,kW, a, b, c, d]; exact f) : P := t a b c d k
def Bk {e P:Prop} (a : A0) (b : A1) (c : J4) (d : e) (t : A0 -> A1 -> J4 -> e -> P := by intro a b c d; simp (disch:=first|assumption|omega|simp only[zS]<;>omega|decide) only[zB,simprocAttr,kW, a, b, c, d]) : P := t a b c d
def J6 {P : Prop} (k : Q) (t : Q -> P := by intro  a; simp (disch:=first|assumption|omega|simp only[zS]<;>omega|decide) only[zB,Nat.reduceAdd,Nat.reduceMul,Nat.reduceLeDiff,Nat.reduceEqDiff,Int.reduceToNat,Int.reduceAdd,Int.reduceLT,Int.reduceLE,↓reduceIte,kW]; exact a) : P := t k
def yC {P:Prop} (a : A0) (k : Q) (t : A0 -> Q -> P := by intro a b; simp (disch:=first|assumption|omega|simp only[zS]<;>omega|decide) only[zB,Nat.reduceAdd,Nat.reduceMul,Nat.reduceLeDiff,Nat.reduceEqDiff,Int.reduceToNat,Int.reduceAdd,Int.reduceLT,Int.reduceLE,↓reduceIte,kW, a]; exact b) : P := t a k
def abJ {P:Prop} (a : A0) (t : A0 -> P := by intro a; simp (disch:=first|assumption|omega|simp only[zS]<;>omega|decide) only[zB,Nat.reduceAdd,Nat.reduceMul,Nat.reduceLeDiff,Nat.reduceEqDiff,Int.reduceToNat,Int.reduceAdd,Int.reduceLT,Int.reduceLE,↓reduceIte,kW, a]) : P := t a
open Go.RowKit
def fJ(F:Nat->Prop)(w:Z)(a:TypeId)(v:Y)(vs:List Y):Prop:=
 (vs=[]/\v = bW) \/
 ∃ b cs,v = cS b vs.length cs.size/\F b/\w.heap[b]?=aO cs a/\vs.length<=cs.size/\cs.toList.take vs.length=vs
theorem fJ.mono{F':Nat->Prop}{a:TypeId}(h:fJ F w a v vs)
  (c:∀ b,F b->F' b) (hw:∀ b cs,F b->w.heap[b]?=aO cs a->w'.heap[b]?=aO cs a):fJ F' w' a v vs:=by
 rcases h with h | ⟨b,cs,d,e,f,g⟩
 .exact .inl h
 .exact .inr zg
mutual
def eP (F:Nat->Prop) (w:Z) (v:Y):Ex->Prop
 | .mk kind name n k args=>∃ b av vs,v = aq (O ⟨b,0,V⟩)/\F b /\
  w.heap[b]?=aO #[.int .u8 kind,aT name,zi n,zi k,av] 178 /\
  fJ F w 106 av vs/\eQ F w vs args
 termination_by structural x=>x
def eQ (F:Nat->Prop) (w:Z) (vs:List Y):List Ex->Prop
 | []=>vs=[]
 | x::xs=>∃ v r,vs=v::r/\eP F w v x/\eQ F w r xs
 termination_by structural x=>x
end
def DE:Obj->Prop
 | ae _ t z=>(t=178\/t=106\/t=149\/t=84)/\z=(0,0)
 | _=>False
mutual
theorem eP.mono {F F':Nat->Prop} {w w':Z} (a:∀ b,F b->F' b) (hw:∀ b o,F b->DE o->w.heap[b]?=O o->w'.heap[b]?=O o) :
  ∀ (x:Ex) (v:Y),eP F w v x->eP F' w' v x
 | .mk kind name n k args,v,h=>by
  unfold eP at h ⊢;obtain⟨b,av,vs,d,c,e,f,g⟩:=h;exact⟨b,av,vs,d,a b c,hw b _ c ⟨.inl J,J⟩ e,f.mono a fun b cs i j=>hw b _ i ⟨zg,J⟩ j,eQ.mono a hw args vs g⟩
 termination_by structural x=>x
theorem eQ.mono {F F':Nat->Prop} {w w':Z} (a:∀ b,F b->F' b) (hw:∀ b o,F b->DE o->w.heap[b]?=O o->w'.heap[b]?=O o) :
  ∀ (l:List Ex) (vs:List Y),eQ F w vs l->eQ F' w' vs l
 | [],vs,h=>by grind [eQ]
 | x::xs,vs,h=>by
  unfold eQ at h ⊢;obtain⟨v,r,d,c,e⟩:=h;exact⟨v,r,d,eP.mono a hw x v c,eQ.mono a hw xs r e⟩
 termination_by structural x=>x
end
mutual
def dJ (F:Nat->Prop) (w:Z) (v:Y):Bd->Prop
 | .mk kind name args parts=>∃ b av a vs us,v = aq (O ⟨b,0,V⟩)/\F b /\
  w.heap[b]?=aO #[.int .u8 kind,aT name,av,a] 149 /\
  fJ F w 106 av vs/\eQ F w vs args/\fJ F w 84 a us/\gy F w us parts
 termination_by structural x=>x
def gy (F:Nat->Prop) (w:Z) (vs:List Y):List Bd->Prop
 | []=>vs=[]
 | x::xs=>∃ v r,vs=v::r/\dJ F w v x/\gy F w r xs
 termination_by structural x=>x
end
mutual
theorem dJ.mono {F F':Nat->Prop} {w w':Z} (a:∀ b,F b->F' b) (hw:∀ b o,F b->DE o->w.heap[b]?=O o->w'.heap[b]?=O o) :
  ∀ (x:Bd) (v:Y),dJ F w v x->dJ F' w' v x
 | .mk kind name args parts,v,h=>by
  unfold dJ at h ⊢;obtain⟨b,av,i,vs,us,d,c,e,j,n,k,m⟩:=h;exact⟨b,av,i,vs,us,d,a b c,hw b _ c ⟨zg,J⟩ e,j.mono a fun b cs f g=>hw b _ f ⟨zg,J⟩ g,
   (by grind [eQ.mono]),k.mono a fun b cs f g=>hw b _ f ⟨zg,J⟩ g,gy.mono a hw parts us m⟩
 termination_by structural x=>x
theorem gy.mono {F F':Nat->Prop} {w w':Z} (a:∀ b,F b->F' b) (hw:∀ b o,F b->DE o->w.heap[b]?=O o->w'.heap[b]?=O o) :
  ∀ (l:List Bd) (vs:List Y),gy F w vs l->gy F' w' vs l
 | [],vs,h=>by grind [gy]
 | x::xs,vs,h=>by
  unfold gy at h ⊢;obtain⟨v,r,d,c,e⟩:=h;exact⟨v,r,d,dJ.mono a hw x v c,gy.mono a hw xs r e⟩
 termination_by structural x=>x
end
structure TW(T:List P.Tok):Prop where
 len:T.length<=2001
 last:∃ l t,T=l++[t]/\t.kind=0/\∀ u∈l,u.kind≠0
 kind:∀ u∈T,u.kind<=4
 digits:∀ u∈T,u.kind=3->u.text≠[]/\u.text.all P.digit=A/\u.text.length<=9
 words:∀ u∈T,u.kind=1->∃ c r,u.text=c::r/\P.cls c=115
 vars:∀ u∈T,u.kind=2->u.text≠[]
def TW.pos(h:TW T):0<T.length:=by
 obtain⟨l,t,rfl,_⟩:=h.last;simp
def TW.next(h:TW T)(hk:k<T.length)(a:(tk T k).kind≠0):k+1<T.length:=by
 obtain⟨l,t,rfl,b,_⟩:=h.last;grind [List.length_append,List.length_cons,List.length_nil,Nat.lt_or_ge,absurd,tk]
def J7(hk:k<T.length):tk T k∈T:=by
 grind [tk,List.getElem?_eq_getElem,List.getElem_mem]
structure Al(w:Z)(B:Nat):Prop where
 lt:2<B
 Gt:∀ l,l<2->∃ b o c,b<B/\w.cell? ⟨2,l,V⟩=O (.slice (O ⟨b,o,V⟩) (P.ops l).length c) /\
  ∀ j,j<(P.ops l).length->w.cell? ⟨b,o+j,V⟩=O (aT ((P.ops l).getD j []))
theorem MI{a:Addr}(h:w.cell? a=O v)(hw:∀ o,w.heap[a.block]?=O o->w'.heap[a.block]?=O o):w'.cell? a=O v:=by
 grind [World.cell?,World.cell?_of_block]
theorem Al.ext(h:Al w B)(hw:∀ (b:Nat) (o:Obj),b<B->w.heap[b]?=O o->w'.heap[b]?=O o):Al w' B:=by
 refine⟨h.lt,fun l a=>?_⟩;grind [MI,Gt,lt]
def Sw(w:Z)(tb:Nat)(T:List P.Tok):Prop:=
 Al w tb/\∃ cs,w.heap[tb]?=aO cs 142/\∀ j,j<T.length ->
  cs[j*3]?=O (zi ((tk T j).kind))/\cs[j*3+1]?=O (aT ((tk T j).text))/\cs[j*3+2]?=O (zi ((tk T j).pos))
structure SP(w:Z)(pb tb:Nat)(T:List P.Tok)(k:Nat)(vars:List Bs)(d:Nat):Prop where
 tw:TW T
 lt:tb<pb
 kt:k<T.length
 nv:vars.length<=12
 toks:Sw w tb T
 yD:∃ cap vv,T.length<=cap/\cap<=9223372036854775807/\w.heap[pb]?=aO #[.slice (O ⟨tb,k*3,V⟩) (T.length-k) (cap-k),vv,zi d] 145 /\
  w.ownsRow (pb+1) 9 1 vv vars.length (vars.map fun s=>aT s)
def SB(w:Z)(pb:Nat):Prop:=∃ lv vv d,w.heap[pb]?=aO #[lv,vv,zi d] 145
def MS(pb b:Nat)(o:Obj):Prop:=b=pb\/(pb<b/\∃ cs z,o = ae cs 9 z)
abbrev db(pb:Nat)(w w':Z):Prop:=bB (MS pb) w w'
def db.toks(h:db pb w w')(f:tb<pb)(ht:Sw w tb T):Sw w' tb T:=by
 obtain⟨a,cs,c,d⟩:=ht;exact⟨a.ext fun b o g e=>h.block _ _ e (by rintro (h | ⟨h,_⟩)<;>omega),cs,h.block _ _ c (by rintro (h | ⟨h,_⟩)<;>omega),d⟩
theorem db.bJ(h:db pb w w'){t:TypeId}{z:Nat×Nat}(a:w.heap[b]?=O (ae cs t z))
  (c:b≠pb) (ht:t≠9):w'.heap[b]?=O (ae cs t z):=
 h.block _ _ a (by
  rintro (h | ⟨_,cs',d,h⟩)<;>grind)
theorem db.lF{o:Obj}(h:db pb w w')(a:DE o)(c:w.heap[b]?=O o)(d:b≠pb):w'.heap[b]?=O o:=by
 cases o with
 | cells cs t z=>
  refine h.bJ c d ?_;rintro rfl;rcases a.1 with h | h | h | h<;>cases h
 | _=>exact a.elim
abbrev Nu(w w':Z):Nat->Prop:=fun b=>w.heap.size<=b/\b<w'.heap.size
def nw(c a:Int)(w w':Z)(e:Ending):Prop:=
 ∃ b,e = .panicked [{ v:=aj 73 (pp b),recovered:=false }] /\
  w'.heap[b]?=aO #[zi c,zi a] 77/\w.heap.size<=b
def jW{α:Type}(I:(Nat->Prop)->Z->Y->α->Prop)(pb tb:Nat)(T:List P.Tok)(d:Nat)(w:Z):cj α->Ending->Z->Prop
 | .ok x k vs,e,w'=>∃ v,e = ah v/\I (Nu w w') w' v x/\SP w' pb tb T k vs d/\db pb w w'
 | .err c a,e,w'=>nw c a w w' e/\db pb w w'/\SB w' pb
open Sx
theorem bB.bQ{M:Nat->Obj->Prop}{a b:Z}(h:bB M a b){p:Nat}{o:Obj}(c:(∀ x,M p x)\/a.heap.size<=p):bB M a (bQ b p o):=
 ⟨h.os,h.tape,h.output,by rw[vf];exact h.size,(by grind [absurd,jb,bg,block])⟩
def yF{p:Prop}(h:p:=by grind [bB.refl,bB.alloc,bB.drew,bB.bQ,bB.trans,bB.toM,bB.ext,size_alloc,vf,Ca,bg]):p:=h
def jL(hw:∀ (b:Nat) (o:Obj),w.heap[b]?=O o->w'.heap[b]?=O o){size:Nat}(h:w.ownsRow base e size v n xs):w'.ownsRow base e size v n xs:=by
 obtain⟨g1,g2⟩:=h;refine⟨g1,?_⟩;rcases g2 with g | ⟨g,cp,cur,a,c,f,d⟩
 .exact yH
 .exact .inr ⟨g,cp,cur,a,c,yH,d⟩
theorem J8{p:Nat}{o:Obj}{size:Nat}(h:w.ownsRow base e size v n xs)(d:p<base):(bQ w p o).ownsRow base e size v n xs:=by
 obtain⟨g1,g2⟩:=h;refine⟨g1,?_⟩;rcases g2 with g | ⟨g,cp,cur,a,b,f,c⟩
 .exact yH
 .exact .inr ⟨g,cp,cur,a,b,yH,c⟩
def akc{P:Program}{t ty e:TypeId}{i:TypeInfo}{z:Y}{size bytes:Nat}(ht:P.underlying t=O (.slice e))(hi:P.info? e=O i)(d:i.zero=O z)
  (f:i.size=size) (g:i.bytes=bytes) (l:z.cells.size=size) (o:0<size)
 (p:w.ownsRow base e size v n xs) {T:TypeId} {q:Nat×Nat} (C:w.heap[b]?=O (ae cs T q)) (r:cs.toList.length=m*size) (s:∀ u∈cs.toList,u.oneCell'=A)
  (x:n+m<=1000000) (a:bytes<=1000) (y:base<=w.heap.size) {K:Y->Z->Prop}
  (h:∀ v' w',w'.ownsRow base e size v' (n+m) (xs++cs.toList)->w.grownBy w' v.ownBlock->(v'.ownBlock=v.ownBlock\/∀ k,v'.ownBlock=O k->w.heap.size<=k)->K v' w') :
  WR P (Builtin.append_ #[t,t] ty #[v,cS b m c]) w K X:=by
 have D:(n+m)*bytes<=1000000*1000:=Nat.mul_le_mul x a;obtain⟨v',w',B,E,F,H⟩:=Wj (P:=P) w base t ty e i z size bytes ht hi d f g l o v n xs p ⟨b,0,V⟩ m c cs.toList r (fun j u hu=>by
  rw[addr_add,Nat.zero_add];grind [cellOf]) s (by grind [maxLen]) zo y
 rw[xF B];grind
def bB.grow{M:Nat->Obj->Prop}{a b c:Z}(h:bB M a b){r:Option Nat}(d:b.grownBy c r)(hr:∀ k,r=O k->a.heap.size<=k):bB M a c:=
 ⟨d.os.trans h.os,d.tape.trans h.tape,d.output.trans h.output,Nat.le_trans h.size d.size,fun i o hi hm=>by
  have:=bg hi;have f:=h.block i o hi hm;rw[d.block i (bg f) (fun e=>by have:=hr i e.symm;omega)];exact f⟩
def gV{size:Nat}(h:w.ownsRow base e size v n xs):∃ a c,v = .slice a n c:=by
 rcases h.2 with⟨rfl,rfl⟩| ⟨g,cap,cur,rfl,_⟩<;>grind
theorem Sw.at(h:Sw w tb T)(hk:k<T.length) :
  w.cell? ⟨tb,k*3,V⟩=O (zi ((tk T k).kind))/\w.cell? ⟨tb,k*3+1,V⟩=O (aT ((tk T k).text)) /\
   w.cell? ⟨tb,k*3+2,V⟩=O (zi ((tk T k).pos)):=by
 obtain⟨-,cs,a,b⟩:=h;grind [cellOf]
def SP.set{a:Nat}(h:SP w pb tb T k vars d)(hk:k'<T.length)
  (c:db pb w w')
  (n:∀ cap vv,w.heap[pb]?=aO #[.slice (O ⟨tb,k*3,V⟩) (T.length-k) (cap-k),vv,zi d] 145 ->
   w'.heap[pb]?=aO #[.slice (O ⟨tb,k'*3,V⟩) (T.length-k') (cap-k'),vv,zi a] 145)
  (o:∀ b,b≠pb->w'.heap[b]?=w.heap[b]?):SP w' pb tb T k' vars a:=by
 obtain⟨tw,lt,kt,nv,toks,cap,vv,e,f,p,i⟩:=h;refine⟨tw,lt,hk,nv,c.toks lt toks,cap,vv,e,f,zg,?_⟩;obtain⟨g1,g2⟩:=i;refine⟨g1,?_⟩;rcases g2 with g | ⟨g,cp,cur,j,l,q,m⟩
 .grind
 .exact .inr ⟨g,cp,cur,j,l,zg,m⟩
theorem db.Gu{a b:Z}(h:db pb a b)(v:Y):db pb a (b.setCell ⟨pb,o,V⟩ v):=h.atQ (fun _=>.inl J) v
def vh(hp:SP w pb tb T k vars d)(s:Bs)(h:dZ T k s=A) :
  Calls bbp 49 #[pp pb,aT s] w fun e w'=>
   e = ah (.bool A)/\SP w' pb tb T (k+1) vars d/\db pb w w':=by
 obtain⟨cap,vv,jz,sQ,fZ,-⟩:=hp.yD;have h0:=cellOf fZ (o:=0) J;have f0:=jJ fZ 0;obtain⟨t0,t1,-⟩:=hp.toks.at hp.kt;simp only[dZ,Bool.and_eq_true,Bool.or_eq_true,beq_iff_eq] at h;have hkn:k+1<T.length:=hp.tw.next hp.kt zo
 have kY:SP (w.setCell ⟨pb,0,V⟩ (.slice (O ⟨tb,k*3+3,V⟩) (T.length-k-1) (cap-k-1))) pb tb T (k+1) vars d:=by
  refine hp.set hkn (db.Gu (bB.refl _ _) _) (fun cp v2 hv=>?_) (by grind [blk_setCell_other]);rw[fZ] at hv;injection hv with hv;injection hv with hv;have hx:(Value.slice (O ⟨tb,k*3,V⟩) (T.length-k) (cap-k))=Value.slice (O ⟨tb,k*3,V⟩) (T.length-k) (cp-k):=by
   grind
  have hy:vv=v2:=zg;injection hx with _ _ hx;subst hy;rw[Ba fZ];grind
 have tL:db pb w (w.setCell ⟨pb,0,V⟩ (.slice (O ⟨tb,k*3+3,V⟩) (T.length-k-1) (cap-k-1))):=db.Gu (bB.refl _ _) _;obtain⟨kd,iN⟩:∃ kd:Int,kd=((tk T k).kind:Int):=⟨_,J⟩;rw[<- iN] at t0;rw[h.2] at t1;have k0:(kd == 0)=false:=zg;have k2:(kd == 2)=false:=zg;have l1:1<T.length-k:=zo;have l2:T.length-k<=100000:=by have:=hp.tw.len;omega
 have l3:T.length-k<=cap-k:=zo;clear iN h;generalize hn:T.length-k=n at *;generalize hm:cap-k=m at *;clear hn hm jz sQ hkn hp fZ
 go_enter func49,ntmps49
 go_wp2
 go_ret
 exact⟨J,kY,tL⟩
def qD(hp:SP w pb tb T k vars d)(s:Bs)(h:dZ T k s=G)
  (hs:s.all P.digit=G) :
  Calls bbp 49 #[pp pb,aT s] w fun e w'=>e = ah (.bool G)/\w=w':=by
 obtain⟨cap,vv,jz,sQ,fZ,-⟩:=hp.yD;have h0:=cellOf fZ (o:=0) J;obtain⟨t0,t1,-⟩:=hp.toks.at hp.kt;have yE:=hp.tw.kind _ (J7 hp.kt);have xG:=hp.tw.digits _ (J7 hp.kt);have l1:0<T.length-k:=by have:=hp.kt;omega
 have l2:T.length-k<=100000:=by have:=hp.tw.len;omega
 by_cases hx:(tk T k).text=s
 .have iN:(tk T k).kind=0\/(tk T k).kind=2:=by
   simp only[dZ,hx,beq_self_eq_true,Bool.and_true,Bool.or_eq_false_iff,beq_eq_false_iff_ne] at h;grind
  rw[hx] at t1;rcases iN with iN | iN
  .rw[iN] at t0;clear h xG yE iN hx hp;generalize hn:T.length-k=n at *;generalize hm:cap-k=m at *;clear hn hm jz sQ fZ
   go_enter func49,ntmps49
   go_wp2
   go_ret
   exact⟨J,J⟩
  .rw[iN] at t0;clear h xG yE iN hx hp;generalize hn:T.length-k=n at *;generalize hm:cap-k=m at *;clear hn hm jz sQ fZ
   go_enter func49,ntmps49
   go_wp2
   go_ret
   exact⟨J,J⟩
 .obtain⟨kd,iN⟩:∃ kd:Int,kd=((tk T k).kind:Int):=⟨_,J⟩;rw[<- iN] at t0;obtain⟨x,xH⟩:=cg ((tk T k).text);rw[<- xH] at t1 hx;clear iN h xG yE xH hp;generalize hn:T.length-k=n at *;generalize hm:cap-k=m at *;clear hn hm jz sQ fZ
  go_enter func49,ntmps49
  go_wp2
  go_ret
  exact⟨J,J⟩
def Cb(c a:Int)(w:Z)(pb:Nat)(yG:SB w pb) :
  Calls bbp 47 #[zi c,zi a] w fun e w'=>nw c a w w' e/\db pb w w'/\SB w' pb:=by
 have kY:nw c a w (w.alloc (Obj.cells #[a1Z a2b c,a1Z a2b a] 77))
   (.panicked [{ v:=aj 73 (pp w.heap.size),recovered:=false }]):=
  ⟨_,J,blk_alloc_new _ _,Nat.le_refl _⟩
 have aBM:SB (w.alloc (Obj.cells #[a1Z a2b c,a1Z a2b a] 77)) pb:=by
  obtain⟨lv,vv,d,h⟩:=yG;exact⟨lv,vv,d,dR h⟩
 clear yG
 go_enter func47,ntmps47
 go_wp2
 exact⟨J,kY,(bB.refl _ _).alloc _,aBM⟩
