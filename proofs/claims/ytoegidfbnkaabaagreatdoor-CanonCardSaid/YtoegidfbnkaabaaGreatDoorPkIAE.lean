/- A part of one proof (ShT, SBase, GBase, SW1). -/
import Derived.Test.YtoegidfbnkaabaaGreatDoorPkIAD
import Derived.Test.YtoegidfbnkaabaaGreatDoorProg
import Derived.WalkSpells
import Derived.WalkLawsBesides
set_option linter.all false
set_option maxRecDepth 100000
set_option maxHeartbeats 8000000
open Option renaming some → O, none → V
open Go renaming Value → Y, World → Z
open Bool renaming true → A, false → G
open Go.Obj renaming cells → ae
open Go.Ending renaming returned → ah
open Go.Value renaming nilIface → ai, iface → aj, tuple → ak, pointer → aq
open Go.Instr renaming loadAt → a1p, typeAssert → a1s, makeInterface → a1J, sliceAt → a1X, makeMap → a3G, makeSlice → a4b
open Go.Value renaming int → a1I
open Go.IntKind renaming i64 → a1O
open Nat renaming reduceAdd → a3l, reduceLeDiff → a3X, reduceEqDiff → a3Y, reduceMul → a4y
open Int renaming reduceToNat → a4a, reduceAdd → a4z, reduceLT → a4R, reduceLE → a4S
open Go.Proofs.Tryz renaming prog → bbb
open Go.Proofs.Tryz
namespace Go.Proofs.YtoegidfbnkaabaaGreatDoor
open P
open Go.Proofs.YtoegidfbnkaabaaGreatDoor.Sx
variable{A0 A1 Q Kv:Prop}{B b base c cap d e k k' n o pb tb:Nat}{F:Nat->Prop}{K:Y->Prop}{T:List P.Tok}{X:Y->Z->Prop}{cs:Array Y}{l:Int}{v z:Y}{Fb PL:IntKind}{vars:List Bs}{vs xs:List Y}{w':Z}{y:Operand}
abbrev As(t e:Nat)(z:Array Y):Prop:=∀ {u:Y} {w:Z} {X:Y->Z->Prop} {K:Y->Z->Prop},WR bbb (Instr.alloc t A u) w K X=K (aq (O ⟨w.heap.size,0,V⟩)) (w.alloc (ae z e))
def axz:As 100 100 #[(aq V),bX]:=Ap (z:=(.agg #[(aq V),bX])) zk
def axA:As 103 103 #[(aq V),bX,(aq V),(.map V)]:=Ap (z:=(.agg #[(aq V),bX,(aq V),(.map V)])) zk
def axB:As 108 108 #[(aq V)]:=Ap (z:=(aq V)) zk
def axC:As 122 122 #[(aq V)]:=Ap (z:=(aq V)) zk
def ajQ:As 142 142 #[(.int .i64 0),(aT []),(.int .i64 0)]:=Ap (z:=(.agg #[(.int .i64 0),(aT []),(.int .i64 0)])) zk
def axD:As 198 198 #[(aT []),(aT []),ai,bX]:=Ap (z:=(.agg #[(aT []),(aT []),ai,bX])) zk
def axE:As 27 27 #[(.int .i64 0)]:=Ap (z:=(.int .i64 0)) zk
def axF:As 3 3 #[(.int .i64 0)]:=Ap (z:=(.int .i64 0)) zk
def axG:As 4 4 #[(.bool G)]:=Ap (z:=(.bool G)) zk
def axH:As 57 57 #[ai]:=Ap (z:=ai) zk
def axI:As 68 68 #[bX]:=Ap (z:=bX) zk
def axJ:As 73 73 #[(aq V)]:=Ap (z:=(aq V)) zk
def axK:As 79 79 #[(aq V)]:=Ap (z:=(aq V)) zk
def axL:As 9 9 #[(aT [])]:=Ap (z:=(aT [])) zk
def axM:As 91 91 #[ai]:=Ap (z:=(.agg #[ai])) zk
abbrev sY(t:Nat)(l:List (Nat×Nat))(z:Array Y):Prop:=∀ {parts:Array (Nat×Y)} {w:Z} {X:Y->Z->Prop} {K:Y->Prop},RD bbb (Instr.build t parts) w K X=Ww (Fc l z parts.toList) K (GA bbb (Instr.build t parts) w K X)
def axN:sY 103 [(0,2),(2,1),(3,1)] #[(aq V),bX,(aq V),(.map V)]:=sW zk
def axO:sY 116 [(0,1),(1,2),(3,1),(4,1),(5,1)] #[(aq V),bX,(.int .i64 0),(aq V),(.int .i64 0),bX]:=sW zk
def axP:sY 121 [(0,1),(1,1),(2,1),(3,1),(4,1)] #[ai,(aq V),.nilFunc,bX,ai]:=sW zk
def axQ:sY 130 [(0,1),(1,2),(3,1),(4,1),(5,1)] #[(.map V),bX,(.int .i64 0),(aq V),bX,bX]:=sW zk
def axR:sY 134 [] #[]:=sW zk
def ajR:sY 142 [(0,1),(1,1),(2,1)] #[(.int .i64 0),(aT []),(.int .i64 0)]:=sW zk
def axS:sY 145 [(0,1),(1,1),(2,1)] #[bX,bX,(.int .i64 0)]:=sW zk
def ajS:sY 149 [(0,1),(1,1),(2,1),(3,1)] #[(.int .u8 0),(aT []),bX,bX]:=sW zk
def axT:sY 180 [(0,1),(1,1)] #[(aT []),bX]:=sW zk
def axU:sY 187 [(0,1),(1,1),(2,1)] #[(.map V),(aq V),(.int .i64 0)]:=sW zk
def axV:sY 196 [(0,1),(1,1)] #[(.int .i64 0),bX]:=sW zk
def axW:sY 198 [(0,1),(1,1),(2,1),(3,1)] #[(aT []),(aT []),ai,bX]:=sW zk
def axX:sY 203 [(0,1),(1,1),(2,1),(3,1),(4,1)] #[(aq V),bX,(.int .i64 0),(aq V),(.int .i64 0)]:=sW zk
def axY:sY 207 [(0,1),(1,1),(2,1),(3,1)] #[(aq V),bX,(.int .i64 0),(aq V)]:=sW zk
def axZ:sY 213 [(0,1),(1,1),(2,1)] #[(aT []),(.int .i64 0),bX]:=sW zk
def ax0:sY 247 [(0,2),(2,1),(3,1)] #[(.int .i64 0),bX,bX,(.int .i64 0)]:=sW zk
def ax1:sY 342 [(0,1),(1,1),(2,1),(3,1),(4,1)] #[(.int .i64 0),(aq V),(.int .i64 0),bX,bX]:=sW zk
def ax2:sY 356 [(0,1),(1,1),(2,1),(3,1)] #[(.int .i64 0),(aq V),bX,bX]:=sW zk
def ax3:sY 72 [(0,1)] #[bX]:=sW zk
def ax4:sY 77 [(0,1),(1,1)] #[(.int .i64 0),(.int .i64 0)]:=sW zk
def ajT:sY 86 [(0,1),(1,1),(2,1),(3,1)] #[(aT []),bX,(aq V),bX]:=sW zk
def ax5:sY 96 [(0,1),(1,1)] #[bX,(.int .i64 0)]:=sW zk
abbrev xd(t n e:Nat)(l:List (Nat×Nat))(z:Array Y):Prop:=∀ {parts:Array (Nat×Y)} {w:Z} {X:Y->Z->Prop} {K:Y->Z->Prop},WR bbb (Instr.buildSlice t n parts) w K X=Wx (Fc l z parts.toList) e n w K (WR0 bbb (Instr.buildSlice t n parts) w K X)
def ax6:xd 114 1 342 [(0,5)] #[(.int .i64 0),(aq V),(.int .i64 0),bX,bX]:=wU zk
def ax7:xd 128 1 356 [(0,4)] #[(.int .i64 0),(aq V),bX,bX]:=wU zk
def ajU:xd 143 1 142 [(0,3)] #[(.int .i64 0),(aT []),(.int .i64 0)]:=wU zk
def ax8:xd 192 1 185 [(0,1)] #[(aq V)]:=wU zk
def ax9:xd 194 1 198 [(0,4)] #[(aT []),(aT []),ai,bX]:=wU zk
def aya:xd 200 1 20 [(0,1)] #[ai]:=wU zk
def ayb:xd 209 1 211 [(0,1)] #[(aq V)]:=wU zk
def ayc:xd 39 1 9 [(0,1)] #[(aT [])]:=wU zk
def ayd:xd 39 2 9 [(0,1),(1,1)] #[(aT []),(aT [])]:=wU zk
def aye:xd 45 1 3 [(0,1)] #[(.int .i64 0)]:=wU zk
def ayf:xd 45 2 3 [(0,1),(1,1)] #[(.int .i64 0),(.int .i64 0)]:=wU zk
def ajV:xd 68 1 79 [(0,1)] #[(aq V)]:=wU zk
def ayg:xd 82 1 89 [(0,1)] #[ai]:=wU zk
def ayh:xd 83 1 106 [(0,1)] #[(aq V)]:=wU zk
def ayi:xd 94 1 87 [(0,1)] #[(aq V)]:=wU zk
def ayj:xd 98 1 5 [(0,1)] #[(.int .u8 0)]:=wU zk
def ayk:xd 98 2 5 [(0,1),(1,1)] #[(.int .u8 0),(.int .u8 0)]:=wU zk
def ayl:xd 98 3 5 [(0,1),(1,1),(2,1)] #[(.int .u8 0),(.int .u8 0),(.int .u8 0)]:=wU zk
def ajW{l:List UInt8}{k:IntKind}{i:Int}{w:Z}(a:0<=i)(b:i<l.length):RD bbb (Instr.index 9 (aT l) (.int k i)) w K X=K (.int .u8 ((l.getD i.toNat 0).toNat)):=aup zk a b
def aym{k:IntKind}{n:Int}{w:Z}{K:Y->Z->Prop}:WR bbb (convert 3 21 (.int k n)) w K X=K (.int .i32 (IntKind.i32.wrap n)) w:=aut zk zk
def ayn{x:Operand}{w:Z}(c:Y):RD bbb (bo .eql 57 x (.const c) ai ai) w K X=K (.bool A):=ajD zk c
def ayo{x:Operand}{w:Z}(c:Y):RD bbb (bo .eql 89 x (.const c) ai ai) w K X=K (.bool A):=ajD zk c
def ayp{x:Operand}{w:Z}(u:TypeId)(v:Y):RD bbb (bo .eql 57 x y (aj u v) ai) w K X=K (.bool G):=ajC zk u v
def ayq{x:Operand}{w:Z}(u:TypeId)(v:Y):RD bbb (bo .eql 89 x y (aj u v) ai) w K X=K (.bool G):=ajC zk u v
def ayr{x:Operand}{w:Z}(p:Option Nat):RD bbb (bo .eql 101 x y (.map p) (.map V)) w K X=K (.bool p.isNone):=aw9 zk p
def ays{x:Operand}{w:Z}(p:Option Addr):RD bbb (bo .eql 113 x y (.pointer p) (aq V)) w K X=K (.bool p.isNone):=Nc zk p
def ayt{x:Operand}{w:Z}(p:Option Addr):RD bbb (bo .eql 127 x y (.pointer p) (aq V)) w K X=K (.bool p.isNone):=Nc zk p
def ayu{x:Operand}{w:Z}(p:Option Addr):RD bbb (bo .eql 185 x y (.pointer p) (aq V)) w K X=K (.bool p.isNone):=Nc zk p
def ayv{x:Operand}{w:Z}(p:Option Addr):RD bbb (bo .eql 30 x y (.pointer p) (aq V)) w K X=K (.bool p.isNone):=Nc zk p
def ayw{x:Operand}{w:Z}(p:Option Addr):RD bbb (bo .eql 35 x y (.pointer p) (aq V)) w K X=K (.bool p.isNone):=Nc zk p
def ayx{x:Operand}{w:Z}(p:Option Addr):RD bbb (bo .eql 84 x y (.pointer p) (aq V)) w K X=K (.bool p.isNone):=Nc zk p
def ayy{x:Operand}{w:Z}(p:Option Addr):RD bbb (bo .eql 87 x y (.pointer p) (aq V)) w K X=K (.bool p.isNone):=Nc zk p
def ayz{x:Operand}{w:Z}(p:Option Addr)(n c:Nat):RD bbb (bo .eql 192 x y (.slice p n c) bX) w K X=K (.bool p.isNone):=ajB zk p n c
def ayA{x:Operand}{w:Z}(p:Option Addr)(n c:Nat):RD bbb (bo .eql 68 x y (.slice p n c) bX) w K X=K (.bool p.isNone):=ajB zk p n c
abbrev fI(t f d:Nat):Prop:=∀ {b o:Nat} {w:Z} {X:Y->Z->Prop} {K:Y->Prop},RD bbb (Instr.fieldAt t (aq (O ⟨b,o,V⟩)) f) w K X=K (aq (O ⟨b,o+d,V⟩))
def ayB:fI 100 1 1:=fH zk
def ayC:fI 103 0 0:=fH zk
def ayD:fI 103 1 2:=fH zk
def ayE:fI 103 2 3:=fH zk
def ayF:fI 116 0 0:=fH zk
def ayG:fI 116 1 1:=fH zk
def ayH:fI 116 2 3:=fH zk
def ayI:fI 116 3 4:=fH zk
def ayJ:fI 116 4 5:=fH zk
def ayK:fI 121 0 0:=fH zk
def ayL:fI 121 1 1:=fH zk
def ayM:fI 121 2 2:=fH zk
def ayN:fI 121 3 3:=fH zk
def ayO:fI 121 4 4:=fH zk
def ayP:fI 130 0 0:=fH zk
def ayQ:fI 130 1 1:=fH zk
def ayR:fI 130 2 3:=fH zk
def ayS:fI 130 3 4:=fH zk
def ayT:fI 130 4 5:=fH zk
def ajX:fI 142 0 0:=fH zk
def ajY:fI 142 1 1:=fH zk
def ajZ:fI 142 2 2:=fH zk
def aj0:fI 145 0 0:=fH zk
def aj1:fI 145 1 1:=fH zk
def ayU:fI 149 0 0:=fH zk
def ayV:fI 149 1 1:=fH zk
def ayW:fI 149 2 2:=fH zk
def ayX:fI 149 3 3:=fH zk
def ayY:fI 178 0 0:=fH zk
def ayZ:fI 178 1 1:=fH zk
def ay0:fI 178 2 2:=fH zk
def ay1:fI 178 3 3:=fH zk
def ay2:fI 178 4 4:=fH zk
def ay3:fI 180 0 0:=fH zk
def ay4:fI 180 1 1:=fH zk
def ay5:fI 187 0 0:=fH zk
def ay6:fI 187 1 1:=fH zk
def ay7:fI 187 2 2:=fH zk
def ay8:fI 196 0 0:=fH zk
def ay9:fI 196 1 1:=fH zk
def aza:fI 198 0 0:=fH zk
def azb:fI 198 1 1:=fH zk
def azc:fI 198 2 2:=fH zk
def azd:fI 198 3 3:=fH zk
def aze:fI 203 0 0:=fH zk
def azf:fI 203 1 1:=fH zk
def azg:fI 203 2 2:=fH zk
def azh:fI 203 3 3:=fH zk
def azi:fI 203 4 4:=fH zk
def azj:fI 207 0 0:=fH zk
def azk:fI 207 1 1:=fH zk
def azl:fI 207 2 2:=fH zk
def azm:fI 207 3 3:=fH zk
def azn:fI 213 0 0:=fH zk
def azo:fI 213 1 1:=fH zk
def azp:fI 213 2 2:=fH zk
def azq:fI 247 0 0:=fH zk
def azr:fI 247 1 2:=fH zk
def azs:fI 247 2 3:=fH zk
def azt:fI 342 0 0:=fH zk
def azu:fI 342 1 1:=fH zk
def azv:fI 342 2 2:=fH zk
def azw:fI 342 3 3:=fH zk
def azx:fI 342 4 4:=fH zk
def azy:fI 356 0 0:=fH zk
def azz:fI 356 1 1:=fH zk
def azA:fI 356 2 2:=fH zk
def azB:fI 356 3 3:=fH zk
def azC:fI 72 0 0:=fH zk
def azD:fI 77 0 0:=fH zk
def azE:fI 77 1 1:=fH zk
def azF:fI 86 0 0:=fH zk
def aj2:fI 86 1 1:=fH zk
def aj3:fI 86 2 2:=fH zk
def aj4:fI 86 3 3:=fH zk
def azG:fI 91 0 0:=fH zk
def azH:fI 96 0 0:=fH zk
def azI:fI 96 1 1:=fH zk
abbrev Au(t n:Nat):Prop:=∀ {b o len cap:Nat} {k:IntKind} {i:Int} {w:Z} {X:Y->Z->Prop} {K:Y->Prop},0<=i->i<len->RD bbb (Instr.indexAt t (.slice (O ⟨b,o,V⟩) len cap) (.int k i)) w K X=K (aq (O ⟨b,o+i.toNat*n,V⟩))
def azJ:Au 114 5:=fun a b=>Aq zk a b
def azK:Au 128 4:=fun a b=>Aq zk a b
def aj5:Au 143 3:=fun a b=>Aq zk a b
def azL:Au 147 1:=fun a b=>Aq zk a b
def azM:Au 192 1:=fun a b=>Aq zk a b
def azN:Au 194 4:=fun a b=>Aq zk a b
def azO:Au 200 1:=fun a b=>Aq zk a b
def azP:Au 209 1:=fun a b=>Aq zk a b
def azQ:Au 39 1:=fun a b=>Aq zk a b
def azR:Au 45 1:=fun a b=>Aq zk a b
def azS:Au 68 1:=fun a b=>Aq zk a b
def azT:Au 82 1:=fun a b=>Aq zk a b
def azU:Au 83 1:=fun a b=>Aq zk a b
def azV:Au 94 1:=fun a b=>Aq zk a b
def azW:Au 98 1:=fun a b=>Aq zk a b
abbrev kx(t:Nat):Prop:=∀ {b o:Nat} {w:Z} {X:Y->Z->Prop} {K:Y->Prop},RD bbb (a1p t (aq (O ⟨b,o,V⟩))) w K X=Wv (w.heap[b]?) o K (GA bbb (a1p t (aq (O ⟨b,o,V⟩))) w K X)
def azX:kx 101:=ku zk
def azY:kx 106:=ku zk
def azZ:kx 108:=ku zk
def az0:kx 113:=ku zk
def az1:kx 114:=ku zk
def az2:kx 117:=ku zk
def az3:kx 119:=ku zk
def az4:kx 122:=ku zk
def az5:kx 125:=ku zk
def az6:kx 127:=ku zk
def az7:kx 128:=ku zk
def aj6:kx 140:=ku zk
def aj7{w:Z}:RD bbb (a1p 142 (aq (O ⟨b,o,V⟩))) w K X=Na (w.heap[b]?) o 3 K (GA bbb (a1p 142 (aq (O ⟨b,o,V⟩))) w K X):=aaZ zk
def aj8:kx 143:=ku zk
def az8:kx 147:=ku zk
def az9:kx 184:=ku zk
def aAa:kx 185:=ku zk
def aAb:kx 192:=ku zk
def aAc:kx 194:=ku zk
def aAd{w:Z}:RD bbb (a1p 198 (aq (O ⟨b,o,V⟩))) w K X=Na (w.heap[b]?) o 4 K (GA bbb (a1p 198 (aq (O ⟨b,o,V⟩))) w K X):=aaZ zk
def aAe:kx 2:=ku zk
def aAf:kx 20:=ku zk
def aAg:kx 200:=ku zk
def aAh:kx 201:=ku zk
def aAi:kx 211:=ku zk
def aAj:kx 245:=ku zk
def aj9{w:Z}:RD bbb (a1p 256 (aq (O ⟨b,o,V⟩))) w K X=Na (w.heap[b]?) o 23 K (GA bbb (a1p 256 (aq (O ⟨b,o,V⟩))) w K X):=aaZ zk
def aAk:kx 27:=ku zk
def aka:kx 3:=ku zk
def aAl:kx 35:=ku zk
def akb:kx 39:=ku zk
def aAm:kx 4:=ku zk
def aAn:kx 45:=ku zk
def aAo:kx 5:=ku zk
def aAp:kx 57:=ku zk
def aAq:kx 68:=ku zk
def aAr:kx 73:=ku zk
def aAs:kx 79:=ku zk
def aAt:kx 82:=ku zk
def aAu:kx 83:=ku zk
def aAv:kx 84:=ku zk
def aAw:kx 87:=ku zk
def aAx:kx 89:=ku zk
def akc:kx 9:=ku zk
def aAy:kx 93:=ku zk
def aAz:kx 94:=ku zk
def aAA:kx 98:=ku zk
abbrev Br(t:Nat):Prop:=∀ {a:Option Addr} {n c:Nat} {w:Z} {X:Y->Z->Prop} {K:Y->Prop},RD bbb (Builtin.len_ #[t] 3 #[.slice a n c]) w K X=K (.int .i64 n)
def aAB:Br 114:=Bn (e:=342) zk
def aAC:Br 128:=Bn (e:=356) zk
def aAD:Br 147:=Bn (e:=84) zk
def aAE:Br 192:=Bn (e:=185) zk
def aAF:Br 194:=Bn (e:=198) zk
def aAG:Br 200:=Bn (e:=20) zk
def aAH:Br 209:=Bn (e:=211) zk
def aAI:Br 39:=Bn (e:=9) zk
def aAJ:Br 45:=Bn (e:=3) zk
def akd:Br 68:=Bn (e:=79) zk
def aAK:Br 82:=Bn (e:=89) zk
def aAL:Br 83:=Bn (e:=106) zk
def ake{l:List UInt8}{w:Z}:RD bbb (Builtin.len_ #[9] 3 #[aT l]) w K X=K (.int .i64 l.length):=auo zk
def aAM:Br 94:=Bn (e:=87) zk
def aAN:Br 98:=Bn (e:=5) zk
def aAO{w:Z}{K:Y->Z->Prop}:WR bbb (a1J 111 v) w K X=K (aj 111 v) w:=DM zk
def aAP{w:Z}{K:Y->Z->Prop}:WR bbb (a1J 122 v) w K X=K (aj 122 v) w:=DM zk
def aAQ{w:Z}{K:Y->Z->Prop}:WR bbb (a1J 134 v) w K X=K (aj 134 v) w:=DM zk
def aAR{w:Z}{K:Y->Z->Prop}:WR bbb (a1J 171 v) w K X=K (aj 171 v) w:=DM zk
def aAS{w:Z}{K:Y->Z->Prop}:WR bbb (a1J 172 v) w K X=K (aj 172 v) w:=DM zk
def aAT{w:Z}{K:Y->Z->Prop}:WR bbb (a1J 175 v) w K X=K (aj 175 v) w:=DM zk
def aAU{w:Z}{K:Y->Z->Prop}:WR bbb (a1J 201 v) w K X=K (aj 201 v) w:=DM zk
def aAV{w:Z}{K:Y->Z->Prop}:WR bbb (a1J 27 v) w K X=K (aj 27 v) w:=DM zk
def aAW{w:Z}{K:Y->Z->Prop}:WR bbb (a1J 73 v) w K X=K (aj 73 v) w:=DM zk
def aAX{w:Z}{K:Y->Z->Prop}:WR bbb (a1J 75 v) w K X=K (aj 75 v) w:=DM zk
def aAY{w:Z}{K:Y->Z->Prop}:WR bbb (a1J 78 v) w K X=K (aj 78 v) w:=DM zk
def aAZ{w:Z}{K:Y->Z->Prop}:WR bbb (a1J 87 v) w K X=K (aj 87 v) w:=DM zk
def aA0{w:Z}{K:Y->Z->Prop}:WR bbb (a3G 101 V) w K X=K (.map (O w.heap.size)) (w.alloc (.map #[] 0)):=SE
def aA1{w:Z}{K:Y->Z->Prop}:WR bbb (a3G 125 V) w K X=K (.map (O w.heap.size)) (w.alloc (.map #[] 0)):=SE
def aA2{w:Z}{K:Y->Z->Prop}:WR bbb (a3G 184 V) w K X=K (.map (O w.heap.size)) (w.alloc (.map #[] 0)):=SE
def aA3{w:Z}{K:Y->Z->Prop}:WR bbb (a3G 210 V) w K X=K (.map (O w.heap.size)) (w.alloc (.map #[] 0)):=SE
def aA4{w:Z}{K:Y->Z->Prop}:WR bbb (a3G 240 V) w K X=K (.map (O w.heap.size)) (w.alloc (.map #[] 0)):=SE
def aA5{m:Nat}{w:Z}{K:Y->Z->Prop}(a:n<=m)(hm:m<=1000000):WR bbb (a4b 200 (.int Fb n) (.int PL m)) w K X=K (cV w.heap.size n m) (w.alloc (ae (madeCells #[ai] (m*1)) 20)):=abO (z:=ai) (by_:=16) zk a zd hm
def aA6{m:Nat}{w:Z}{K:Y->Z->Prop}(a:n<=m)(hm:m<=1000000):WR bbb (a4b 45 (.int Fb n) (.int PL m)) w K X=K (cV w.heap.size n m) (w.alloc (ae (madeCells #[(.int .i64 0)] (m*1)) 3)):=abO (z:=(.int .i64 0)) (by_:=8) zk a zd hm
def aA7{m:Nat}{w:Z}{K:Y->Z->Prop}(a:n<=m)(hm:m<=1000000):WR bbb (a4b 82 (.int Fb n) (.int PL m)) w K X=K (cV w.heap.size n m) (w.alloc (ae (madeCells #[ai] (m*1)) 89)):=abO (z:=ai) (by_:=16) zk a zd hm
def aA8{x:Operand}{w:Z}(c:Y):RD bbb (bo .neq 57 x (.const c) ai ai) w K X=K (.bool G):=axb zk c
def aA9{x:Operand}{w:Z}(u:TypeId)(v:Y):RD bbb (bo .neq 57 x y (aj u v) ai) w K X=K (.bool A):=axa zk u v
def aBa{x:Operand}{w:Z}(p:Option Addr):RD bbb (bo .neq 113 x y (.pointer p) (aq V)) w K X=K (.bool !p.isNone):=abI zk p
def aBb{x:Operand}{w:Z}(p:Option Addr):RD bbb (bo .neq 185 x y (.pointer p) (aq V)) w K X=K (.bool !p.isNone):=abI zk p
def aBc{x:Operand}{w:Z}(p:Option Addr):RD bbb (bo .neq 35 x y (.pointer p) (aq V)) w K X=K (.bool !p.isNone):=abI zk p
def aBd{x:Operand}{w:Z}(p:Option Addr)(n c:Nat):RD bbb (bo .neq 39 x y (.slice p n c) bX) w K X=K (.bool !p.isNone):=aw8 zk p n c
def aBe{a:Option Addr}{k:IntKind}{w:Z}(b:0<=l)(c:l<=cap):RD bbb (a1X 114 (.slice a pb cap) V (O (.int k l)) V) w K X=K (sliced a 0 l.toNat cap 5):=Sv zk b c
def aBf{a:Option Addr}{k:IntKind}{w:Z}(b:0<=l)(c:l<=cap):RD bbb (a1X 128 (.slice a pb cap) V (O (.int k l)) V) w K X=K (sliced a 0 l.toNat cap 4):=Sv zk b c
def aBg{a:Option Addr}{k:IntKind}{w:Z}(b:0<=l)(c:l<=cap):RD bbb (a1X 200 (.slice a pb cap) V (O (.int k l)) V) w K X=K (sliced a 0 l.toNat cap 1):=Sv zk b c
def aBh{a:Option Addr}{k:IntKind}{w:Z}(b:0<=l)(c:l<=cap):RD bbb (a1X 39 (.slice a pb cap) V (O (.int k l)) V) w K X=K (sliced a 0 l.toNat cap 1):=Sv zk b c
def aBi{a:Option Addr}{k:IntKind}{w:Z}(b:0<=l)(c:l<=cap):RD bbb (a1X 94 (.slice a pb cap) V (O (.int k l)) V) w K X=K (sliced a 0 l.toNat cap 1):=Sv zk b c
def akf{a:Option Addr}{k:IntKind}{w:Z}(b:0<=l)(c:l<=pb):RD bbb (a1X 143 (.slice a pb cap) (O (.int k l)) V V) w K X=K (sliced a l.toNat pb cap 3):=PG zk b c
def aBj{a:Option Addr}{k:IntKind}{w:Z}(b:0<=l)(c:l<=pb):RD bbb (a1X 192 (.slice a pb cap) (O (.int k l)) V V) w K X=K (sliced a l.toNat pb cap 1):=PG zk b c
def aBk{a:Option Addr}{k:IntKind}{w:Z}(b:0<=l)(c:l<=pb):RD bbb (a1X 39 (.slice a pb cap) (O (.int k l)) V V) w K X=K (sliced a l.toNat pb cap 1):=PG zk b c
def aBl{a:Option Addr}{k:IntKind}{w:Z}(b:0<=l)(c:l<=pb):RD bbb (a1X 45 (.slice a pb cap) (O (.int k l)) V V) w K X=K (sliced a l.toNat pb cap 1):=PG zk b c
def aBm{a:Option Addr}{k:IntKind}{w:Z}(b:0<=l)(c:l<=pb):RD bbb (a1X 68 (.slice a pb cap) (O (.int k l)) V V) w K X=K (sliced a l.toNat pb cap 1):=PG zk b c
def akg{s:List UInt8}{k:IntKind}{w:Z}(a:0<=l)(b:l<=s.length):RD bbb (a1X 9 (aT s) (O (.int k l)) V V) w K X=K (aT (s.drop l.toNat)):=aur zk a b
def aBn{a:Option Addr}{k:IntKind}{w:Z}(b:0<=l)(c:l<=pb):RD bbb (a1X 94 (.slice a pb cap) (O (.int k l)) V V) w K X=K (sliced a l.toNat pb cap 1):=PG zk b c
def akh{s:List UInt8}{k:IntKind}{m:Int}{w:Z}(a:0<=l)(b:l<=m)(c:m<=s.length):RD bbb (a1X 9 (aT s) (O (.int k l)) (O (.int Fb m)) V) w K X=K (aT ((s.take m.toNat).drop l.toNat)):=aus zk a b c
abbrev ox(t n:Nat):Prop:=∀ {b o:Nat} {w:Z} {X:Y->Z->Prop} {K:Z->Prop} (v:Y),WU bbb (Instr.storeAt t (aq (O ⟨b,o,V⟩)) v) w K X=Ss (w.heap[b]?) w b o n v K (WU0 bbb (Instr.storeAt t (aq (O ⟨b,o,V⟩)) v) w K X)
def aBo:ox 101 1:=fun v=>ow zk v
def aBp:ox 103 4:=fun v=>ow zk v
def aBq:ox 108 1:=fun v=>ow zk v
def aBr:ox 113 1:=fun v=>ow zk v
def aBs:ox 114 1:=fun v=>ow zk v
def aBt:ox 122 1:=fun v=>ow zk v
def aBu:ox 127 1:=fun v=>ow zk v
def aBv:ox 128 1:=fun v=>ow zk v
def aki:ox 142 3:=fun v=>ow zk v
def akj:ox 143 1:=fun v=>ow zk v
def aBw:ox 185 1:=fun v=>ow zk v
def aBx:ox 192 1:=fun v=>ow zk v
def aBy:ox 194 1:=fun v=>ow zk v
def aBz:ox 198 4:=fun v=>ow zk v
def aBA:ox 20 1:=fun v=>ow zk v
def aBB:ox 3 1:=fun v=>ow zk v
def akk:ox 39 1:=fun v=>ow zk v
def aBC:ox 4 1:=fun v=>ow zk v
def aBD:ox 45 1:=fun v=>ow zk v
def aBE:ox 57 1:=fun v=>ow zk v
def aBF:ox 68 1:=fun v=>ow zk v
def aBG:ox 79 1:=fun v=>ow zk v
def aBH:ox 82 1:=fun v=>ow zk v
def akl:ox 83 1:=fun v=>ow zk v
def akm:ox 84 1:=fun v=>ow zk v
def aBI:ox 89 1:=fun v=>ow zk v
def aBJ:ox 9 1:=fun v=>ow zk v
def aBK:ox 94 1:=fun v=>ow zk v
def aBL:ox 98 1:=fun v=>ow zk v
def aBM{w:Z}(t:TypeId)(v:Y):RD bbb (a1s (aj t v) 20 201 A) w K X=if t=201 then K (ak #[v,.bool A]) else K (ak #[(.int .i64 0),.bool G]):=SC zk zk t v
def aBN{w:Z}(t:TypeId)(v:Y):RD bbb (a1s (aj t v) 89 171 A) w K X=if t=171 then K (ak #[v,.bool A]) else K (ak #[(aT []),.bool G]):=SC zk zk t v
def aBO{w:Z}(t:TypeId)(v:Y):RD bbb (a1s (aj t v) 89 172 A) w K X=if t=172 then K (ak #[v,.bool A]) else K (ak #[(.int .i64 0),.bool G]):=SC zk zk t v
def aBP{w:Z}(t:TypeId)(v:Y):RD bbb (a1s (aj t v) 89 175 A) w K X=if t=175 then K (ak #[v,.bool A]) else K (ak #[(aq V),.bool G]):=SC zk zk t v
def aBQ{w:Z}(t:TypeId)(v:Y):RD bbb (a1s (aj t v) 89 87 A) w K X=if t=87 then K (ak #[v,.bool A]) else K (ak #[(aq V),.bool G]):=SC zk zk t v
def aBR{w:Z}:RD bbb (a1s ai 20 201 A) w K X=K (ak #[(.int .i64 0),.bool G]):=SD zk zk
def aBS{w:Z}:RD bbb (a1s ai 89 171 A) w K X=K (ak #[(aT []),.bool G]):=SD zk zk
def aBT{w:Z}:RD bbb (a1s ai 89 172 A) w K X=K (ak #[(.int .i64 0),.bool G]):=SD zk zk
def aBU{w:Z}:RD bbb (a1s ai 89 175 A) w K X=K (ak #[(aq V),.bool G]):=SD zk zk
def aBV{w:Z}:RD bbb (a1s ai 89 87 A) w K X=K (ak #[(aq V),.bool G]):=SD zk zk
def akn{k:IntKind}{i:Int}{w:Z}(a:0<=i)(b:i<23):RD bbb (Instr.index 256 (.agg cs) (.int k i)) w K X=Sz cs i K (GA bbb (Instr.index 256 (.agg cs) (.int k i)) w K X):=axc (e:=9) zk zk a b
def zB := (zA zG0 (zA @ax4 (zA @aAW (zA @ajQ (zA @ajR (zA @ajW (zA @aj7 (zA @ake (zA @aki (zA @ajU (zA @aj9 (zA @akg (zA @akh (zA @akn (zA @ajS (zA @ajT (zA @ajV (zA @ajX (zA @ajY (zA @ajZ (zA @aj0 (zA @aj1 (zA @aj2 (zA @aj3 (zA @aj4 (zA @aj5 (zA @aj6 (zA @aj8 (zA @aka (zA @akb (zA @akc (zA @akd (zA @akf (zA @akj (zA @akk (zA @akl (zA @akm (zA @axH (zA @axI (zA @axS (zA @aAp (zA @aAq (zA @aBE (zA @aBF (zA @axK (zA @aAs (zA @aBG (zA @ax3 (zA @aA8 (zA @aA9 (zA @axE (zA @axJ (zA @ayn (zA @ayp (zA @azD (zA @azE (zA @aAk (zA @aAr (zA @aAX (zA @aAY (zA @ayB (zA @aAA (zA @aBL (zA @ayj (zA @ayo (zA @ayq (zA @azG (zA @aAx (zA @aBQ (zA @aBV (zA @axR (zA @azI (zA @aAQ (zA @aBB (zA @azH (zA @aAz (zA @aAM (zA @ayi (zA @aBI (zA @aBK (zA @azV (zA @aAw (zA @aBi (zA @aBn (zA @ayr (zA @ayC (zA @ayD (zA @ayE (zA @azX (zA @aAy (zA @aA0 (zA @aBo (zA @aBN (zA @aBO (zA @aBP (zA @aBS (zA @aBT (zA @aBU (zA @ay3 (zA @ay4 (zA @azT (zA @aAt (zA @aAK (zA @ayy (zA @aAZ (zA @aAV (zA @aAS (zA @axT (zA @ayg (zA @ayY (zA @ayZ (zA @ay0 (zA @ay1 (zA @ay2 (zA @azU (zA @azY (zA @aAe (zA @aAo (zA @aAu (zA @aAL (zA @aAR (zA @aAT (zA @aBH (zA @ax2 (zA @ax7 (zA @ayQ (zA @ayS (zA @az7 (zA @aBv (zA @axM (zA @aA7 (zA @axY (zA @ayR (zA @azA (zA @azK (zA @azS (zA @aAv (zA @aAI (zA @aBf (zA @aBm (zA @aBu (zA @aym (zA @ayA (zA @ayP (zA @ayV (zA @ayW (zA @az5 (zA @az6 (zA @aAC (zA @ayx (zA @ayU (zA @ayX (zA @azj (zA @azk (zA @azl (zA @azL (zA @az8 (zA @aAD (zA @ayt (zA @azm (zA @azy (zA @azz (zA @azB (zA @azF (zA @aA1 (zA @axQ (zA @ayT (zA @ayh (zA @axN (zA @ax5 (zA @aAN (zA @axL (zA @ayK (zA @ayL (zA @ayM (zA @ayN (zA @ayO (zA @azQ (zA @az2 (zA @az3 (zA @aAl (zA @aBd (zA @aBJ (zA @az4 (zA @axC (zA @axP (zA @azC (zA @aAP (zA @aBc (zA @aBt (zA @ayH (zA @azd (zA @azf (zA @azO (zA @azR (zA @az0 (zA @aAf (zA @aAg (zA @aAn (zA @axX (zA @ax1 (zA @ax6 (zA @ayG (zA @ayI (zA @ayJ (zA @ay8 (zA @azM (zA @az1 (zA @aAa (zA @aAE (zA @aAG (zA @aA5 (zA @aBe (zA @aBj (zA @aBr (zA @aBs (zA @ayz (zA @azt (zA @azu (zA @azv (zA @azw (zA @azx (zA @azJ (zA @aAb (zA @aAB (zA @azb (zA @aAJ (zA @aBl (zA @aBA (zA @aya (zA @ayF (zA @ay5 (zA @azZ (zA @az9 (zA @ays (zA @aza (zA @azc (zA @azg (zA @azh (zA @azi (zA @aAh (zA @aAU (zA @aBM (zA @aBR (zA @ay6 (zA @ay9 (zA @aze (zA @azN (zA @aAc (zA @aAF (zA @aBa (zA @aBb (zA @axO (zA @ay7 (zA @aBg (zA @ayk (zA @ayl (zA @aA4 (zA @azq (zA @axW (zA @ax9 (zA @aBy (zA @aye (zA @ayf (zA @azr (zA @axF (zA @aAj (zA @ax0 (zA @azs (zA @aA6 (zA @axA (zA @axD (zA @ayc (zA @azW (zA @aAd (zA @aBp (zA @aBz (zA @axz (zA @ayd (zA @azn (zA @azo (zA @azp (zA @azP (zA @aAi (zA @aAH (zA @axG (zA @axZ (zA @ax8 (zA @ayb (zA @aAm (zA @aA3 (zA @aBx (zA @aBC (zA @aBk (zA @aBD (zA @axB (zA @axU (zA @axV (zA @ayu (zA @aA2 (zA @aBh (zA @aBq (zA @aBw (zA @aAO (zA @ayv @ayw)))))))))))))))))))))))))))))))))))))))))))))))))))))))))))))))))))))))))))))))))))))))))))))))))))))))))))))))))))))))))))))))))))))))))))))))))))))))))))))))))))))))))))))))))))))))))))))))))))))))))))))))))))))))))))))))))))))))))))))))))))))))))))))))))))))))))))))))))))))))))))))))))))))))))))))))))
def bG {P : Prop} (k : Q) (t : Q -> P := by intro  a; simp (disch:=first|assumption|omega|simp only[zS]<;>omega|decide) only[zB,simprocAttr,lE]; exact a) : P := t k
def eV {P : Prop} (t : P := by simp (disch:=first|assumption|omega|simp only[zS]<;>omega|decide) only[zB,simprocAttr,lE]) : P := t
def cO {P:Prop} (a : A0) (k : Q) (t : A0 -> Q -> P := by intro a b; simp (disch:=first|assumption|omega|simp only[zS]<;>omega|decide) only[zB,simprocAttr,lE, a]; exact b) : P := t a k
def fm {P:Prop} (a : A0) (t : A0 -> P := by intro a; simp (disch:=first|assumption|omega|simp only[zS]<;>omega|decide) only[zB,simprocAttr,lE, a]) : P := t a
def dF {P:Prop} (a : A0) (b : A1) (k : Q) (t : A0 -> A1 -> Q -> P := by intro a b c; simp (disch:=first|assumption|omega|simp only[zS]<;>omega|decide) only[zB,simprocAttr,lE, a, b]; exact c) : P := t a b k
def mn {P:Prop} (a : A0) (b : A1) (t : A0 -> A1 -> P := by intro a b; simp (disch:=first|assumption|omega|simp only[zS]<;>omega|decide) only[zB,simprocAttr,lE, a, b]) : P := t a b
def jk {P:Prop} (a : A0) (b : A1) (c : Kv) (k : Q) (t : A0 -> A1 -> Kv -> Q -> P := by intro a b c d; simp (disch:=first|assumption|omega|simp only[zS]<;>omega|decide) only[zB,simprocAttr,lE, a, b, c]; exact d) : P := t a b c k
def Kw {P:Prop} (a : A0) (b : A1) (c : Kv) (t : A0 -> A1 -> Kv -> P := by intro a b c; simp (disch:=first|assumption|omega|simp only[zS]<;>omega|decide) only[zB,simprocAttr,lE, a, b, c]) : P := t a b c
def dM {e P:Prop} (a : A0) (b : A1) (c : Kv) (d : e) (k : Q) (t : A0 -> A1 -> Kv -> e -> Q -> P := by intro a b c d f; simp (disch:=first|assumption|omega|simp only[zS]<;>omega|decide) only[zB,simprocAttr,lE, a, b, c, d]; exact f) : P := t a b c d k
def Bt {e P:Prop} (a : A0) (b : A1) (c : Kv) (d : e) (t : A0 -> A1 -> Kv -> e -> P := by intro a b c d; simp (disch:=first|assumption|omega|simp only[zS]<;>omega|decide) only[zB,simprocAttr,lE, a, b, c, d]) : P := t a b c d
def Kx {P : Prop} (k : Q) (t : Q -> P := by intro  a; simp (disch:=first|assumption|omega|simp only[zS]<;>omega|decide) only[zB,Nat.reduceAdd,Nat.reduceMul,Nat.reduceLeDiff,Nat.reduceEqDiff,Int.reduceToNat,Int.reduceAdd,Int.reduceLT,Int.reduceLE,↓reduceIte,lE]; exact a) : P := t k
def yV {P:Prop} (a : A0) (k : Q) (t : A0 -> Q -> P := by intro a b; simp (disch:=first|assumption|omega|simp only[zS]<;>omega|decide) only[zB,Nat.reduceAdd,Nat.reduceMul,Nat.reduceLeDiff,Nat.reduceEqDiff,Int.reduceToNat,Int.reduceAdd,Int.reduceLT,Int.reduceLE,↓reduceIte,lE, a]; exact b) : P := t a k
def abS {P:Prop} (a : A0) (t : A0 -> P := by intro a; simp (disch:=first|assumption|omega|simp only[zS]<;>omega|decide) only[zB,Nat.reduceAdd,Nat.reduceMul,Nat.reduceLeDiff,Nat.reduceEqDiff,Int.reduceToNat,Int.reduceAdd,Int.reduceLT,Int.reduceLE,↓reduceIte,lE, a]) : P := t a
open Go.RowKit
def fJ(F:Nat->Prop)(w:Z)(a:TypeId)(v:Y)(vs:List Y):Prop:=
 (vs=[]/\v = bX) \/
 ∃ b cs,v = cV b vs.length cs.size/\F b/\w.heap[b]?=aN cs a/\vs.length<=cs.size/\cs.toList.take vs.length=vs
theorem fJ.mono{F':Nat->Prop}{w:Z}{a:TypeId}(h:fJ F w a v vs)
  (c:∀ b,F b->F' b) (hw:∀ b cs,F b->w.heap[b]?=aN cs a->w'.heap[b]?=aN cs a):fJ F' w' a v vs:=by
 rcases h with h | ⟨b,cs,d,e,f,g⟩
 .exact .inl h
 .exact .inr zg
mutual
def eL (F:Nat->Prop) (w:Z) (v:Y):Ex->Prop
 | .mk kind name n k args=>∃ b av vs,v = aq (O ⟨b,0,V⟩)/\F b /\
  w.heap[b]?=aN #[.int .u8 kind,aT name,zi n,zi k,av] 178 /\
  fJ F w 106 av vs/\eM F w vs args
 termination_by structural x=>x
def eM (F:Nat->Prop) (w:Z) (vs:List Y):List Ex->Prop
 | []=>vs=[]
 | x::xs=>∃ v r,vs=v::r/\eL F w v x/\eM F w r xs
 termination_by structural x=>x
end
def DR:Obj->Prop
 | ae _ t z=>(t=178\/t=106\/t=149\/t=84)/\z=(0,0)
 | _=>False
mutual
theorem eL.mono {F F':Nat->Prop} {w w':Z} (a:∀ b,F b->F' b) (hw:∀ b o,F b->DR o->w.heap[b]?=O o->w'.heap[b]?=O o) :
  ∀ (x:Ex) (v:Y),eL F w v x->eL F' w' v x
 | .mk kind name n k args,v,h=>by
  unfold eL at h ⊢;obtain⟨b,av,vs,d,c,e,f,g⟩:=h;exact⟨b,av,vs,d,a b c,hw b _ c ⟨.inl J,J⟩ e,f.mono a fun b cs i j=>hw b _ i ⟨zg,J⟩ j,eM.mono a hw args vs g⟩
 termination_by structural x=>x
theorem eM.mono {F F':Nat->Prop} {w w':Z} (a:∀ b,F b->F' b) (hw:∀ b o,F b->DR o->w.heap[b]?=O o->w'.heap[b]?=O o) :
  ∀ (l:List Ex) (vs:List Y),eM F w vs l->eM F' w' vs l
 | [],vs,h=>by grind [eM]
 | x::xs,vs,h=>by
  unfold eM at h ⊢;obtain⟨v,r,d,c,e⟩:=h;exact⟨v,r,d,eL.mono a hw x v c,eM.mono a hw xs r e⟩
 termination_by structural x=>x
end
mutual
def dP (F:Nat->Prop) (w:Z) (v:Y):Bd->Prop
 | .mk kind name args parts=>∃ b av a vs us,v = aq (O ⟨b,0,V⟩)/\F b /\
  w.heap[b]?=aN #[.int .u8 kind,aT name,av,a] 149 /\
  fJ F w 106 av vs/\eM F w vs args/\fJ F w 84 a us/\gF F w us parts
 termination_by structural x=>x
def gF (F:Nat->Prop) (w:Z) (vs:List Y):List Bd->Prop
 | []=>vs=[]
 | x::xs=>∃ v r,vs=v::r/\dP F w v x/\gF F w r xs
 termination_by structural x=>x
end
mutual
theorem dP.mono {F F':Nat->Prop} {w w':Z} (a:∀ b,F b->F' b) (hw:∀ b o,F b->DR o->w.heap[b]?=O o->w'.heap[b]?=O o) :
  ∀ (x:Bd) (v:Y),dP F w v x->dP F' w' v x
 | .mk kind name args parts,v,h=>by
  unfold dP at h ⊢;obtain⟨b,av,i,vs,us,d,c,e,j,n,k,m⟩:=h;exact⟨b,av,i,vs,us,d,a b c,hw b _ c ⟨zg,J⟩ e,j.mono a fun b cs f g=>hw b _ f ⟨zg,J⟩ g,
   (by grind [eM.mono]),k.mono a fun b cs f g=>hw b _ f ⟨zg,J⟩ g,gF.mono a hw parts us m⟩
 termination_by structural x=>x
theorem gF.mono {F F':Nat->Prop} {w w':Z} (a:∀ b,F b->F' b) (hw:∀ b o,F b->DR o->w.heap[b]?=O o->w'.heap[b]?=O o) :
  ∀ (l:List Bd) (vs:List Y),gF F w vs l->gF F' w' vs l
 | [],vs,h=>by grind [gF]
 | x::xs,vs,h=>by
  unfold gF at h ⊢;obtain⟨v,r,d,c,e⟩:=h;exact⟨v,r,d,dP.mono a hw x v c,gF.mono a hw xs r e⟩
 termination_by structural x=>x
end
structure TW(T:List P.Tok):Prop where
 len:T.length<=2001
 last:∃ l t,T=l++[t]/\t.kind=0/\∀ u∈l,u.kind≠0
 kind:∀ u∈T,u.kind<=4
 digits:∀ u∈T,u.kind=3->u.text≠[]/\u.text.all P.digit=A/\u.text.length<=9
 words:∀ u∈T,u.kind=1->∃ c r,u.text=c::r/\P.cls c=115
 vars:∀ u∈T,u.kind=2->u.text≠[]
def TW.pos(h:TW T):0<T.length:=by
 obtain⟨l,t,rfl,_⟩:=h.last;simp
def TW.next(h:TW T)(hk:k<T.length)(a:(tk T k).kind≠0):k+1<T.length:=by
 obtain⟨l,t,rfl,b,_⟩:=h.last;grind [List.length_append,List.length_cons,List.length_nil,Nat.lt_or_ge,absurd,tk]
def Ky(hk:k<T.length):tk T k∈T:=by
 grind [tk,List.getElem?_eq_getElem,List.getElem_mem]
structure Av(w:Z)(B:Nat):Prop where
 lt:2<B
 GL:∀ l,l<2->∃ b o c,b<B/\w.cell? ⟨2,l,V⟩=O (.slice (O ⟨b,o,V⟩) (P.ops l).length c) /\
  ∀ j,j<(P.ops l).length->w.cell? ⟨b,o+j,V⟩=O (aT ((P.ops l).getD j []))
theorem Ng{w:Z}{a:Addr}(h:w.cell? a=O v)(hw:∀ o,w.heap[a.block]?=O o->w'.heap[a.block]?=O o):w'.cell? a=O v:=by
 grind [World.cell?,World.cell?_of_block]
theorem Av.ext{w:Z}(h:Av w B)(hw:∀ (b:Nat) (o:Obj),b<B->w.heap[b]?=O o->w'.heap[b]?=O o):Av w' B:=by
 refine⟨h.lt,fun l a=>?_⟩;grind [Ng,GL,lt]
def SH(w:Z)(tb:Nat)(T:List P.Tok):Prop:=
 Av w tb/\∃ cs,w.heap[tb]?=aN cs 142/\∀ j,j<T.length ->
  cs[j*3]?=O (zi ((tk T j).kind))/\cs[j*3+1]?=O (aT ((tk T j).text))/\cs[j*3+2]?=O (zi ((tk T j).pos))
structure SP(w:Z)(pb tb:Nat)(T:List P.Tok)(k:Nat)(vars:List Bs)(d:Nat):Prop where
 tw:TW T
 lt:tb<pb
 kt:k<T.length
 nv:vars.length<=12
 toks:SH w tb T
 yW:∃ cap vv,T.length<=cap/\cap<=9223372036854775807/\w.heap[pb]?=aN #[.slice (O ⟨tb,k*3,V⟩) (T.length-k) (cap-k),vv,zi d] 145 /\
  w.ownsRow (pb+1) 9 1 vv vars.length (vars.map fun s=>aT s)
def SB(w:Z)(pb:Nat):Prop:=∃ lv vv d,w.heap[pb]?=aN #[lv,vv,zi d] 145
def MS(pb b:Nat)(o:Obj):Prop:=b=pb\/(pb<b/\∃ cs z,o = ae cs 9 z)
abbrev dc(pb:Nat)(w w':Z):Prop:=bB (MS pb) w w'
def dc.toks{w:Z}(h:dc pb w w')(f:tb<pb)(ht:SH w tb T):SH w' tb T:=by
 obtain⟨a,cs,c,d⟩:=ht;exact⟨a.ext fun b o g e=>h.block _ _ e (by rintro (h | ⟨h,_⟩)<;>omega),cs,h.block _ _ c (by rintro (h | ⟨h,_⟩)<;>omega),d⟩
theorem dc.bK{w:Z}(h:dc pb w w'){t:TypeId}{z:Nat×Nat}(a:w.heap[b]?=O (ae cs t z))
  (c:b≠pb) (ht:t≠9):w'.heap[b]?=O (ae cs t z):=
 h.block _ _ a (by
  rintro (h | ⟨_,cs',d,h⟩)<;>grind)
theorem dc.lG{o:Obj}{w:Z}(h:dc pb w w')(a:DR o)(c:w.heap[b]?=O o)(d:b≠pb):w'.heap[b]?=O o:=by
 cases o with
 | cells cs t z=>
  refine h.bK c d ?_;rintro rfl;rcases a.1 with h | h | h | h<;>cases h
 | _=>exact a.elim
abbrev Nu(w w':Z):Nat->Prop:=fun b=>w.heap.size<=b/\b<w'.heap.size
def nA(c a:Int)(w w':Z)(e:Ending):Prop:=
 ∃ b,e = .panicked [{ v:=aj 73 (pp b),recovered:=false }] /\
  w'.heap[b]?=aN #[zi c,zi a] 77/\w.heap.size<=b
def j8{α:Type}(I:(Nat->Prop)->Z->Y->α->Prop)(pb tb:Nat)(T:List P.Tok)(d:Nat)(w:Z):cd α->Ending->Z->Prop
 | .ok x k vs,e,w'=>∃ v,e = ah v/\I (Nu w w') w' v x/\SP w' pb tb T k vs d/\dc pb w w'
 | .err c a,e,w'=>nA c a w w' e/\dc pb w w'/\SB w' pb
open Sx
theorem bB.bS{M:Nat->Obj->Prop}{a b:Z}(h:bB M a b){p:Nat}{o:Obj}(c:(∀ x,M p x)\/a.heap.size<=p):bB M a (bS b p o):=
 ⟨h.os,h.tape,h.output,by rw[vp];exact h.size,(by grind [absurd,jr,bh,block])⟩
def yF{p:Prop}(h:p:=by grind [bB.refl,bB.alloc,bB.drew,bB.bS,bB.trans,bB.toM,bB.ext,size_alloc,vp,Ck,bh]):p:=h
def jY{w:Z}(hw:∀ (b:Nat) (o:Obj),w.heap[b]?=O o->w'.heap[b]?=O o){size:Nat}(h:w.ownsRow base e size v n xs):w'.ownsRow base e size v n xs:=by
 obtain⟨g1,g2⟩:=h;refine⟨g1,?_⟩;rcases g2 with g | ⟨g,cp,cur,a,c,f,d⟩
 .exact yH
 .exact .inr ⟨g,cp,cur,a,c,yH,d⟩
theorem Kz{w:Z}{p:Nat}{o:Obj}{size:Nat}(h:w.ownsRow base e size v n xs)(d:p<base):(bS w p o).ownsRow base e size v n xs:=by
 obtain⟨g1,g2⟩:=h;refine⟨g1,?_⟩;rcases g2 with g | ⟨g,cp,cur,a,b,f,c⟩
 .exact yH
 .exact .inr ⟨g,cp,cur,a,b,yH,c⟩
def ako{P:Program}{t ty e:TypeId}{i:TypeInfo}{size bytes:Nat}(ht:P.underlying t=O (.slice e))(d:P.info? e=O i)(f:i.zero=O z)
  (g:i.size=size) (l:i.bytes=bytes) (o:z.cells.size=size) (p:0<size) {w:Z}
 (q:w.ownsRow base e size v n xs) {m:Nat} {T:TypeId} {r:Nat×Nat} (D:w.heap[b]?=O (ae cs T r)) (s:cs.toList.length=m*size) (x:∀ u∈cs.toList,u.oneCell'=A)
  (y:n+m<=1000000) (a:bytes<=1000) (B:base<=w.heap.size) {K:Y->Z->Prop}
  (h:∀ v' w',w'.ownsRow base e size v' (n+m) (xs++cs.toList)->w.grownBy w' v.ownBlock->(v'.ownBlock=v.ownBlock\/∀ k,v'.ownBlock=O k->w.heap.size<=k)->K v' w') :
  WR P (Builtin.append_ #[t,t] ty #[v,cV b m c]) w K X:=by
 have E:(n+m)*bytes<=1000000*1000:=Nat.mul_le_mul y a;obtain⟨v',w',C,F,H,I⟩:=Wm (P:=P) w base t ty e i z size bytes ht d f g l o p v n xs q ⟨b,0,V⟩ m c cs.toList s (fun j u hu=>by
  rw[addr_add,Nat.zero_add];grind [cellOf]) x (by grind [maxLen]) zo B
 rw[xR C];grind
def bB.grow{M:Nat->Obj->Prop}{a b c:Z}(h:bB M a b){r:Option Nat}(d:b.grownBy c r)(hr:∀ k,r=O k->a.heap.size<=k):bB M a c:=
 ⟨d.os.trans h.os,d.tape.trans h.tape,d.output.trans h.output,Nat.le_trans h.size d.size,fun i o f hm=>by
  have:=bh f;have g:=h.block i o f hm;rw[d.block i (bh g) (fun e=>by have:=hr i e.symm;omega)];exact g⟩
def il{w:Z}{size:Nat}(h:w.ownsRow base e size v n xs):∃ a c,v = .slice a n c:=by
 rcases h.2 with⟨rfl,rfl⟩| ⟨g,cap,cur,rfl,_⟩<;>grind
theorem SH.at{w:Z}(h:SH w tb T)(hk:k<T.length) :
  w.cell? ⟨tb,k*3,V⟩=O (zi ((tk T k).kind))/\w.cell? ⟨tb,k*3+1,V⟩=O (aT ((tk T k).text)) /\
   w.cell? ⟨tb,k*3+2,V⟩=O (zi ((tk T k).pos)):=by
 obtain⟨-,cs,a,b⟩:=h;grind [cellOf]
def SP.set{w:Z}{a:Nat}(h:SP w pb tb T k vars d)(hk:k'<T.length)
  (c:dc pb w w')
  (n:∀ cap vv,w.heap[pb]?=aN #[.slice (O ⟨tb,k*3,V⟩) (T.length-k) (cap-k),vv,zi d] 145 ->
   w'.heap[pb]?=aN #[.slice (O ⟨tb,k'*3,V⟩) (T.length-k') (cap-k'),vv,zi a] 145)
  (o:∀ b,b≠pb->w'.heap[b]?=w.heap[b]?):SP w' pb tb T k' vars a:=by
 obtain⟨tw,lt,kt,nv,toks,cap,vv,e,f,p,i⟩:=h;refine⟨tw,lt,hk,nv,c.toks lt toks,cap,vv,e,f,zg,?_⟩;obtain⟨g1,g2⟩:=i;refine⟨g1,?_⟩;rcases g2 with g | ⟨g,cp,cur,j,l,q,m⟩
 .grind
 .exact .inr ⟨g,cp,cur,j,l,zg,m⟩
theorem dc.GN{a b:Z}(h:dc pb a b)(v:Y):dc pb a (b.setCell ⟨pb,o,V⟩ v):=h.at1 (fun _=>.inl J) v
def vu{w:Z}(hp:SP w pb tb T k vars d)(s:Bs)(h:dQ T k s=A) :
  Calls bbb 49 #[pp pb,aT s] w fun e w'=>
   e = ah (.bool A)/\SP w' pb tb T (k+1) vars d/\dc pb w w':=by
 obtain⟨cap,vv,jF,rT,gn,-⟩:=hp.yW;have h0:=cellOf gn (o:=0) J;have f0:=jX gn 0;obtain⟨t0,t1,-⟩:=hp.toks.at hp.kt;simp only[dQ,Bool.and_eq_true,Bool.or_eq_true,beq_iff_eq] at h;have hkn:k+1<T.length:=hp.tw.next hp.kt zo
 have ll:SP (w.setCell ⟨pb,0,V⟩ (.slice (O ⟨tb,k*3+3,V⟩) (T.length-k-1) (cap-k-1))) pb tb T (k+1) vars d:=by
  refine hp.set hkn (dc.GN (bB.refl _ _) _) (fun cp v2 hv=>?_) (by grind [blk_setCell_other]);rw[gn] at hv;injection hv with hv;injection hv with hv;have hx:(Value.slice (O ⟨tb,k*3,V⟩) (T.length-k) (cap-k))=Value.slice (O ⟨tb,k*3,V⟩) (T.length-k) (cp-k):=by
   grind
  have hy:vv=v2:=zg;injection hx with _ _ hx;subst hy;rw[Bk gn];grind
 have tN:dc pb w (w.setCell ⟨pb,0,V⟩ (.slice (O ⟨tb,k*3+3,V⟩) (T.length-k-1) (cap-k-1))):=dc.GN (bB.refl _ _) _;obtain⟨kd,ja⟩:∃ kd:Int,kd=((tk T k).kind:Int):=⟨_,J⟩;rw[<- ja] at t0;rw[h.2] at t1;have k0:(kd == 0)=false:=zg;have k2:(kd == 2)=false:=zg;have l1:1<T.length-k:=zo;have l2:T.length-k<=100000:=by have:=hp.tw.len;omega
 have l3:T.length-k<=cap-k:=zo;clear ja h;generalize hn:T.length-k=n at *;generalize hm:cap-k=m at *;clear hn hm jF rT hkn hp gn
 go_enter func49,ntmps49
 go_wp2
 go_ret
 exact⟨J,ll,tN⟩
def qM{w:Z}(hp:SP w pb tb T k vars d)(s:Bs)(h:dQ T k s=G)
  (hs:s.all P.digit=G) :
  Calls bbb 49 #[pp pb,aT s] w fun e w'=>e = ah (.bool G)/\w=w':=by
 obtain⟨cap,vv,jF,rT,gn,-⟩:=hp.yW;have h0:=cellOf gn (o:=0) J;obtain⟨t0,t1,-⟩:=hp.toks.at hp.kt;have yX:=hp.tw.kind _ (Ky hp.kt);have xS:=hp.tw.digits _ (Ky hp.kt);have l1:0<T.length-k:=by have:=hp.kt;omega
 have l2:T.length-k<=100000:=by have:=hp.tw.len;omega
 by_cases hx:(tk T k).text=s
 .have ja:(tk T k).kind=0\/(tk T k).kind=2:=by
   simp only[dQ,hx,beq_self_eq_true,Bool.and_true,Bool.or_eq_false_iff,beq_eq_false_iff_ne] at h;grind
  rw[hx] at t1;rcases ja with ja | ja
  .rw[ja] at t0;clear h xS yX ja hx hp;generalize hn:T.length-k=n at *;generalize hm:cap-k=m at *;clear hn hm jF rT gn
   go_enter func49,ntmps49
   go_wp2
   go_ret
   exact⟨J,J⟩
  .rw[ja] at t0;clear h xS yX ja hx hp;generalize hn:T.length-k=n at *;generalize hm:cap-k=m at *;clear hn hm jF rT gn
   go_enter func49,ntmps49
   go_wp2
   go_ret
   exact⟨J,J⟩
 .obtain⟨kd,ja⟩:∃ kd:Int,kd=((tk T k).kind:Int):=⟨_,J⟩;rw[<- ja] at t0;obtain⟨x,xU⟩:=cg ((tk T k).text);rw[<- xU] at t1 hx;clear ja h xS yX xU hp;generalize hn:T.length-k=n at *;generalize hm:cap-k=m at *;clear hn hm jF rT gn
  go_enter func49,ntmps49
  go_wp2
  go_ret
  exact⟨J,J⟩
def Cm(c a:Int)(w:Z)(pb:Nat)(xV:SB w pb) :
  Calls bbb 47 #[zi c,zi a] w fun e w'=>nA c a w w' e/\dc pb w w'/\SB w' pb:=by
 have ll:nA c a w (w.alloc (Obj.cells #[a1I a1O c,a1I a1O a] 77))
   (.panicked [{ v:=aj 73 (pp w.heap.size),recovered:=false }]):=
  ⟨_,J,blk_alloc_new _ _,Nat.le_refl _⟩
 have aBX:SB (w.alloc (Obj.cells #[a1I a1O c,a1I a1O a] 77)) pb:=by
  obtain⟨lv,vv,d,h⟩:=xV;exact⟨lv,vv,d,dX h⟩
 clear xV
 go_enter func47,ntmps47
 go_wp2
 exact⟨J,ll,(bB.refl _ _).alloc _,aBX⟩
