/- A part of one proof (ShT, SBase, GBase, SW1). -/
import Derived.Test.YtoegidfbnkaabaaGreatDoorPkKAD
import Derived.Test.YtoegidfbnkaabaaGreatDoorProg
import Derived.WalkSpells
import Derived.WalkLawsBesides
set_option linter.all false
set_option maxRecDepth 100000
set_option maxHeartbeats 8000000
open Option renaming some → O, none → V
open Go renaming Value → Y, World → Z
open Bool renaming true → A, false → ae
open Go.Obj renaming cells → ah
open Go.Ending renaming returned → ai
open Go.Value renaming nilIface → aj, iface → ak, tuple → aq, pointer → au
open Go.Instr renaming loadAt → a0Q, typeAssert → a0T, makeInterface → a1c, sliceAt → a1p, makeMap → a23, makeSlice → a3x
open Go.Value renaming int → a1a
open Go.IntKind renaming i64 → a1h
open Nat renaming reduceAdd → a2I, reduceLeDiff → a3k, reduceEqDiff → a3l, reduceMul → a3U
open Int renaming reduceToNat → a3w, reduceAdd → a3V, reduceLT → a4f, reduceLE → a4g
open Go.Proofs.Tryz renaming prog → ban
open Go.Proofs.Tryz
namespace Go.Proofs.YtoegidfbnkaabaaGreatDoor
open P
open Go.Proofs.YtoegidfbnkaabaaGreatDoor.Sx
variable{A0 A1 Q JL:Prop}{B b base c cap d e k k' m n o pb tb:Nat}{F:Nat->Prop}{K:Y->Prop}{T:List P.Tok}{X:Y->Z->Prop}{cs:Array Y}{l:Int}{v z:Y}{EH OW:IntKind}{vars:List Bs}{vs xs:List Y}{w w':Z}{y:Operand}
abbrev zR(t e:Nat)(z:Array Y):Prop:=∀ {u:Y} {w:Z} {X:Y->Z->Prop} {K:Y->Z->Prop},WR ban (Instr.alloc t A u) w K X=K (au (O ⟨w.heap.size,0,V⟩)) (w.alloc (ah z e))
def axg:zR 100 100 #[(au V),b9]:=zM (z:=(.agg #[(au V),b9])) zk
def axh:zR 103 103 #[(au V),b9,(au V),(.map V)]:=zM (z:=(.agg #[(au V),b9,(au V),(.map V)])) zk
def axi:zR 108 108 #[(au V)]:=zM (z:=(au V)) zk
def axj:zR 122 122 #[(au V)]:=zM (z:=(au V)) zk
def ajp:zR 142 142 #[(.int .i64 0),(aW []),(.int .i64 0)]:=zM (z:=(.agg #[(.int .i64 0),(aW []),(.int .i64 0)])) zk
def axk:zR 198 198 #[(aW []),(aW []),aj,b9]:=zM (z:=(.agg #[(aW []),(aW []),aj,b9])) zk
def axl:zR 27 27 #[(.int .i64 0)]:=zM (z:=(.int .i64 0)) zk
def axm:zR 3 3 #[(.int .i64 0)]:=zM (z:=(.int .i64 0)) zk
def axn:zR 4 4 #[(.bool ae)]:=zM (z:=(.bool ae)) zk
def axo:zR 57 57 #[aj]:=zM (z:=aj) zk
def axp:zR 68 68 #[b9]:=zM (z:=b9) zk
def axq:zR 73 73 #[(au V)]:=zM (z:=(au V)) zk
def axr:zR 79 79 #[(au V)]:=zM (z:=(au V)) zk
def axs:zR 9 9 #[(aW [])]:=zM (z:=(aW [])) zk
def axt:zR 91 91 #[aj]:=zM (z:=(.agg #[aj])) zk
abbrev su(t:Nat)(l:List (Nat×Nat))(z:Array Y):Prop:=∀ {parts:Array (Nat×Y)} {w:Z} {X:Y->Z->Prop} {K:Y->Prop},RD ban (Instr.build t parts) w K X=VT (EI l z parts.toList) K (F3 ban (Instr.build t parts) w K X)
def axu:su 103 [(0,2),(2,1),(3,1)] #[(au V),b9,(au V),(.map V)]:=si zk
def axv:su 116 [(0,1),(1,2),(3,1),(4,1),(5,1)] #[(au V),b9,(.int .i64 0),(au V),(.int .i64 0),b9]:=si zk
def axw:su 121 [(0,1),(1,1),(2,1),(3,1),(4,1)] #[aj,(au V),.nilFunc,b9,aj]:=si zk
def axx:su 130 [(0,1),(1,2),(3,1),(4,1),(5,1)] #[(.map V),b9,(.int .i64 0),(au V),b9,b9]:=si zk
def axy:su 134 [] #[]:=si zk
def ajq:su 142 [(0,1),(1,1),(2,1)] #[(.int .i64 0),(aW []),(.int .i64 0)]:=si zk
def axz:su 145 [(0,1),(1,1),(2,1)] #[b9,b9,(.int .i64 0)]:=si zk
def ajr:su 149 [(0,1),(1,1),(2,1),(3,1)] #[(.int .u8 0),(aW []),b9,b9]:=si zk
def axA:su 180 [(0,1),(1,1)] #[(aW []),b9]:=si zk
def axB:su 187 [(0,1),(1,1),(2,1)] #[(.map V),(au V),(.int .i64 0)]:=si zk
def axC:su 196 [(0,1),(1,1)] #[(.int .i64 0),b9]:=si zk
def axD:su 198 [(0,1),(1,1),(2,1),(3,1)] #[(aW []),(aW []),aj,b9]:=si zk
def axE:su 203 [(0,1),(1,1),(2,1),(3,1),(4,1)] #[(au V),b9,(.int .i64 0),(au V),(.int .i64 0)]:=si zk
def axF:su 207 [(0,1),(1,1),(2,1),(3,1)] #[(au V),b9,(.int .i64 0),(au V)]:=si zk
def axG:su 213 [(0,1),(1,1),(2,1)] #[(aW []),(.int .i64 0),b9]:=si zk
def axH:su 247 [(0,2),(2,1),(3,1)] #[(.int .i64 0),b9,b9,(.int .i64 0)]:=si zk
def axI:su 342 [(0,1),(1,1),(2,1),(3,1),(4,1)] #[(.int .i64 0),(au V),(.int .i64 0),b9,b9]:=si zk
def axJ:su 356 [(0,1),(1,1),(2,1),(3,1)] #[(.int .i64 0),(au V),b9,b9]:=si zk
def axK:su 72 [(0,1)] #[b9]:=si zk
def axL:su 77 [(0,1),(1,1)] #[(.int .i64 0),(.int .i64 0)]:=si zk
def ajs:su 86 [(0,1),(1,1),(2,1),(3,1)] #[(aW []),b9,(au V),b9]:=si zk
def axM:su 96 [(0,1),(1,1)] #[b9,(.int .i64 0)]:=si zk
abbrev xD(t n e:Nat)(l:List (Nat×Nat))(z:Array Y):Prop:=∀ {parts:Array (Nat×Y)} {w:Z} {X:Y->Z->Prop} {K:Y->Z->Prop},WR ban (Instr.buildSlice t n parts) w K X=VU (EI l z parts.toList) e n w K (WR0 ban (Instr.buildSlice t n parts) w K X)
def axN:xD 114 1 342 [(0,5)] #[(.int .i64 0),(au V),(.int .i64 0),b9,b9]:=xC zk
def axO:xD 128 1 356 [(0,4)] #[(.int .i64 0),(au V),b9,b9]:=xC zk
def ajt:xD 143 1 142 [(0,3)] #[(.int .i64 0),(aW []),(.int .i64 0)]:=xC zk
def axP:xD 192 1 185 [(0,1)] #[(au V)]:=xC zk
def axQ:xD 194 1 198 [(0,4)] #[(aW []),(aW []),aj,b9]:=xC zk
def axR:xD 200 1 20 [(0,1)] #[aj]:=xC zk
def axS:xD 209 1 211 [(0,1)] #[(au V)]:=xC zk
def axT:xD 39 1 9 [(0,1)] #[(aW [])]:=xC zk
def axU:xD 39 2 9 [(0,1),(1,1)] #[(aW []),(aW [])]:=xC zk
def axV:xD 45 1 3 [(0,1)] #[(.int .i64 0)]:=xC zk
def axW:xD 45 2 3 [(0,1),(1,1)] #[(.int .i64 0),(.int .i64 0)]:=xC zk
def aju:xD 68 1 79 [(0,1)] #[(au V)]:=xC zk
def axX:xD 82 1 89 [(0,1)] #[aj]:=xC zk
def axY:xD 94 1 87 [(0,1)] #[(au V)]:=xC zk
def axZ:xD 98 1 5 [(0,1)] #[(.int .u8 0)]:=xC zk
def ax0:xD 98 2 5 [(0,1),(1,1)] #[(.int .u8 0),(.int .u8 0)]:=xC zk
def ax1:xD 98 3 5 [(0,1),(1,1),(2,1)] #[(.int .u8 0),(.int .u8 0),(.int .u8 0)]:=xC zk
def ajv{l:List UInt8}{k:IntKind}{i:Int}(a:0<=i)(b:i<l.length):RD ban (Instr.index 9 (aW l) (.int k i)) w K X=K (.int .u8 ((l.getD i.toNat 0).toNat)):=at1 zk a b
def ax2{k:IntKind}{n:Int}{K:Y->Z->Prop}:WR ban (convert 3 21 (.int k n)) w K X=K (.int .i32 (IntKind.i32.wrap n)) w:=aua zk zk
def ax3{x:Operand}(c:Y):RD ban (bo .eql 57 x (.const c) aj aj) w K X=K (.bool A):=ajc zk c
def ax4{x:Operand}(c:Y):RD ban (bo .eql 89 x (.const c) aj aj) w K X=K (.bool A):=ajc zk c
def ax5{x:Operand}(u:TypeId)(v:Y):RD ban (bo .eql 57 x y (ak u v) aj) w K X=K (.bool ae):=ajb zk u v
def ax6{x:Operand}(u:TypeId)(v:Y):RD ban (bo .eql 89 x y (ak u v) aj) w K X=K (.bool ae):=ajb zk u v
def ax7{x:Operand}(p:Option Nat):RD ban (bo .eql 101 x y (.map p) (.map V)) w K X=K (.bool p.isNone):=awQ zk p
def ax8{x:Operand}(p:Option Addr):RD ban (bo .eql 113 x y (.pointer p) (au V)) w K X=K (.bool p.isNone):=Mm zk p
def ax9{x:Operand}(p:Option Addr):RD ban (bo .eql 127 x y (.pointer p) (au V)) w K X=K (.bool p.isNone):=Mm zk p
def aya{x:Operand}(p:Option Addr):RD ban (bo .eql 185 x y (.pointer p) (au V)) w K X=K (.bool p.isNone):=Mm zk p
def ayb{x:Operand}(p:Option Addr):RD ban (bo .eql 30 x y (.pointer p) (au V)) w K X=K (.bool p.isNone):=Mm zk p
def ayc{x:Operand}(p:Option Addr):RD ban (bo .eql 35 x y (.pointer p) (au V)) w K X=K (.bool p.isNone):=Mm zk p
def ayd{x:Operand}(p:Option Addr):RD ban (bo .eql 84 x y (.pointer p) (au V)) w K X=K (.bool p.isNone):=Mm zk p
def aye{x:Operand}(p:Option Addr):RD ban (bo .eql 87 x y (.pointer p) (au V)) w K X=K (.bool p.isNone):=Mm zk p
def ayf{x:Operand}(p:Option Addr)(n c:Nat):RD ban (bo .eql 192 x y (.slice p n c) b9) w K X=K (.bool p.isNone):=aja zk p n c
def ayg{x:Operand}(p:Option Addr)(n c:Nat):RD ban (bo .eql 68 x y (.slice p n c) b9) w K X=K (.bool p.isNone):=aja zk p n c
abbrev fI(t f d:Nat):Prop:=∀ {b o:Nat} {w:Z} {X:Y->Z->Prop} {K:Y->Prop},RD ban (Instr.fieldAt t (au (O ⟨b,o,V⟩)) f) w K X=K (au (O ⟨b,o+d,V⟩))
def ayh:fI 100 1 1:=fG zk
def ayi:fI 103 0 0:=fG zk
def ayj:fI 103 1 2:=fG zk
def ayk:fI 103 2 3:=fG zk
def ayl:fI 116 0 0:=fG zk
def aym:fI 116 1 1:=fG zk
def ayn:fI 116 2 3:=fG zk
def ayo:fI 116 3 4:=fG zk
def ayp:fI 116 4 5:=fG zk
def ayq:fI 121 0 0:=fG zk
def ayr:fI 121 1 1:=fG zk
def ays:fI 121 2 2:=fG zk
def ayt:fI 121 3 3:=fG zk
def ayu:fI 121 4 4:=fG zk
def ayv:fI 130 0 0:=fG zk
def ayw:fI 130 1 1:=fG zk
def ayx:fI 130 2 3:=fG zk
def ayy:fI 130 3 4:=fG zk
def ayz:fI 130 4 5:=fG zk
def ajw:fI 142 0 0:=fG zk
def ajx:fI 142 1 1:=fG zk
def ajy:fI 142 2 2:=fG zk
def ajz:fI 145 0 0:=fG zk
def ajA:fI 145 1 1:=fG zk
def ayA:fI 149 0 0:=fG zk
def ayB:fI 149 1 1:=fG zk
def ayC:fI 149 2 2:=fG zk
def ayD:fI 149 3 3:=fG zk
def ayE:fI 178 0 0:=fG zk
def ayF:fI 178 1 1:=fG zk
def ayG:fI 178 2 2:=fG zk
def ayH:fI 178 3 3:=fG zk
def ayI:fI 178 4 4:=fG zk
def ayJ:fI 180 0 0:=fG zk
def ayK:fI 180 1 1:=fG zk
def ayL:fI 187 0 0:=fG zk
def ayM:fI 187 1 1:=fG zk
def ayN:fI 187 2 2:=fG zk
def ayO:fI 196 0 0:=fG zk
def ayP:fI 196 1 1:=fG zk
def ayQ:fI 198 0 0:=fG zk
def ayR:fI 198 1 1:=fG zk
def ayS:fI 198 2 2:=fG zk
def ayT:fI 198 3 3:=fG zk
def ayU:fI 203 0 0:=fG zk
def ayV:fI 203 1 1:=fG zk
def ayW:fI 203 2 2:=fG zk
def ayX:fI 203 3 3:=fG zk
def ayY:fI 203 4 4:=fG zk
def ayZ:fI 207 0 0:=fG zk
def ay0:fI 207 1 1:=fG zk
def ay1:fI 207 2 2:=fG zk
def ay2:fI 207 3 3:=fG zk
def ay3:fI 213 0 0:=fG zk
def ay4:fI 213 1 1:=fG zk
def ay5:fI 213 2 2:=fG zk
def ay6:fI 247 0 0:=fG zk
def ay7:fI 247 1 2:=fG zk
def ay8:fI 247 2 3:=fG zk
def ay9:fI 342 0 0:=fG zk
def aza:fI 342 1 1:=fG zk
def azb:fI 342 2 2:=fG zk
def azc:fI 342 3 3:=fG zk
def azd:fI 342 4 4:=fG zk
def aze:fI 356 0 0:=fG zk
def azf:fI 356 1 1:=fG zk
def azg:fI 356 2 2:=fG zk
def azh:fI 356 3 3:=fG zk
def azi:fI 72 0 0:=fG zk
def azj:fI 77 0 0:=fG zk
def azk:fI 77 1 1:=fG zk
def azl:fI 86 0 0:=fG zk
def ajB:fI 86 1 1:=fG zk
def ajC:fI 86 2 2:=fG zk
def ajD:fI 86 3 3:=fG zk
def azm:fI 91 0 0:=fG zk
def azn:fI 96 0 0:=fG zk
def azo:fI 96 1 1:=fG zk
abbrev zU(t n:Nat):Prop:=∀ {b o len cap:Nat} {k:IntKind} {i:Int} {w:Z} {X:Y->Z->Prop} {K:Y->Prop},0<=i->i<len->RD ban (Instr.indexAt t (.slice (O ⟨b,o,V⟩) len cap) (.int k i)) w K X=K (au (O ⟨b,o+i.toNat*n,V⟩))
def azp:zU 114 5:=fun a b=>zP zk a b
def azq:zU 128 4:=fun a b=>zP zk a b
def ajE:zU 143 3:=fun a b=>zP zk a b
def azr:zU 147 1:=fun a b=>zP zk a b
def azs:zU 192 1:=fun a b=>zP zk a b
def azt:zU 194 4:=fun a b=>zP zk a b
def azu:zU 200 1:=fun a b=>zP zk a b
def azv:zU 209 1:=fun a b=>zP zk a b
def azw:zU 39 1:=fun a b=>zP zk a b
def azx:zU 45 1:=fun a b=>zP zk a b
def azy:zU 68 1:=fun a b=>zP zk a b
def azz:zU 82 1:=fun a b=>zP zk a b
def azA:zU 83 1:=fun a b=>zP zk a b
def azB:zU 94 1:=fun a b=>zP zk a b
def azC:zU 98 1:=fun a b=>zP zk a b
abbrev kf(t:Nat):Prop:=∀ {b o:Nat} {w:Z} {X:Y->Z->Prop} {K:Y->Prop},RD ban (a0Q t (au (O ⟨b,o,V⟩))) w K X=VS (w.heap[b]?) o K (F3 ban (a0Q t (au (O ⟨b,o,V⟩))) w K X)
def azD:kf 101:=ke zk
def azE:kf 106:=ke zk
def azF:kf 108:=ke zk
def azG:kf 113:=ke zk
def azH:kf 114:=ke zk
def azI:kf 117:=ke zk
def azJ:kf 119:=ke zk
def azK:kf 122:=ke zk
def azL:kf 125:=ke zk
def azM:kf 127:=ke zk
def azN:kf 128:=ke zk
def ajF:kf 140:=ke zk
def ajG:RD ban (a0Q 142 (au (O ⟨b,o,V⟩))) w K X=Mj (w.heap[b]?) o 3 K (F3 ban (a0Q 142 (au (O ⟨b,o,V⟩))) w K X):=aaq zk
def ajH:kf 143:=ke zk
def azO:kf 147:=ke zk
def azP:kf 184:=ke zk
def azQ:kf 185:=ke zk
def azR:kf 192:=ke zk
def azS:kf 194:=ke zk
def azT:RD ban (a0Q 198 (au (O ⟨b,o,V⟩))) w K X=Mj (w.heap[b]?) o 4 K (F3 ban (a0Q 198 (au (O ⟨b,o,V⟩))) w K X):=aaq zk
def azU:kf 2:=ke zk
def azV:kf 20:=ke zk
def azW:kf 200:=ke zk
def azX:kf 201:=ke zk
def azY:kf 211:=ke zk
def azZ:kf 245:=ke zk
def ajI:RD ban (a0Q 256 (au (O ⟨b,o,V⟩))) w K X=Mj (w.heap[b]?) o 23 K (F3 ban (a0Q 256 (au (O ⟨b,o,V⟩))) w K X):=aaq zk
def az0:kf 27:=ke zk
def ajJ:kf 3:=ke zk
def az1:kf 35:=ke zk
def ajK:kf 39:=ke zk
def az2:kf 4:=ke zk
def az3:kf 45:=ke zk
def az4:kf 5:=ke zk
def az5:kf 57:=ke zk
def az6:kf 68:=ke zk
def az7:kf 73:=ke zk
def az8:kf 79:=ke zk
def az9:kf 82:=ke zk
def aAa:kf 83:=ke zk
def aAb:kf 84:=ke zk
def aAc:kf 87:=ke zk
def aAd:kf 89:=ke zk
def ajL:kf 9:=ke zk
def aAe:kf 93:=ke zk
def aAf:kf 94:=ke zk
def aAg:kf 98:=ke zk
abbrev AU(t:Nat):Prop:=∀ {a:Option Addr} {n c:Nat} {w:Z} {X:Y->Z->Prop} {K:Y->Prop},RD ban (Builtin.len_ #[t] 3 #[.slice a n c]) w K X=K (.int .i64 n)
def aAh:AU 114:=AR (e:=342) zk
def aAi:AU 128:=AR (e:=356) zk
def aAj:AU 147:=AR (e:=84) zk
def aAk:AU 192:=AR (e:=185) zk
def aAl:AU 194:=AR (e:=198) zk
def aAm:AU 200:=AR (e:=20) zk
def aAn:AU 209:=AR (e:=211) zk
def aAo:AU 39:=AR (e:=9) zk
def aAp:AU 45:=AR (e:=3) zk
def ajM:AU 68:=AR (e:=79) zk
def aAq:AU 82:=AR (e:=89) zk
def aAr:AU 83:=AR (e:=106) zk
def ajN{l:List UInt8}:RD ban (Builtin.len_ #[9] 3 #[aW l]) w K X=K (.int .i64 l.length):=at0 zk
def aAs:AU 94:=AR (e:=87) zk
def aAt:AU 98:=AR (e:=5) zk
def aAu{K:Y->Z->Prop}:WR ban (a1c 111 v) w K X=K (ak 111 v) w:=Dl zk
def aAv{K:Y->Z->Prop}:WR ban (a1c 122 v) w K X=K (ak 122 v) w:=Dl zk
def aAw{K:Y->Z->Prop}:WR ban (a1c 134 v) w K X=K (ak 134 v) w:=Dl zk
def aAx{K:Y->Z->Prop}:WR ban (a1c 171 v) w K X=K (ak 171 v) w:=Dl zk
def aAy{K:Y->Z->Prop}:WR ban (a1c 172 v) w K X=K (ak 172 v) w:=Dl zk
def aAz{K:Y->Z->Prop}:WR ban (a1c 175 v) w K X=K (ak 175 v) w:=Dl zk
def aAA{K:Y->Z->Prop}:WR ban (a1c 201 v) w K X=K (ak 201 v) w:=Dl zk
def aAB{K:Y->Z->Prop}:WR ban (a1c 27 v) w K X=K (ak 27 v) w:=Dl zk
def aAC{K:Y->Z->Prop}:WR ban (a1c 73 v) w K X=K (ak 73 v) w:=Dl zk
def aAD{K:Y->Z->Prop}:WR ban (a1c 75 v) w K X=K (ak 75 v) w:=Dl zk
def aAE{K:Y->Z->Prop}:WR ban (a1c 78 v) w K X=K (ak 78 v) w:=Dl zk
def aAF{K:Y->Z->Prop}:WR ban (a1c 87 v) w K X=K (ak 87 v) w:=Dl zk
def aAG{K:Y->Z->Prop}:WR ban (a23 101 V) w K X=K (.map (O w.heap.size)) (w.alloc (.map #[] 0)):=RY
def aAH{K:Y->Z->Prop}:WR ban (a23 125 V) w K X=K (.map (O w.heap.size)) (w.alloc (.map #[] 0)):=RY
def aAI{K:Y->Z->Prop}:WR ban (a23 184 V) w K X=K (.map (O w.heap.size)) (w.alloc (.map #[] 0)):=RY
def aAJ{K:Y->Z->Prop}:WR ban (a23 210 V) w K X=K (.map (O w.heap.size)) (w.alloc (.map #[] 0)):=RY
def aAK{K:Y->Z->Prop}:WR ban (a23 240 V) w K X=K (.map (O w.heap.size)) (w.alloc (.map #[] 0)):=RY
def aAL{K:Y->Z->Prop}(a:n<=m)(hm:m<=1000000):WR ban (a3x 200 (.int EH n) (.int OW m)) w K X=K (cU w.heap.size n m) (w.alloc (ah (madeCells #[aj] (m*1)) 20)):=abe (z:=aj) (by_:=16) zk a zd hm
def aAM{K:Y->Z->Prop}(a:n<=m)(hm:m<=1000000):WR ban (a3x 45 (.int EH n) (.int OW m)) w K X=K (cU w.heap.size n m) (w.alloc (ah (madeCells #[(.int .i64 0)] (m*1)) 3)):=abe (z:=(.int .i64 0)) (by_:=8) zk a zd hm
def aAN{K:Y->Z->Prop}(a:n<=m)(hm:m<=1000000):WR ban (a3x 82 (.int EH n) (.int OW m)) w K X=K (cU w.heap.size n m) (w.alloc (ah (madeCells #[aj] (m*1)) 89)):=abe (z:=aj) (by_:=16) zk a zd hm
def aAO{x:Operand}(c:Y):RD ban (bo .neq 57 x (.const c) aj aj) w K X=K (.bool ae):=awS zk c
def aAP{x:Operand}(u:TypeId)(v:Y):RD ban (bo .neq 57 x y (ak u v) aj) w K X=K (.bool A):=awR zk u v
def aAQ{x:Operand}(p:Option Addr):RD ban (bo .neq 113 x y (.pointer p) (au V)) w K X=K (.bool !p.isNone):=aa8 zk p
def aAR{x:Operand}(p:Option Addr):RD ban (bo .neq 185 x y (.pointer p) (au V)) w K X=K (.bool !p.isNone):=aa8 zk p
def aAS{x:Operand}(p:Option Addr):RD ban (bo .neq 35 x y (.pointer p) (au V)) w K X=K (.bool !p.isNone):=aa8 zk p
def aAT{x:Operand}(p:Option Addr)(n c:Nat):RD ban (bo .neq 39 x y (.slice p n c) b9) w K X=K (.bool !p.isNone):=awP zk p n c
def aAU{a:Option Addr}{k:IntKind}(b:0<=l)(c:l<=cap):RD ban (a1p 114 (.slice a pb cap) V (O (.int k l)) V) w K X=K (sliced a 0 l.toNat cap 5):=RQ zk b c
def aAV{a:Option Addr}{k:IntKind}(b:0<=l)(c:l<=cap):RD ban (a1p 128 (.slice a pb cap) V (O (.int k l)) V) w K X=K (sliced a 0 l.toNat cap 4):=RQ zk b c
def aAW{a:Option Addr}{k:IntKind}(b:0<=l)(c:l<=cap):RD ban (a1p 200 (.slice a pb cap) V (O (.int k l)) V) w K X=K (sliced a 0 l.toNat cap 1):=RQ zk b c
def aAX{a:Option Addr}{k:IntKind}(b:0<=l)(c:l<=cap):RD ban (a1p 39 (.slice a pb cap) V (O (.int k l)) V) w K X=K (sliced a 0 l.toNat cap 1):=RQ zk b c
def aAY{a:Option Addr}{k:IntKind}(b:0<=l)(c:l<=cap):RD ban (a1p 94 (.slice a pb cap) V (O (.int k l)) V) w K X=K (sliced a 0 l.toNat cap 1):=RQ zk b c
def ajO{a:Option Addr}{k:IntKind}(b:0<=l)(c:l<=pb):RD ban (a1p 143 (.slice a pb cap) (O (.int k l)) V V) w K X=K (sliced a l.toNat pb cap 3):=OR zk b c
def aAZ{a:Option Addr}{k:IntKind}(b:0<=l)(c:l<=pb):RD ban (a1p 192 (.slice a pb cap) (O (.int k l)) V V) w K X=K (sliced a l.toNat pb cap 1):=OR zk b c
def aA0{a:Option Addr}{k:IntKind}(b:0<=l)(c:l<=pb):RD ban (a1p 39 (.slice a pb cap) (O (.int k l)) V V) w K X=K (sliced a l.toNat pb cap 1):=OR zk b c
def aA1{a:Option Addr}{k:IntKind}(b:0<=l)(c:l<=pb):RD ban (a1p 45 (.slice a pb cap) (O (.int k l)) V V) w K X=K (sliced a l.toNat pb cap 1):=OR zk b c
def aA2{a:Option Addr}{k:IntKind}(b:0<=l)(c:l<=pb):RD ban (a1p 68 (.slice a pb cap) (O (.int k l)) V V) w K X=K (sliced a l.toNat pb cap 1):=OR zk b c
def ajP{s:List UInt8}{k:IntKind}(a:0<=l)(b:l<=s.length):RD ban (a1p 9 (aW s) (O (.int k l)) V V) w K X=K (aW (s.drop l.toNat)):=at6 zk a b
def aA3{a:Option Addr}{k:IntKind}(b:0<=l)(c:l<=pb):RD ban (a1p 94 (.slice a pb cap) (O (.int k l)) V V) w K X=K (sliced a l.toNat pb cap 1):=OR zk b c
def ajQ{s:List UInt8}{k:IntKind}{m:Int}(a:0<=l)(b:l<=m)(c:m<=s.length):RD ban (a1p 9 (aW s) (O (.int k l)) (O (.int EH m)) V) w K X=K (aW ((s.take m.toNat).drop l.toNat)):=at7 zk a b c
abbrev nZ(t n:Nat):Prop:=∀ {b o:Nat} {w:Z} {X:Y->Z->Prop} {K:Z->Prop} (v:Y),WU ban (Instr.storeAt t (au (O ⟨b,o,V⟩)) v) w K X=RO (w.heap[b]?) w b o n v K (WU0 ban (Instr.storeAt t (au (O ⟨b,o,V⟩)) v) w K X)
def aA4:nZ 101 1:=fun v=>nY zk v
def aA5:nZ 103 4:=fun v=>nY zk v
def aA6:nZ 108 1:=fun v=>nY zk v
def aA7:nZ 113 1:=fun v=>nY zk v
def aA8:nZ 114 1:=fun v=>nY zk v
def aA9:nZ 122 1:=fun v=>nY zk v
def aBa:nZ 127 1:=fun v=>nY zk v
def aBb:nZ 128 1:=fun v=>nY zk v
def ajR:nZ 142 3:=fun v=>nY zk v
def ajS:nZ 143 1:=fun v=>nY zk v
def aBc:nZ 185 1:=fun v=>nY zk v
def aBd:nZ 192 1:=fun v=>nY zk v
def aBe:nZ 194 1:=fun v=>nY zk v
def aBf:nZ 198 4:=fun v=>nY zk v
def aBg:nZ 20 1:=fun v=>nY zk v
def aBh:nZ 3 1:=fun v=>nY zk v
def ajT:nZ 39 1:=fun v=>nY zk v
def aBi:nZ 4 1:=fun v=>nY zk v
def aBj:nZ 45 1:=fun v=>nY zk v
def aBk:nZ 57 1:=fun v=>nY zk v
def aBl:nZ 68 1:=fun v=>nY zk v
def aBm:nZ 79 1:=fun v=>nY zk v
def aBn:nZ 82 1:=fun v=>nY zk v
def ajU:nZ 83 1:=fun v=>nY zk v
def ajV:nZ 84 1:=fun v=>nY zk v
def aBo:nZ 89 1:=fun v=>nY zk v
def aBp:nZ 9 1:=fun v=>nY zk v
def aBq:nZ 94 1:=fun v=>nY zk v
def aBr:nZ 98 1:=fun v=>nY zk v
def aBs(t:TypeId)(v:Y):RD ban (a0T (ak t v) 20 201 A) w K X=if t=201 then K (aq #[v,.bool A]) else K (aq #[(.int .i64 0),.bool ae]):=RW zk zk t v
def aBt(t:TypeId)(v:Y):RD ban (a0T (ak t v) 89 171 A) w K X=if t=171 then K (aq #[v,.bool A]) else K (aq #[(aW []),.bool ae]):=RW zk zk t v
def aBu(t:TypeId)(v:Y):RD ban (a0T (ak t v) 89 172 A) w K X=if t=172 then K (aq #[v,.bool A]) else K (aq #[(.int .i64 0),.bool ae]):=RW zk zk t v
def aBv(t:TypeId)(v:Y):RD ban (a0T (ak t v) 89 175 A) w K X=if t=175 then K (aq #[v,.bool A]) else K (aq #[(au V),.bool ae]):=RW zk zk t v
def aBw(t:TypeId)(v:Y):RD ban (a0T (ak t v) 89 87 A) w K X=if t=87 then K (aq #[v,.bool A]) else K (aq #[(au V),.bool ae]):=RW zk zk t v
def aBx:RD ban (a0T aj 20 201 A) w K X=K (aq #[(.int .i64 0),.bool ae]):=RX zk zk
def aBy:RD ban (a0T aj 89 171 A) w K X=K (aq #[(aW []),.bool ae]):=RX zk zk
def aBz:RD ban (a0T aj 89 172 A) w K X=K (aq #[(.int .i64 0),.bool ae]):=RX zk zk
def aBA:RD ban (a0T aj 89 175 A) w K X=K (aq #[(au V),.bool ae]):=RX zk zk
def aBB:RD ban (a0T aj 89 87 A) w K X=K (aq #[(au V),.bool ae]):=RX zk zk
def ajW{k:IntKind}{i:Int}(a:0<=i)(b:i<23):RD ban (Instr.index 256 (.agg cs) (.int k i)) w K X=RU cs i K (F3 ban (Instr.index 256 (.agg cs) (.int k i)) w K X):=awT (e:=9) zk zk a b
def zB := (zA zG0 (zA @axL (zA @aAC (zA @ajp (zA @ajq (zA @ajv (zA @ajG (zA @ajN (zA @ajR (zA @ajt (zA @ajI (zA @ajP (zA @ajQ (zA @ajW (zA @ajr (zA @ajs (zA @aju (zA @ajw (zA @ajx (zA @ajy (zA @ajz (zA @ajA (zA @ajB (zA @ajC (zA @ajD (zA @ajE (zA @ajF (zA @ajH (zA @ajJ (zA @ajK (zA @ajL (zA @ajM (zA @ajO (zA @ajS (zA @ajT (zA @ajU (zA @ajV (zA @axo (zA @axp (zA @axz (zA @az5 (zA @az6 (zA @aBk (zA @aBl (zA @axr (zA @az8 (zA @aBm (zA @axK (zA @aAO (zA @aAP (zA @axl (zA @axq (zA @ax3 (zA @ax5 (zA @azj (zA @azk (zA @az0 (zA @az7 (zA @aAD (zA @aAE (zA @ayh (zA @aAg (zA @aBr (zA @axZ (zA @ax4 (zA @ax6 (zA @azm (zA @aAd (zA @aBw (zA @aBB (zA @axy (zA @azo (zA @aAw (zA @aBh (zA @azn (zA @aAf (zA @aAs (zA @axY (zA @aBo (zA @aBq (zA @azB (zA @aAc (zA @aAY (zA @aA3 (zA @ax7 (zA @ayi (zA @ayj (zA @ayk (zA @azD (zA @aAe (zA @aAG (zA @aA4 (zA @aBt (zA @aBu (zA @aBv (zA @aBy (zA @aBz (zA @aBA (zA @ayJ (zA @ayK (zA @azz (zA @az9 (zA @aAq (zA @aye (zA @aAF (zA @aAB (zA @aAy (zA @axA (zA @axX (zA @ayE (zA @ayF (zA @ayG (zA @ayH (zA @ayI (zA @azA (zA @azE (zA @azU (zA @az4 (zA @aAa (zA @aAr (zA @aAx (zA @aAz (zA @aBn (zA @axJ (zA @axO (zA @ayw (zA @ayy (zA @azN (zA @aBb (zA @axt (zA @aAN (zA @axF (zA @ayx (zA @azg (zA @azq (zA @azy (zA @aAb (zA @aAo (zA @aAV (zA @aA2 (zA @aBa (zA @ax2 (zA @ayg (zA @ayv (zA @ayB (zA @ayC (zA @azL (zA @azM (zA @aAi (zA @ayd (zA @ayA (zA @ayD (zA @ayZ (zA @ay0 (zA @ay1 (zA @azr (zA @azO (zA @aAj (zA @ax9 (zA @ay2 (zA @aze (zA @azf (zA @azh (zA @azl (zA @aAH (zA @axx (zA @ayz (zA @aAt (zA @axs (zA @axu (zA @ayq (zA @ayr (zA @ays (zA @ayt (zA @ayu (zA @azw (zA @azI (zA @azJ (zA @az1 (zA @aAT (zA @aBp (zA @azK (zA @axj (zA @axw (zA @azi (zA @aAv (zA @aAS (zA @aA9 (zA @ayn (zA @ayT (zA @ayV (zA @azu (zA @azx (zA @azG (zA @azV (zA @azW (zA @az3 (zA @axE (zA @axI (zA @axN (zA @aym (zA @ayo (zA @ayp (zA @ayO (zA @azs (zA @azH (zA @azQ (zA @aAk (zA @aAm (zA @aAL (zA @aAU (zA @aAZ (zA @aA7 (zA @aA8 (zA @ayf (zA @ay9 (zA @aza (zA @azb (zA @azc (zA @azd (zA @azp (zA @azR (zA @aAh (zA @ayR (zA @aAp (zA @aA1 (zA @aBg (zA @axR (zA @ayl (zA @ayL (zA @azF (zA @azP (zA @ax8 (zA @ayQ (zA @ayS (zA @ayW (zA @ayX (zA @ayY (zA @azX (zA @aAA (zA @aBs (zA @aBx (zA @ayM (zA @ayP (zA @ayU (zA @azt (zA @azS (zA @aAl (zA @aAQ (zA @aAR (zA @axv (zA @ayN (zA @aAW (zA @ax0 (zA @ax1 (zA @aAK (zA @ay6 (zA @axD (zA @axQ (zA @aBe (zA @axV (zA @axW (zA @ay7 (zA @axm (zA @azZ (zA @axH (zA @ay8 (zA @aAM (zA @axh (zA @axk (zA @axM (zA @axT (zA @azC (zA @azT (zA @aA5 (zA @aBf (zA @axg (zA @axU (zA @ay3 (zA @ay4 (zA @ay5 (zA @azv (zA @azY (zA @aAn (zA @axn (zA @axG (zA @axP (zA @axS (zA @az2 (zA @aAJ (zA @aBd (zA @aBi (zA @aA0 (zA @aBj (zA @axi (zA @axB (zA @axC (zA @aya (zA @aAI (zA @aAX (zA @aA6 (zA @aBc (zA @aAu (zA @ayb @ayc))))))))))))))))))))))))))))))))))))))))))))))))))))))))))))))))))))))))))))))))))))))))))))))))))))))))))))))))))))))))))))))))))))))))))))))))))))))))))))))))))))))))))))))))))))))))))))))))))))))))))))))))))))))))))))))))))))))))))))))))))))))))))))))))))))))))))))))))))))))))))))))))))))))))))))))))
def bF {P : Prop} (k : Q) (t : Q -> P := by intro  a; simp (disch:=first|assumption|omega|simp only[zS]<;>omega|decide) only[zB,simprocAttr,lp]; exact a) : P := t k
def eS {P : Prop} (t : P := by simp (disch:=first|assumption|omega|simp only[zS]<;>omega|decide) only[zB,simprocAttr,lp]) : P := t
def cM {P:Prop} (a : A0) (k : Q) (t : A0 -> Q -> P := by intro a b; simp (disch:=first|assumption|omega|simp only[zS]<;>omega|decide) only[zB,simprocAttr,lp, a]; exact b) : P := t a k
def fj {P:Prop} (a : A0) (t : A0 -> P := by intro a; simp (disch:=first|assumption|omega|simp only[zS]<;>omega|decide) only[zB,simprocAttr,lp, a]) : P := t a
def dB {P:Prop} (a : A0) (b : A1) (k : Q) (t : A0 -> A1 -> Q -> P := by intro a b c; simp (disch:=first|assumption|omega|simp only[zS]<;>omega|decide) only[zB,simprocAttr,lp, a, b]; exact c) : P := t a b k
def lW {P:Prop} (a : A0) (b : A1) (t : A0 -> A1 -> P := by intro a b; simp (disch:=first|assumption|omega|simp only[zS]<;>omega|decide) only[zB,simprocAttr,lp, a, b]) : P := t a b
def jt {P:Prop} (a : A0) (b : A1) (c : JL) (k : Q) (t : A0 -> A1 -> JL -> Q -> P := by intro a b c d; simp (disch:=first|assumption|omega|simp only[zS]<;>omega|decide) only[zB,simprocAttr,lp, a, b, c]; exact d) : P := t a b c k
def JM {P:Prop} (a : A0) (b : A1) (c : JL) (t : A0 -> A1 -> JL -> P := by intro a b c; simp (disch:=first|assumption|omega|simp only[zS]<;>omega|decide) only[zB,simprocAttr,lp, a, b, c]) : P := t a b c
def dL {e P:Prop} (a : A0) (b : A1) (c : JL) (d : e) (k : Q) (t : A0 -> A1 -> JL -> e -> Q -> P := by intro a b c d f; simp (disch:=first|assumption|omega|simp only[zS]<;>omega|decide) only[zB,simprocAttr,lp, a, b, c, d]; exact f) : P := t a b c d k
def AV {e P:Prop} (a : A0) (b : A1) (c : JL) (d : e) (t : A0 -> A1 -> JL -> e -> P := by intro a b c d; simp (disch:=first|assumption|omega|simp only[zS]<;>omega|decide) only[zB,simprocAttr,lp, a, b, c, d]) : P := t a b c d
def JO {P : Prop} (k : Q) (t : Q -> P := by intro  a; simp (disch:=first|assumption|omega|simp only[zS]<;>omega|decide) only[zB,Nat.reduceAdd,Nat.reduceMul,Nat.reduceLeDiff,Nat.reduceEqDiff,Int.reduceToNat,Int.reduceAdd,Int.reduceLT,Int.reduceLE,↓reduceIte,lp]; exact a) : P := t k
def yE {P:Prop} (a : A0) (k : Q) (t : A0 -> Q -> P := by intro a b; simp (disch:=first|assumption|omega|simp only[zS]<;>omega|decide) only[zB,Nat.reduceAdd,Nat.reduceMul,Nat.reduceLeDiff,Nat.reduceEqDiff,Int.reduceToNat,Int.reduceAdd,Int.reduceLT,Int.reduceLE,↓reduceIte,lp, a]; exact b) : P := t a k
def abi {P:Prop} (a : A0) (t : A0 -> P := by intro a; simp (disch:=first|assumption|omega|simp only[zS]<;>omega|decide) only[zB,Nat.reduceAdd,Nat.reduceMul,Nat.reduceLeDiff,Nat.reduceEqDiff,Int.reduceToNat,Int.reduceAdd,Int.reduceLT,Int.reduceLE,↓reduceIte,lp, a]) : P := t a
open Go.RowKit
def fO(F:Nat->Prop)(w:Z)(a:TypeId)(v:Y)(vs:List Y):Prop:=
 (vs=[]/\v = b9) \/
 ∃ b cs,v = cU b vs.length cs.size/\F b/\w.heap[b]?=aP cs a/\vs.length<=cs.size/\cs.toList.take vs.length=vs
theorem fO.mono{F':Nat->Prop}{a:TypeId}(h:fO F w a v vs)
  (c:∀ b,F b->F' b) (hw:∀ b cs,F b->w.heap[b]?=aP cs a->w'.heap[b]?=aP cs a):fO F' w' a v vs:=by
 rcases h with h | ⟨b,cs,d,e,f,g⟩
 .exact .inl h
 .exact .inr zg
mutual
def eR (F:Nat->Prop) (w:Z) (v:Y):Ex->Prop
 | .mk kind name n k args=>∃ b av vs,v = au (O ⟨b,0,V⟩)/\F b /\
  w.heap[b]?=aP #[.int .u8 kind,aW name,zi n,zi k,av] 178 /\
  fO F w 106 av vs/\eT F w vs args
 termination_by structural x=>x
def eT (F:Nat->Prop) (w:Z) (vs:List Y):List Ex->Prop
 | []=>vs=[]
 | x::xs=>∃ v r,vs=v::r/\eR F w v x/\eT F w r xs
 termination_by structural x=>x
end
def Dt:Obj->Prop
 | ah _ t z=>(t=178\/t=106\/t=149\/t=84)/\z=(0,0)
 | _=>False
mutual
theorem eR.mono {F F':Nat->Prop} {w w':Z} (a:∀ b,F b->F' b) (hw:∀ b o,F b->Dt o->w.heap[b]?=O o->w'.heap[b]?=O o) :
  ∀ (x:Ex) (v:Y),eR F w v x->eR F' w' v x
 | .mk kind name n k args,v,h=>by
  unfold eR at h ⊢;obtain⟨b,av,vs,d,c,e,f,g⟩:=h;exact⟨b,av,vs,d,a b c,hw b _ c ⟨.inl J,J⟩ e,f.mono a fun b cs i j=>hw b _ i ⟨zg,J⟩ j,eT.mono a hw args vs g⟩
 termination_by structural x=>x
theorem eT.mono {F F':Nat->Prop} {w w':Z} (a:∀ b,F b->F' b) (hw:∀ b o,F b->Dt o->w.heap[b]?=O o->w'.heap[b]?=O o) :
  ∀ (l:List Ex) (vs:List Y),eT F w vs l->eT F' w' vs l
 | [],vs,h=>by grind [eT]
 | x::xs,vs,h=>by
  unfold eT at h ⊢;obtain⟨v,r,d,c,e⟩:=h;exact⟨v,r,d,eR.mono a hw x v c,eT.mono a hw xs r e⟩
 termination_by structural x=>x
end
mutual
def dM (F:Nat->Prop) (w:Z) (v:Y):Bd->Prop
 | .mk kind name args parts=>∃ b av a vs us,v = au (O ⟨b,0,V⟩)/\F b /\
  w.heap[b]?=aP #[.int .u8 kind,aW name,av,a] 149 /\
  fO F w 106 av vs/\eT F w vs args/\fO F w 84 a us/\gF F w us parts
 termination_by structural x=>x
def gF (F:Nat->Prop) (w:Z) (vs:List Y):List Bd->Prop
 | []=>vs=[]
 | x::xs=>∃ v r,vs=v::r/\dM F w v x/\gF F w r xs
 termination_by structural x=>x
end
mutual
theorem dM.mono {F F':Nat->Prop} {w w':Z} (a:∀ b,F b->F' b) (hw:∀ b o,F b->Dt o->w.heap[b]?=O o->w'.heap[b]?=O o) :
  ∀ (x:Bd) (v:Y),dM F w v x->dM F' w' v x
 | .mk kind name args parts,v,h=>by
  unfold dM at h ⊢;obtain⟨b,av,i,vs,us,d,c,e,j,n,k,m⟩:=h;exact⟨b,av,i,vs,us,d,a b c,hw b _ c ⟨zg,J⟩ e,j.mono a fun b cs f g=>hw b _ f ⟨zg,J⟩ g,
   (by grind [eT.mono]),k.mono a fun b cs f g=>hw b _ f ⟨zg,J⟩ g,gF.mono a hw parts us m⟩
 termination_by structural x=>x
theorem gF.mono {F F':Nat->Prop} {w w':Z} (a:∀ b,F b->F' b) (hw:∀ b o,F b->Dt o->w.heap[b]?=O o->w'.heap[b]?=O o) :
  ∀ (l:List Bd) (vs:List Y),gF F w vs l->gF F' w' vs l
 | [],vs,h=>by grind [gF]
 | x::xs,vs,h=>by
  unfold gF at h ⊢;obtain⟨v,r,d,c,e⟩:=h;exact⟨v,r,d,dM.mono a hw x v c,gF.mono a hw xs r e⟩
 termination_by structural x=>x
end
structure TW(T:List P.Tok):Prop where
 len:T.length<=2001
 last:∃ l t,T=l++[t]/\t.kind=0/\∀ u∈l,u.kind≠0
 kind:∀ u∈T,u.kind<=4
 digits:∀ u∈T,u.kind=3->u.text≠[]/\u.text.all P.digit=A/\u.text.length<=9
 words:∀ u∈T,u.kind=1->∃ c r,u.text=c::r/\P.cls c=115
 vars:∀ u∈T,u.kind=2->u.text≠[]
def TW.pos(h:TW T):0<T.length:=by
 obtain⟨l,t,rfl,_⟩:=h.last;simp
def TW.next(h:TW T)(hk:k<T.length)(a:(tk T k).kind≠0):k+1<T.length:=by
 obtain⟨l,t,rfl,b,_⟩:=h.last;grind [List.length_append,List.length_cons,List.length_nil,Nat.lt_or_ge,absurd,tk]
def JP(hk:k<T.length):tk T k∈T:=by
 grind [tk,List.getElem?_eq_getElem,List.getElem_mem]
structure zV(w:Z)(B:Nat):Prop where
 lt:2<B
 Gd:∀ l,l<2->∃ b o c,b<B/\w.cell? ⟨2,l,V⟩=O (.slice (O ⟨b,o,V⟩) (P.ops l).length c) /\
  ∀ j,j<(P.ops l).length->w.cell? ⟨b,o+j,V⟩=O (aW ((P.ops l).getD j []))
theorem Mo{a:Addr}(h:w.cell? a=O v)(hw:∀ o,w.heap[a.block]?=O o->w'.heap[a.block]?=O o):w'.cell? a=O v:=by
 grind [World.cell?,World.cell?_of_block]
theorem zV.ext(h:zV w B)(hw:∀ (b:Nat) (o:Obj),b<B->w.heap[b]?=O o->w'.heap[b]?=O o):zV w' B:=by
 refine⟨h.lt,fun l a=>?_⟩;grind [Mo,Gd,lt]
def R1(w:Z)(tb:Nat)(T:List P.Tok):Prop:=
 zV w tb/\∃ cs,w.heap[tb]?=aP cs 142/\∀ j,j<T.length ->
  cs[j*3]?=O (zi ((tk T j).kind))/\cs[j*3+1]?=O (aW ((tk T j).text))/\cs[j*3+2]?=O (zi ((tk T j).pos))
structure SP(w:Z)(pb tb:Nat)(T:List P.Tok)(k:Nat)(vars:List Bs)(d:Nat):Prop where
 tw:TW T
 lt:tb<pb
 kt:k<T.length
 nv:vars.length<=12
 toks:R1 w tb T
 yG:∃ cap vv,T.length<=cap/\cap<=9223372036854775807/\w.heap[pb]?=aP #[.slice (O ⟨tb,k*3,V⟩) (T.length-k) (cap-k),vv,zi d] 145 /\
  w.ownsRow (pb+1) 9 1 vv vars.length (vars.map fun s=>aW s)
def SB(w:Z)(pb:Nat):Prop:=∃ lv vv d,w.heap[pb]?=aP #[lv,vv,zi d] 145
def MS(pb b:Nat)(o:Obj):Prop:=b=pb\/(pb<b/\∃ cs z,o = ah cs 9 z)
abbrev dc(pb:Nat)(w w':Z):Prop:=bD (MS pb) w w'
def dc.toks(h:dc pb w w')(f:tb<pb)(ht:R1 w tb T):R1 w' tb T:=by
 obtain⟨a,cs,c,d⟩:=ht;exact⟨a.ext fun b o g e=>h.block _ _ e (by rintro (h | ⟨h,_⟩)<;>omega),cs,h.block _ _ c (by rintro (h | ⟨h,_⟩)<;>omega),d⟩
theorem dc.bJ(h:dc pb w w'){t:TypeId}{z:Nat×Nat}(a:w.heap[b]?=O (ah cs t z))
  (c:b≠pb) (ht:t≠9):w'.heap[b]?=O (ah cs t z):=
 h.block _ _ a (by
  rintro (h | ⟨_,cs',d,h⟩)<;>grind)
theorem dc.lx{o:Obj}(h:dc pb w w')(a:Dt o)(c:w.heap[b]?=O o)(d:b≠pb):w'.heap[b]?=O o:=by
 cases o with
 | cells cs t z=>
  refine h.bJ c d ?_;rintro rfl;rcases a.1 with h | h | h | h<;>cases h
 | _=>exact a.elim
abbrev Nu(w w':Z):Nat->Prop:=fun b=>w.heap.size<=b/\b<w'.heap.size
def np(c a:Int)(w w':Z)(e:Ending):Prop:=
 ∃ b,e = .panicked [{ v:=ak 73 (pp b),recovered:=false }] /\
  w'.heap[b]?=aP #[zi c,zi a] 77/\w.heap.size<=b
def jX{α:Type}(I:(Nat->Prop)->Z->Y->α->Prop)(pb tb:Nat)(T:List P.Tok)(d:Nat)(w:Z):cg α->Ending->Z->Prop
 | .ok x k vs,e,w'=>∃ v,e = ai v/\I (Nu w w') w' v x/\SP w' pb tb T k vs d/\dc pb w w'
 | .err c a,e,w'=>np c a w w' e/\dc pb w w'/\SB w' pb
open Sx
theorem bD.bT{M:Nat->Obj->Prop}{a b:Z}(h:bD M a b){p:Nat}{o:Obj}(c:(∀ x,M p x)\/a.heap.size<=p):bD M a (bT b p o):=
 ⟨h.os,h.tape,h.output,by rw[uY];exact h.size,(by grind [absurd,jh,bn,block])⟩
def yF{p:Prop}(h:p:=by grind [bD.refl,bD.alloc,bD.drew,bD.bT,bD.trans,bD.toM,bD.ext,size_alloc,uY,BU,bn]):p:=h
def jQ(hw:∀ (b:Nat) (o:Obj),w.heap[b]?=O o->w'.heap[b]?=O o){size:Nat}(h:w.ownsRow base e size v n xs):w'.ownsRow base e size v n xs:=by
 obtain⟨g1,g2⟩:=h;refine⟨g1,?_⟩;rcases g2 with g | ⟨g,a,cur,c,d,i,f⟩
 .exact yH
 .exact .inr ⟨g,a,cur,c,d,yH,f⟩
theorem JQ{p:Nat}{o:Obj}{size:Nat}(h:w.ownsRow base e size v n xs)(f:p<base):(bT w p o).ownsRow base e size v n xs:=by
 obtain⟨g1,g2⟩:=h;refine⟨g1,?_⟩;rcases g2 with g | ⟨g,a,cur,b,c,i,d⟩
 .exact yH
 .exact .inr ⟨g,a,cur,b,c,yH,d⟩
def ajX{P:Program}{t ty e:TypeId}{i:TypeInfo}{size bytes:Nat}(ht:P.underlying t=O (.slice e))(d:P.info? e=O i)(f:i.zero=O z)
  (g:i.size=size) (l:i.bytes=bytes) (o:z.cells.size=size) (p:0<size)
 (q:w.ownsRow base e size v n xs) {T:TypeId} {r:Nat×Nat} (D:w.heap[b]?=O (ah cs T r)) (s:cs.toList.length=m*size) (x:∀ u∈cs.toList,u.oneCell'=A)
  (y:n+m<=1000000) (a:bytes<=1000) (B:base<=w.heap.size) {K:Y->Z->Prop}
  (h:∀ v' w',w'.ownsRow base e size v' (n+m) (xs++cs.toList)->w.grownBy w' v.ownBlock->(v'.ownBlock=v.ownBlock\/∀ k,v'.ownBlock=O k->w.heap.size<=k)->K v' w') :
  WR P (Builtin.append_ #[t,t] ty #[v,cU b m c]) w K X:=by
 have E:(n+m)*bytes<=1000000*1000:=Nat.mul_le_mul y a;obtain⟨v',w',C,F,G,H⟩:=VH (P:=P) w base t ty e i z size bytes ht d f g l o p v n xs q ⟨b,0,V⟩ m c cs.toList s (fun j u hu=>by
  rw[addr_add,Nat.zero_add];grind [cellOf]) x (by grind [maxLen]) zo B
 rw[xB C];grind
def bD.grow{M:Nat->Obj->Prop}{a b c:Z}(h:bD M a b){r:Option Nat}(d:b.grownBy c r)(hr:∀ k,r=O k->a.heap.size<=k):bD M a c:=
 ⟨d.os.trans h.os,d.tape.trans h.tape,d.output.trans h.output,Nat.le_trans h.size d.size,fun i o f hm=>by
  have:=bn f;have g:=h.block i o f hm;rw[d.block i (bn g) (fun e=>by have:=hr i e.symm;omega)];exact g⟩
def ij{size:Nat}(h:w.ownsRow base e size v n xs):∃ a c,v = .slice a n c:=by
 rcases h.2 with⟨rfl,rfl⟩| ⟨g,cap,cur,rfl,_⟩<;>grind
theorem R1.at(h:R1 w tb T)(hk:k<T.length) :
  w.cell? ⟨tb,k*3,V⟩=O (zi ((tk T k).kind))/\w.cell? ⟨tb,k*3+1,V⟩=O (aW ((tk T k).text)) /\
   w.cell? ⟨tb,k*3+2,V⟩=O (zi ((tk T k).pos)):=by
 obtain⟨-,cs,a,b⟩:=h;grind [cellOf]
def SP.set{d':Nat}(h:SP w pb tb T k vars d)(hk:k'<T.length)
  (a:dc pb w w')
  (n:∀ cap vv,w.heap[pb]?=aP #[.slice (O ⟨tb,k*3,V⟩) (T.length-k) (cap-k),vv,zi d] 145 ->
   w'.heap[pb]?=aP #[.slice (O ⟨tb,k'*3,V⟩) (T.length-k') (cap-k'),vv,zi d'] 145)
  (o:∀ b,b≠pb->w'.heap[b]?=w.heap[b]?):SP w' pb tb T k' vars d':=by
 obtain⟨tw,lt,kt,nv,toks,cap,vv,c,e,p,f⟩:=h;refine⟨tw,lt,hk,nv,a.toks lt toks,cap,vv,c,e,zg,?_⟩;obtain⟨g1,g2⟩:=f;refine⟨g1,?_⟩;rcases g2 with g | ⟨g,i,cur,j,l,q,m⟩
 .grind
 .exact .inr ⟨g,i,cur,j,l,zg,m⟩
theorem dc.Ge{a b:Z}(h:dc pb a b)(v:Y):dc pb a (b.setCell ⟨pb,o,V⟩ v):=h.atF (fun _=>.inl J) v
def vd(hp:SP w pb tb T k vars d)(s:Bs)(h:eD T k s=A) :
  Calls ban 49 #[pp pb,aW s] w fun e w'=>
   e = ai (.bool A)/\SP w' pb tb T (k+1) vars d/\dc pb w w':=by
 obtain⟨cap,vv,jH,sw,gk,-⟩:=hp.yG;have h0:=cellOf gk (o:=0) J;have f0:=jO gk 0;obtain⟨t0,t1,-⟩:=hp.toks.at hp.kt;simp only[eD,Bool.and_eq_true,Bool.or_eq_true,beq_iff_eq] at h;have hkn:k+1<T.length:=hp.tw.next hp.kt zo
 have kT:SP (w.setCell ⟨pb,0,V⟩ (.slice (O ⟨tb,k*3+3,V⟩) (T.length-k-1) (cap-k-1))) pb tb T (k+1) vars d:=by
  refine hp.set hkn (dc.Ge (bD.refl _ _) _) (fun cp v2 hv=>?_) (by grind [blk_setCell_other]);rw[gk] at hv;injection hv with hv;injection hv with hv;have hx:(Value.slice (O ⟨tb,k*3,V⟩) (T.length-k) (cap-k))=Value.slice (O ⟨tb,k*3,V⟩) (T.length-k) (cp-k):=by
   grind
  have hy:vv=v2:=zg;injection hx with _ _ hx;subst hy;rw[AN gk];grind
 have tE:dc pb w (w.setCell ⟨pb,0,V⟩ (.slice (O ⟨tb,k*3+3,V⟩) (T.length-k-1) (cap-k-1))):=dc.Ge (bD.refl _ _) _;obtain⟨kd,iS⟩:∃ kd:Int,kd=((tk T k).kind:Int):=⟨_,J⟩;rw[<- iS] at t0;rw[h.2] at t1;have k0:(kd == 0)=false:=zg;have k2:(kd == 2)=false:=zg;have l1:1<T.length-k:=zo;have l2:T.length-k<=100000:=by have:=hp.tw.len;omega
 have l3:T.length-k<=cap-k:=zo;clear iS h;generalize hn:T.length-k=n at *;generalize hm:cap-k=m at *;clear hn hm jH sw hkn hp gk
 go_enter func49,ntmps49
 go_wp2
 go_ret
 exact⟨J,kT,tE⟩
def qs(hp:SP w pb tb T k vars d)(s:Bs)(h:eD T k s=ae)
  (hs:s.all P.digit=ae) :
  Calls ban 49 #[pp pb,aW s] w fun e w'=>e = ai (.bool ae)/\w=w':=by
 obtain⟨cap,vv,jH,sw,gk,-⟩:=hp.yG;have h0:=cellOf gk (o:=0) J;obtain⟨t0,t1,-⟩:=hp.toks.at hp.kt;have yI:=hp.tw.kind _ (JP hp.kt);have xE:=hp.tw.digits _ (JP hp.kt);have l1:0<T.length-k:=by have:=hp.kt;omega
 have l2:T.length-k<=100000:=by have:=hp.tw.len;omega
 by_cases hx:(tk T k).text=s
 .have iS:(tk T k).kind=0\/(tk T k).kind=2:=by
   simp only[eD,hx,beq_self_eq_true,Bool.and_true,Bool.or_eq_false_iff,beq_eq_false_iff_ne] at h;grind
  rw[hx] at t1;rcases iS with iS | iS
  .rw[iS] at t0;clear h xE yI iS hx hp;generalize hn:T.length-k=n at *;generalize hm:cap-k=m at *;clear hn hm jH sw gk
   go_enter func49,ntmps49
   go_wp2
   go_ret
   exact⟨J,J⟩
  .rw[iS] at t0;clear h xE yI iS hx hp;generalize hn:T.length-k=n at *;generalize hm:cap-k=m at *;clear hn hm jH sw gk
   go_enter func49,ntmps49
   go_wp2
   go_ret
   exact⟨J,J⟩
 .obtain⟨kd,iS⟩:∃ kd:Int,kd=((tk T k).kind:Int):=⟨_,J⟩;rw[<- iS] at t0;obtain⟨x,xF⟩:=ck ((tk T k).text);rw[<- xF] at t1 hx;clear iS h xE yI xF hp;generalize hn:T.length-k=n at *;generalize hm:cap-k=m at *;clear hn hm jH sw gk
  go_enter func49,ntmps49
  go_wp2
  go_ret
  exact⟨J,J⟩
def BV(c a:Int)(w:Z)(pb:Nat)(yJ:SB w pb) :
  Calls ban 47 #[zi c,zi a] w fun e w'=>np c a w w' e/\dc pb w w'/\SB w' pb:=by
 have kT:np c a w (w.alloc (Obj.cells #[a1a a1h c,a1a a1h a] 77))
   (.panicked [{ v:=ak 73 (pp w.heap.size),recovered:=false }]):=
  ⟨_,J,blk_alloc_new _ _,Nat.le_refl _⟩
 have aBD:SB (w.alloc (Obj.cells #[a1a a1h c,a1a a1h a] 77)) pb:=by
  obtain⟨lv,vv,d,h⟩:=yJ;exact⟨lv,vv,d,dS h⟩
 clear yJ
 go_enter func47,ntmps47
 go_wp2
 exact⟨J,kT,(bD.refl _ _).alloc _,aBD⟩
