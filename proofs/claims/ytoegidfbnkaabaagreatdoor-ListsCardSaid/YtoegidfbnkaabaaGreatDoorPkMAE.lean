/- A part of one proof (ShT, SBase, GBase, SW1). -/
import Derived.Test.YtoegidfbnkaabaaGreatDoorPkMAD
import Derived.Test.YtoegidfbnkaabaaGreatDoorProg
import Derived.WalkSpells
import Derived.WalkLawsBesides
set_option linter.all false
set_option maxRecDepth 100000
set_option maxHeartbeats 8000000
open Option renaming some → O, none → V
open Go renaming Value → Y, World → Z
open Bool renaming true → G, false → ae
open Go.Obj renaming cells → ah
open Go.Ending renaming returned → ai
open Go.Value renaming nilIface → aj, iface → ak, tuple → aq, pointer → au
open Go.Instr renaming loadAt → a32, typeAssert → a38, makeInterface → a4o, sliceAt → a4B, makeMap → a6j, makeSlice → a6G
open Go.Value renaming int → a4m
open Go.IntKind renaming i64 → a4s
open Nat renaming reduceAdd → a5W, reduceLeDiff → a6u, reduceEqDiff → a6v, reduceMul → a66
open Int renaming reduceToNat → a6F, reduceAdd → a67, reduceLT → a7p, reduceLE → a7q
open Go.Proofs.Tryz renaming prog → bdB
open Go.Proofs.Tryz
namespace Go.Proofs.YtoegidfbnkaabaaGreatDoor
open P
open Go.Proofs.YtoegidfbnkaabaaGreatDoor.Sx
variable{A0 A1 Q Kz:Prop}{B b base c cap d e k k' m n o pb tb:Nat}{F:Nat->Prop}{K:Y->Prop}{T:List P.Tok}{X:Y->Z->Prop}{cs:Array Y}{l:Int}{v z:Y}{Fq Qh:IntKind}{vars:List Bs}{vs xs:List Y}{w w':Z}{y:Operand}
abbrev Ay(t e:Nat)(z:Array Y):Prop:=∀ {u:Y} {w:Z} {X:Y->Z->Prop} {K:Y->Z->Prop},WR bdB (Instr.alloc t G u) w K X=K (au (O ⟨w.heap.size,0,V⟩)) (w.alloc (ah z e))
def ayT:Ay 100 100 #[(au V),bW]:=Av (z:=(.agg #[(au V),bW])) zk
def ayU:Ay 103 103 #[(au V),bW,(au V),(.map V)]:=Av (z:=(.agg #[(au V),bW,(au V),(.map V)])) zk
def ayV:Ay 108 108 #[(au V)]:=Av (z:=(au V)) zk
def ayW:Ay 122 122 #[(au V)]:=Av (z:=(au V)) zk
def akY:Ay 142 142 #[(.int .i64 0),(aW []),(.int .i64 0)]:=Av (z:=(.agg #[(.int .i64 0),(aW []),(.int .i64 0)])) zk
def ayX:Ay 198 198 #[(aW []),(aW []),aj,bW]:=Av (z:=(.agg #[(aW []),(aW []),aj,bW])) zk
def ayY:Ay 27 27 #[(.int .i64 0)]:=Av (z:=(.int .i64 0)) zk
def ayZ:Ay 3 3 #[(.int .i64 0)]:=Av (z:=(.int .i64 0)) zk
def ay0:Ay 4 4 #[(.bool ae)]:=Av (z:=(.bool ae)) zk
def ay1:Ay 57 57 #[aj]:=Av (z:=aj) zk
def ay2:Ay 68 68 #[bW]:=Av (z:=bW) zk
def ay3:Ay 73 73 #[(au V)]:=Av (z:=(au V)) zk
def ay4:Ay 79 79 #[(au V)]:=Av (z:=(au V)) zk
def ay5:Ay 9 9 #[(aW [])]:=Av (z:=(aW [])) zk
def ay6:Ay 91 91 #[aj]:=Av (z:=(.agg #[aj])) zk
abbrev sW(t:Nat)(l:List (Nat×Nat))(z:Array Y):Prop:=∀ {parts:Array (Nat×Y)} {w:Z} {X:Y->Z->Prop} {K:Y->Prop},RD bdB (Instr.build t parts) w K X=Xs (Ft l z parts.toList) K (GR bdB (Instr.build t parts) w K X)
def ay7:sW 103 [(0,2),(2,1),(3,1)] #[(au V),bW,(au V),(.map V)]:=sT zk
def ay8:sW 116 [(0,1),(1,2),(3,1),(4,1),(5,1)] #[(au V),bW,(.int .i64 0),(au V),(.int .i64 0),bW]:=sT zk
def ay9:sW 121 [(0,1),(1,1),(2,1),(3,1),(4,1)] #[aj,(au V),.nilFunc,bW,aj]:=sT zk
def aza:sW 130 [(0,1),(1,2),(3,1),(4,1),(5,1)] #[(.map V),bW,(.int .i64 0),(au V),bW,bW]:=sT zk
def azb:sW 134 [] #[]:=sT zk
def akZ:sW 142 [(0,1),(1,1),(2,1)] #[(.int .i64 0),(aW []),(.int .i64 0)]:=sT zk
def azc:sW 145 [(0,1),(1,1),(2,1)] #[bW,bW,(.int .i64 0)]:=sT zk
def ak0:sW 149 [(0,1),(1,1),(2,1),(3,1)] #[(.int .u8 0),(aW []),bW,bW]:=sT zk
def azd:sW 180 [(0,1),(1,1)] #[(aW []),bW]:=sT zk
def aze:sW 187 [(0,1),(1,1),(2,1)] #[(.map V),(au V),(.int .i64 0)]:=sT zk
def azf:sW 196 [(0,1),(1,1)] #[(.int .i64 0),bW]:=sT zk
def azg:sW 198 [(0,1),(1,1),(2,1),(3,1)] #[(aW []),(aW []),aj,bW]:=sT zk
def azh:sW 203 [(0,1),(1,1),(2,1),(3,1),(4,1)] #[(au V),bW,(.int .i64 0),(au V),(.int .i64 0)]:=sT zk
def azi:sW 207 [(0,1),(1,1),(2,1),(3,1)] #[(au V),bW,(.int .i64 0),(au V)]:=sT zk
def azj:sW 213 [(0,1),(1,1),(2,1)] #[(aW []),(.int .i64 0),bW]:=sT zk
def azk:sW 247 [(0,2),(2,1),(3,1)] #[(.int .i64 0),bW,bW,(.int .i64 0)]:=sT zk
def azl:sW 342 [(0,1),(1,1),(2,1),(3,1),(4,1)] #[(.int .i64 0),(au V),(.int .i64 0),bW,bW]:=sT zk
def azm:sW 356 [(0,1),(1,1),(2,1),(3,1)] #[(.int .i64 0),(au V),bW,bW]:=sT zk
def azn:sW 72 [(0,1)] #[bW]:=sT zk
def azo:sW 77 [(0,1),(1,1)] #[(.int .i64 0),(.int .i64 0)]:=sT zk
def ak1:sW 86 [(0,1),(1,1),(2,1),(3,1)] #[(aW []),bW,(au V),bW]:=sT zk
def azp:sW 96 [(0,1),(1,1)] #[bW,(.int .i64 0)]:=sT zk
abbrev xR(t n e:Nat)(l:List (Nat×Nat))(z:Array Y):Prop:=∀ {parts:Array (Nat×Y)} {w:Z} {X:Y->Z->Prop} {K:Y->Z->Prop},WR bdB (Instr.buildSlice t n parts) w K X=Xt (Ft l z parts.toList) e n w K (WR0 bdB (Instr.buildSlice t n parts) w K X)
def azq:xR 114 1 342 [(0,5)] #[(.int .i64 0),(au V),(.int .i64 0),bW,bW]:=xQ zk
def azr:xR 128 1 356 [(0,4)] #[(.int .i64 0),(au V),bW,bW]:=xQ zk
def ak2:xR 143 1 142 [(0,3)] #[(.int .i64 0),(aW []),(.int .i64 0)]:=xQ zk
def azs:xR 192 1 185 [(0,1)] #[(au V)]:=xQ zk
def azt:xR 194 1 198 [(0,4)] #[(aW []),(aW []),aj,bW]:=xQ zk
def azu:xR 200 1 20 [(0,1)] #[aj]:=xQ zk
def azv:xR 209 1 211 [(0,1)] #[(au V)]:=xQ zk
def azw:xR 39 1 9 [(0,1)] #[(aW [])]:=xQ zk
def azx:xR 39 2 9 [(0,1),(1,1)] #[(aW []),(aW [])]:=xQ zk
def azy:xR 45 1 3 [(0,1)] #[(.int .i64 0)]:=xQ zk
def azz:xR 45 2 3 [(0,1),(1,1)] #[(.int .i64 0),(.int .i64 0)]:=xQ zk
def ak3:xR 68 1 79 [(0,1)] #[(au V)]:=xQ zk
def azA:xR 82 1 89 [(0,1)] #[aj]:=xQ zk
def azB:xR 94 1 87 [(0,1)] #[(au V)]:=xQ zk
def azC:xR 98 1 5 [(0,1)] #[(.int .u8 0)]:=xQ zk
def azD:xR 98 2 5 [(0,1),(1,1)] #[(.int .u8 0),(.int .u8 0)]:=xQ zk
def azE:xR 98 3 5 [(0,1),(1,1),(2,1)] #[(.int .u8 0),(.int .u8 0),(.int .u8 0)]:=xQ zk
def ak4{l:List UInt8}{k:IntKind}{i:Int}(a:0<=i)(b:i<l.length):RD bdB (Instr.index 9 (aW l) (.int k i)) w K X=K (.int .u8 ((l.getD i.toNat 0).toNat)):=avQ zk a b
def azF{k:IntKind}{n:Int}{K:Y->Z->Prop}:WR bdB (convert 3 21 (.int k n)) w K X=K (.int .i32 (IntKind.i32.wrap n)) w:=avU zk zk
def azG{x:Operand}(c:Y):RD bdB (bo .eql 57 x (.const c) aj aj) w K X=K (.bool G):=akL zk c
def azH{x:Operand}(c:Y):RD bdB (bo .eql 89 x (.const c) aj aj) w K X=K (.bool G):=akL zk c
def azI{x:Operand}(u:TypeId)(v:Y):RD bdB (bo .eql 57 x y (ak u v) aj) w K X=K (.bool ae):=akK zk u v
def azJ{x:Operand}(u:TypeId)(v:Y):RD bdB (bo .eql 89 x y (ak u v) aj) w K X=K (.bool ae):=akK zk u v
def azK{x:Operand}(p:Option Nat):RD bdB (bo .eql 101 x y (.map p) (.map V)) w K X=K (.bool p.isNone):=ayv zk p
def azL{x:Operand}(p:Option Addr):RD bdB (bo .eql 113 x y (.pointer p) (au V)) w K X=K (.bool p.isNone):=Nq zk p
def azM{x:Operand}(p:Option Addr):RD bdB (bo .eql 127 x y (.pointer p) (au V)) w K X=K (.bool p.isNone):=Nq zk p
def azN{x:Operand}(p:Option Addr):RD bdB (bo .eql 185 x y (.pointer p) (au V)) w K X=K (.bool p.isNone):=Nq zk p
def azO{x:Operand}(p:Option Addr):RD bdB (bo .eql 30 x y (.pointer p) (au V)) w K X=K (.bool p.isNone):=Nq zk p
def azP{x:Operand}(p:Option Addr):RD bdB (bo .eql 35 x y (.pointer p) (au V)) w K X=K (.bool p.isNone):=Nq zk p
def azQ{x:Operand}(p:Option Addr):RD bdB (bo .eql 84 x y (.pointer p) (au V)) w K X=K (.bool p.isNone):=Nq zk p
def azR{x:Operand}(p:Option Addr):RD bdB (bo .eql 87 x y (.pointer p) (au V)) w K X=K (.bool p.isNone):=Nq zk p
def azS{x:Operand}(p:Option Addr)(n c:Nat):RD bdB (bo .eql 192 x y (.slice p n c) bW) w K X=K (.bool p.isNone):=akJ zk p n c
def azT{x:Operand}(p:Option Addr)(n c:Nat):RD bdB (bo .eql 68 x y (.slice p n c) bW) w K X=K (.bool p.isNone):=akJ zk p n c
abbrev fE(t f d:Nat):Prop:=∀ {b o:Nat} {w:Z} {X:Y->Z->Prop} {K:Y->Prop},RD bdB (Instr.fieldAt t (au (O ⟨b,o,V⟩)) f) w K X=K (au (O ⟨b,o+d,V⟩))
def azU:fE 100 1 1:=fD zk
def azV:fE 103 0 0:=fD zk
def azW:fE 103 1 2:=fD zk
def azX:fE 103 2 3:=fD zk
def azY:fE 116 0 0:=fD zk
def azZ:fE 116 1 1:=fD zk
def az0:fE 116 2 3:=fD zk
def az1:fE 116 3 4:=fD zk
def az2:fE 116 4 5:=fD zk
def az3:fE 121 0 0:=fD zk
def az4:fE 121 1 1:=fD zk
def az5:fE 121 2 2:=fD zk
def az6:fE 121 3 3:=fD zk
def az7:fE 121 4 4:=fD zk
def az8:fE 130 0 0:=fD zk
def az9:fE 130 1 1:=fD zk
def aAa:fE 130 2 3:=fD zk
def aAb:fE 130 3 4:=fD zk
def aAc:fE 130 4 5:=fD zk
def ak5:fE 142 0 0:=fD zk
def ak6:fE 142 1 1:=fD zk
def ak7:fE 142 2 2:=fD zk
def ak8:fE 145 0 0:=fD zk
def ak9:fE 145 1 1:=fD zk
def aAd:fE 149 0 0:=fD zk
def aAe:fE 149 1 1:=fD zk
def aAf:fE 149 2 2:=fD zk
def aAg:fE 149 3 3:=fD zk
def aAh:fE 178 0 0:=fD zk
def aAi:fE 178 1 1:=fD zk
def aAj:fE 178 2 2:=fD zk
def aAk:fE 178 3 3:=fD zk
def aAl:fE 178 4 4:=fD zk
def aAm:fE 180 0 0:=fD zk
def aAn:fE 180 1 1:=fD zk
def aAo:fE 187 0 0:=fD zk
def aAp:fE 187 1 1:=fD zk
def aAq:fE 187 2 2:=fD zk
def aAr:fE 196 0 0:=fD zk
def aAs:fE 196 1 1:=fD zk
def aAt:fE 198 0 0:=fD zk
def aAu:fE 198 1 1:=fD zk
def aAv:fE 198 2 2:=fD zk
def aAw:fE 198 3 3:=fD zk
def aAx:fE 203 0 0:=fD zk
def aAy:fE 203 1 1:=fD zk
def aAz:fE 203 2 2:=fD zk
def aAA:fE 203 3 3:=fD zk
def aAB:fE 203 4 4:=fD zk
def aAC:fE 207 0 0:=fD zk
def aAD:fE 207 1 1:=fD zk
def aAE:fE 207 2 2:=fD zk
def aAF:fE 207 3 3:=fD zk
def aAG:fE 213 0 0:=fD zk
def aAH:fE 213 1 1:=fD zk
def aAI:fE 213 2 2:=fD zk
def aAJ:fE 247 0 0:=fD zk
def aAK:fE 247 1 2:=fD zk
def aAL:fE 247 2 3:=fD zk
def aAM:fE 342 0 0:=fD zk
def aAN:fE 342 1 1:=fD zk
def aAO:fE 342 2 2:=fD zk
def aAP:fE 342 3 3:=fD zk
def aAQ:fE 342 4 4:=fD zk
def aAR:fE 356 0 0:=fD zk
def aAS:fE 356 1 1:=fD zk
def aAT:fE 356 2 2:=fD zk
def aAU:fE 356 3 3:=fD zk
def aAV:fE 72 0 0:=fD zk
def aAW:fE 77 0 0:=fD zk
def aAX:fE 77 1 1:=fD zk
def aAY:fE 86 0 0:=fD zk
def ala:fE 86 1 1:=fD zk
def alb:fE 86 2 2:=fD zk
def alc:fE 86 3 3:=fD zk
def aAZ:fE 91 0 0:=fD zk
def aA0:fE 96 0 0:=fD zk
def aA1:fE 96 1 1:=fD zk
abbrev Az(t n:Nat):Prop:=∀ {b o len cap:Nat} {k:IntKind} {i:Int} {w:Z} {X:Y->Z->Prop} {K:Y->Prop},0<=i->i<len->RD bdB (Instr.indexAt t (.slice (O ⟨b,o,V⟩) len cap) (.int k i)) w K X=K (au (O ⟨b,o+i.toNat*n,V⟩))
def aA2:Az 114 5:=fun a b=>Aw zk a b
def aA3:Az 128 4:=fun a b=>Aw zk a b
def ald:Az 143 3:=fun a b=>Aw zk a b
def aA4:Az 147 1:=fun a b=>Aw zk a b
def aA5:Az 192 1:=fun a b=>Aw zk a b
def aA6:Az 194 4:=fun a b=>Aw zk a b
def aA7:Az 200 1:=fun a b=>Aw zk a b
def aA8:Az 209 1:=fun a b=>Aw zk a b
def aA9:Az 39 1:=fun a b=>Aw zk a b
def aBa:Az 45 1:=fun a b=>Aw zk a b
def aBb:Az 68 1:=fun a b=>Aw zk a b
def aBc:Az 82 1:=fun a b=>Aw zk a b
def aBd:Az 83 1:=fun a b=>Aw zk a b
def aBe:Az 94 1:=fun a b=>Aw zk a b
def aBf:Az 98 1:=fun a b=>Aw zk a b
abbrev kl(t:Nat):Prop:=∀ {b o:Nat} {w:Z} {X:Y->Z->Prop} {K:Y->Prop},RD bdB (a32 t (au (O ⟨b,o,V⟩))) w K X=Xp (w.heap[b]?) o K (GR bdB (a32 t (au (O ⟨b,o,V⟩))) w K X)
def aBg:kl 101:=kh zk
def aBh:kl 106:=kh zk
def aBi:kl 108:=kh zk
def aBj:kl 113:=kh zk
def aBk:kl 114:=kh zk
def aBl:kl 117:=kh zk
def aBm:kl 119:=kh zk
def aBn:kl 122:=kh zk
def aBo:kl 125:=kh zk
def aBp:kl 127:=kh zk
def aBq:kl 128:=kh zk
def ale:kl 140:=kh zk
def alf:RD bdB (a32 142 (au (O ⟨b,o,V⟩))) w K X=No (w.heap[b]?) o 3 K (GR bdB (a32 142 (au (O ⟨b,o,V⟩))) w K X):=abX zk
def alg:kl 143:=kh zk
def aBr:kl 147:=kh zk
def aBs:kl 184:=kh zk
def aBt:kl 185:=kh zk
def aBu:kl 192:=kh zk
def aBv:kl 194:=kh zk
def aBw:RD bdB (a32 198 (au (O ⟨b,o,V⟩))) w K X=No (w.heap[b]?) o 4 K (GR bdB (a32 198 (au (O ⟨b,o,V⟩))) w K X):=abX zk
def aBx:kl 2:=kh zk
def aBy:kl 20:=kh zk
def aBz:kl 200:=kh zk
def aBA:kl 201:=kh zk
def aBB:kl 211:=kh zk
def aBC:kl 245:=kh zk
def alh:RD bdB (a32 256 (au (O ⟨b,o,V⟩))) w K X=No (w.heap[b]?) o 23 K (GR bdB (a32 256 (au (O ⟨b,o,V⟩))) w K X):=abX zk
def aBD:kl 27:=kh zk
def ali:kl 3:=kh zk
def aBE:kl 35:=kh zk
def alj:kl 39:=kh zk
def aBF:kl 4:=kh zk
def aBG:kl 45:=kh zk
def aBH:kl 5:=kh zk
def aBI:kl 57:=kh zk
def aBJ:kl 68:=kh zk
def aBK:kl 73:=kh zk
def aBL:kl 79:=kh zk
def aBM:kl 82:=kh zk
def aBN:kl 83:=kh zk
def aBO:kl 84:=kh zk
def aBP:kl 87:=kh zk
def aBQ:kl 89:=kh zk
def alk:kl 9:=kh zk
def aBR:kl 93:=kh zk
def aBS:kl 94:=kh zk
def aBT:kl 98:=kh zk
abbrev Bv(t:Nat):Prop:=∀ {a:Option Addr} {n c:Nat} {w:Z} {X:Y->Z->Prop} {K:Y->Prop},RD bdB (Builtin.len_ #[t] 3 #[.slice a n c]) w K X=K (.int .i64 n)
def aBU:Bv 114:=Bq (e:=342) zk
def aBV:Bv 128:=Bq (e:=356) zk
def aBW:Bv 147:=Bq (e:=84) zk
def aBX:Bv 192:=Bq (e:=185) zk
def aBY:Bv 194:=Bq (e:=198) zk
def aBZ:Bv 200:=Bq (e:=20) zk
def aB0:Bv 209:=Bq (e:=211) zk
def aB1:Bv 39:=Bq (e:=9) zk
def aB2:Bv 45:=Bq (e:=3) zk
def alm:Bv 68:=Bq (e:=79) zk
def aB3:Bv 82:=Bq (e:=89) zk
def aB4:Bv 83:=Bq (e:=106) zk
def aln{l:List UInt8}:RD bdB (Builtin.len_ #[9] 3 #[aW l]) w K X=K (.int .i64 l.length):=avP zk
def aB5:Bv 94:=Bq (e:=87) zk
def aB6:Bv 98:=Bq (e:=5) zk
def aB7{K:Y->Z->Prop}:WR bdB (a4o 111 v) w K X=K (ak 111 v) w:=DV zk
def aB8{K:Y->Z->Prop}:WR bdB (a4o 122 v) w K X=K (ak 122 v) w:=DV zk
def aB9{K:Y->Z->Prop}:WR bdB (a4o 134 v) w K X=K (ak 134 v) w:=DV zk
def aCa{K:Y->Z->Prop}:WR bdB (a4o 171 v) w K X=K (ak 171 v) w:=DV zk
def aCb{K:Y->Z->Prop}:WR bdB (a4o 172 v) w K X=K (ak 172 v) w:=DV zk
def aCc{K:Y->Z->Prop}:WR bdB (a4o 175 v) w K X=K (ak 175 v) w:=DV zk
def aCd{K:Y->Z->Prop}:WR bdB (a4o 201 v) w K X=K (ak 201 v) w:=DV zk
def aCe{K:Y->Z->Prop}:WR bdB (a4o 27 v) w K X=K (ak 27 v) w:=DV zk
def aCf{K:Y->Z->Prop}:WR bdB (a4o 73 v) w K X=K (ak 73 v) w:=DV zk
def aCg{K:Y->Z->Prop}:WR bdB (a4o 75 v) w K X=K (ak 75 v) w:=DV zk
def aCh{K:Y->Z->Prop}:WR bdB (a4o 78 v) w K X=K (ak 78 v) w:=DV zk
def aCi{K:Y->Z->Prop}:WR bdB (a4o 87 v) w K X=K (ak 87 v) w:=DV zk
def aCj{K:Y->Z->Prop}:WR bdB (a6j 101 V) w K X=K (.map (O w.heap.size)) (w.alloc (.map #[] 0)):=Tq
def aCk{K:Y->Z->Prop}:WR bdB (a6j 125 V) w K X=K (.map (O w.heap.size)) (w.alloc (.map #[] 0)):=Tq
def aCl{K:Y->Z->Prop}:WR bdB (a6j 184 V) w K X=K (.map (O w.heap.size)) (w.alloc (.map #[] 0)):=Tq
def aCm{K:Y->Z->Prop}:WR bdB (a6j 210 V) w K X=K (.map (O w.heap.size)) (w.alloc (.map #[] 0)):=Tq
def aCn{K:Y->Z->Prop}:WR bdB (a6j 240 V) w K X=K (.map (O w.heap.size)) (w.alloc (.map #[] 0)):=Tq
def aCo{K:Y->Z->Prop}(a:n<=m)(hm:m<=1000000):WR bdB (a6G 200 (.int Fq n) (.int Qh m)) w K X=K (cS w.heap.size n m) (w.alloc (ah (madeCells #[aj] (m*1)) 20)):=acR (z:=aj) (by_:=16) zk a zd hm
def aCp{K:Y->Z->Prop}(a:n<=m)(hm:m<=1000000):WR bdB (a6G 45 (.int Fq n) (.int Qh m)) w K X=K (cS w.heap.size n m) (w.alloc (ah (madeCells #[(.int .i64 0)] (m*1)) 3)):=acR (z:=(.int .i64 0)) (by_:=8) zk a zd hm
def aCq{K:Y->Z->Prop}(a:n<=m)(hm:m<=1000000):WR bdB (a6G 82 (.int Fq n) (.int Qh m)) w K X=K (cS w.heap.size n m) (w.alloc (ah (madeCells #[aj] (m*1)) 89)):=acR (z:=aj) (by_:=16) zk a zd hm
def aCr{x:Operand}(c:Y):RD bdB (bo .neq 57 x (.const c) aj aj) w K X=K (.bool ae):=ayx zk c
def aCs{x:Operand}(u:TypeId)(v:Y):RD bdB (bo .neq 57 x y (ak u v) aj) w K X=K (.bool G):=ayw zk u v
def aCt{x:Operand}(p:Option Addr):RD bdB (bo .neq 113 x y (.pointer p) (au V)) w K X=K (.bool !p.isNone):=acK zk p
def aCu{x:Operand}(p:Option Addr):RD bdB (bo .neq 185 x y (.pointer p) (au V)) w K X=K (.bool !p.isNone):=acK zk p
def aCv{x:Operand}(p:Option Addr):RD bdB (bo .neq 35 x y (.pointer p) (au V)) w K X=K (.bool !p.isNone):=acK zk p
def aCw{x:Operand}(p:Option Addr)(n c:Nat):RD bdB (bo .neq 39 x y (.slice p n c) bW) w K X=K (.bool !p.isNone):=ayu zk p n c
def aCx{a:Option Addr}{len:Nat}{k:IntKind}(b:0<=l)(c:l<=cap):RD bdB (a4B 114 (.slice a len cap) V (O (.int k l)) V) w K X=K (sliced a 0 l.toNat cap 5):=Qb zk b c
def aCy{a:Option Addr}{len:Nat}{k:IntKind}(b:0<=l)(c:l<=cap):RD bdB (a4B 128 (.slice a len cap) V (O (.int k l)) V) w K X=K (sliced a 0 l.toNat cap 4):=Qb zk b c
def aCz{a:Option Addr}{len:Nat}{k:IntKind}(b:0<=l)(c:l<=cap):RD bdB (a4B 200 (.slice a len cap) V (O (.int k l)) V) w K X=K (sliced a 0 l.toNat cap 1):=Qb zk b c
def aCA{a:Option Addr}{len:Nat}{k:IntKind}(b:0<=l)(c:l<=cap):RD bdB (a4B 39 (.slice a len cap) V (O (.int k l)) V) w K X=K (sliced a 0 l.toNat cap 1):=Qb zk b c
def aCB{a:Option Addr}{len:Nat}{k:IntKind}(b:0<=l)(c:l<=cap):RD bdB (a4B 45 (.slice a len cap) V (O (.int k l)) V) w K X=K (sliced a 0 l.toNat cap 1):=Qb zk b c
def aCC{a:Option Addr}{len:Nat}{k:IntKind}(b:0<=l)(c:l<=cap):RD bdB (a4B 94 (.slice a len cap) V (O (.int k l)) V) w K X=K (sliced a 0 l.toNat cap 1):=Qb zk b c
def alo{a:Option Addr}{len:Nat}{k:IntKind}(b:0<=l)(c:l<=len):RD bdB (a4B 143 (.slice a len cap) (O (.int k l)) V V) w K X=K (sliced a l.toNat len cap 3):=Qa zk b c
def aCD{a:Option Addr}{len:Nat}{k:IntKind}(b:0<=l)(c:l<=len):RD bdB (a4B 192 (.slice a len cap) (O (.int k l)) V V) w K X=K (sliced a l.toNat len cap 1):=Qa zk b c
def aCE{a:Option Addr}{len:Nat}{k:IntKind}(b:0<=l)(c:l<=len):RD bdB (a4B 39 (.slice a len cap) (O (.int k l)) V V) w K X=K (sliced a l.toNat len cap 1):=Qa zk b c
def aCF{a:Option Addr}{len:Nat}{k:IntKind}(b:0<=l)(c:l<=len):RD bdB (a4B 45 (.slice a len cap) (O (.int k l)) V V) w K X=K (sliced a l.toNat len cap 1):=Qa zk b c
def aCG{a:Option Addr}{len:Nat}{k:IntKind}(b:0<=l)(c:l<=len):RD bdB (a4B 68 (.slice a len cap) (O (.int k l)) V V) w K X=K (sliced a l.toNat len cap 1):=Qa zk b c
def alp{s:List UInt8}{k:IntKind}(a:0<=l)(b:l<=s.length):RD bdB (a4B 9 (aW s) (O (.int k l)) V V) w K X=K (aW (s.drop l.toNat)):=avS zk a b
def aCH{a:Option Addr}{len:Nat}{k:IntKind}(b:0<=l)(c:l<=len):RD bdB (a4B 94 (.slice a len cap) (O (.int k l)) V V) w K X=K (sliced a l.toNat len cap 1):=Qa zk b c
def alq{s:List UInt8}{k:IntKind}{m:Int}(a:0<=l)(b:l<=m)(c:m<=s.length):RD bdB (a4B 9 (aW s) (O (.int k l)) (O (.int Fq m)) V) w K X=K (aW ((s.take m.toNat).drop l.toNat)):=avT zk a b c
abbrev oz(t n:Nat):Prop:=∀ {b o:Nat} {w:Z} {X:Y->Z->Prop} {K:Z->Prop} (v:Y),WU bdB (Instr.storeAt t (au (O ⟨b,o,V⟩)) v) w K X=Th (w.heap[b]?) w b o n v K (WU0 bdB (Instr.storeAt t (au (O ⟨b,o,V⟩)) v) w K X)
def aCI:oz 101 1:=fun v=>oy zk v
def aCJ:oz 103 4:=fun v=>oy zk v
def aCK:oz 108 1:=fun v=>oy zk v
def aCL:oz 113 1:=fun v=>oy zk v
def aCM:oz 114 1:=fun v=>oy zk v
def aCN:oz 122 1:=fun v=>oy zk v
def aCO:oz 127 1:=fun v=>oy zk v
def aCP:oz 128 1:=fun v=>oy zk v
def alr:oz 142 3:=fun v=>oy zk v
def als:oz 143 1:=fun v=>oy zk v
def aCQ:oz 185 1:=fun v=>oy zk v
def aCR:oz 192 1:=fun v=>oy zk v
def aCS:oz 194 1:=fun v=>oy zk v
def aCT:oz 198 4:=fun v=>oy zk v
def aCU:oz 20 1:=fun v=>oy zk v
def aCV:oz 3 1:=fun v=>oy zk v
def alu:oz 39 1:=fun v=>oy zk v
def aCW:oz 4 1:=fun v=>oy zk v
def aCX:oz 45 1:=fun v=>oy zk v
def aCY:oz 57 1:=fun v=>oy zk v
def aCZ:oz 68 1:=fun v=>oy zk v
def aC0:oz 79 1:=fun v=>oy zk v
def aC1:oz 82 1:=fun v=>oy zk v
def alv:oz 83 1:=fun v=>oy zk v
def alw:oz 84 1:=fun v=>oy zk v
def aC2:oz 89 1:=fun v=>oy zk v
def aC3:oz 9 1:=fun v=>oy zk v
def aC4:oz 94 1:=fun v=>oy zk v
def aC5:oz 98 1:=fun v=>oy zk v
def aC6(t:TypeId)(v:Y):RD bdB (a38 (ak t v) 20 201 G) w K X=if t=201 then K (aq #[v,.bool G]) else K (aq #[(.int .i64 0),.bool ae]):=To zk zk t v
def aC7(t:TypeId)(v:Y):RD bdB (a38 (ak t v) 89 171 G) w K X=if t=171 then K (aq #[v,.bool G]) else K (aq #[(aW []),.bool ae]):=To zk zk t v
def aC8(t:TypeId)(v:Y):RD bdB (a38 (ak t v) 89 172 G) w K X=if t=172 then K (aq #[v,.bool G]) else K (aq #[(.int .i64 0),.bool ae]):=To zk zk t v
def aC9(t:TypeId)(v:Y):RD bdB (a38 (ak t v) 89 175 G) w K X=if t=175 then K (aq #[v,.bool G]) else K (aq #[(au V),.bool ae]):=To zk zk t v
def aDa(t:TypeId)(v:Y):RD bdB (a38 (ak t v) 89 87 G) w K X=if t=87 then K (aq #[v,.bool G]) else K (aq #[(au V),.bool ae]):=To zk zk t v
def aDb:RD bdB (a38 aj 20 201 G) w K X=K (aq #[(.int .i64 0),.bool ae]):=Tp zk zk
def aDc:RD bdB (a38 aj 89 171 G) w K X=K (aq #[(aW []),.bool ae]):=Tp zk zk
def aDd:RD bdB (a38 aj 89 172 G) w K X=K (aq #[(.int .i64 0),.bool ae]):=Tp zk zk
def aDe:RD bdB (a38 aj 89 175 G) w K X=K (aq #[(au V),.bool ae]):=Tp zk zk
def aDf:RD bdB (a38 aj 89 87 G) w K X=K (aq #[(au V),.bool ae]):=Tp zk zk
def alx{k:IntKind}{i:Int}(a:0<=i)(b:i<23):RD bdB (Instr.index 256 (.agg cs) (.int k i)) w K X=Tl cs i K (GR bdB (Instr.index 256 (.agg cs) (.int k i)) w K X):=ayy (e:=9) zk zk a b
def zB := (zA zG0 (zA @azo (zA @aCf (zA @akY (zA @akZ (zA @ak4 (zA @alf (zA @aln (zA @alr (zA @ak2 (zA @alh (zA @alp (zA @alq (zA @alx (zA @ak0 (zA @ak1 (zA @ak3 (zA @ak5 (zA @ak6 (zA @ak7 (zA @ak8 (zA @ak9 (zA @ala (zA @alb (zA @alc (zA @ald (zA @ale (zA @alg (zA @ali (zA @alj (zA @alk (zA @alm (zA @alo (zA @als (zA @alu (zA @alv (zA @alw (zA @ay1 (zA @ay2 (zA @azc (zA @aBI (zA @aBJ (zA @aCY (zA @aCZ (zA @ay4 (zA @aBL (zA @aC0 (zA @azn (zA @aCr (zA @aCs (zA @ayY (zA @ay3 (zA @azG (zA @azI (zA @aAW (zA @aAX (zA @aBD (zA @aBK (zA @aCg (zA @aCh (zA @azU (zA @aBT (zA @aC5 (zA @azC (zA @azH (zA @azJ (zA @aAZ (zA @aBQ (zA @aDa (zA @aDf (zA @azb (zA @aA1 (zA @aB9 (zA @aCV (zA @aA0 (zA @aBS (zA @aB5 (zA @azB (zA @aC2 (zA @aC4 (zA @aBe (zA @aBP (zA @aCC (zA @aCH (zA @azK (zA @azV (zA @azW (zA @azX (zA @aBg (zA @aBR (zA @aCj (zA @aCI (zA @aC7 (zA @aC8 (zA @aC9 (zA @aDc (zA @aDd (zA @aDe (zA @aAm (zA @aAn (zA @aBc (zA @aBM (zA @aB3 (zA @azR (zA @aCi (zA @aCe (zA @aCb (zA @azd (zA @azA (zA @aAh (zA @aAi (zA @aAj (zA @aAk (zA @aAl (zA @aBd (zA @aBh (zA @aBx (zA @aBH (zA @aBN (zA @aB4 (zA @aCa (zA @aCc (zA @aC1 (zA @azm (zA @azr (zA @az9 (zA @aAb (zA @aBq (zA @aCP (zA @ay6 (zA @aCq (zA @azi (zA @aAa (zA @aAT (zA @aA3 (zA @aBb (zA @aBO (zA @aB1 (zA @aCy (zA @aCG (zA @aCO (zA @azF (zA @azT (zA @az8 (zA @aAe (zA @aAf (zA @aBo (zA @aBp (zA @aBV (zA @azQ (zA @aAd (zA @aAg (zA @aAC (zA @aAD (zA @aAE (zA @aA4 (zA @aBr (zA @aBW (zA @azM (zA @aAF (zA @aAR (zA @aAS (zA @aAU (zA @aAY (zA @aCk (zA @aza (zA @aAc (zA @aB6 (zA @ay5 (zA @ay7 (zA @az3 (zA @az4 (zA @az5 (zA @az6 (zA @az7 (zA @aA9 (zA @aBl (zA @aBm (zA @aBE (zA @aCw (zA @aC3 (zA @aBn (zA @ayW (zA @ay9 (zA @aAV (zA @aB8 (zA @aCv (zA @aCN (zA @az0 (zA @aAw (zA @aAy (zA @aA7 (zA @aBa (zA @aBj (zA @aBy (zA @aBz (zA @aBG (zA @azh (zA @azl (zA @azq (zA @azZ (zA @az1 (zA @az2 (zA @aAr (zA @aA5 (zA @aBk (zA @aBt (zA @aBX (zA @aBZ (zA @aCo (zA @aCx (zA @aCD (zA @aCL (zA @aCM (zA @azS (zA @aAM (zA @aAN (zA @aAO (zA @aAP (zA @aAQ (zA @aA2 (zA @aBu (zA @aBU (zA @aAu (zA @aB2 (zA @aCF (zA @aCU (zA @azu (zA @azY (zA @aAo (zA @aBi (zA @aBs (zA @azL (zA @aAt (zA @aAv (zA @aAz (zA @aAA (zA @aAB (zA @aBA (zA @aCd (zA @aC6 (zA @aDb (zA @aAp (zA @aAs (zA @aAx (zA @aA6 (zA @aBv (zA @aBY (zA @aCt (zA @aCu (zA @ay8 (zA @aAq (zA @aCz (zA @azD (zA @azE (zA @aCn (zA @aAJ (zA @azg (zA @azt (zA @aCS (zA @azy (zA @azz (zA @aAK (zA @ayZ (zA @aBC (zA @azk (zA @aAL (zA @aCp (zA @ayU (zA @ayX (zA @azp (zA @azw (zA @aBf (zA @aBw (zA @aCJ (zA @aCT (zA @ayT (zA @azx (zA @aAG (zA @aAH (zA @aAI (zA @aA8 (zA @aBB (zA @aB0 (zA @ay0 (zA @azj (zA @azs (zA @azv (zA @aBF (zA @aCm (zA @aCR (zA @aCW (zA @aCE (zA @aCX (zA @ayV (zA @aze (zA @azf (zA @azN (zA @aCl (zA @aCA (zA @aCK (zA @aCQ (zA @aB7 (zA @azP (zA @aCB @azO)))))))))))))))))))))))))))))))))))))))))))))))))))))))))))))))))))))))))))))))))))))))))))))))))))))))))))))))))))))))))))))))))))))))))))))))))))))))))))))))))))))))))))))))))))))))))))))))))))))))))))))))))))))))))))))))))))))))))))))))))))))))))))))))))))))))))))))))))))))))))))))))))))))))))))))))))
def bG {P : Prop} (k : Q) (t : Q -> P := by intro  a; simp (disch:=first|assumption|omega|simp only[zS]<;>omega|decide) only[zB,simprocAttr,kN]; exact a) : P := t k
def eR {P : Prop} (t : P := by simp (disch:=first|assumption|omega|simp only[zS]<;>omega|decide) only[zB,simprocAttr,kN]) : P := t
def cJ {P:Prop} (a : A0) (k : Q) (t : A0 -> Q -> P := by intro a b; simp (disch:=first|assumption|omega|simp only[zS]<;>omega|decide) only[zB,simprocAttr,kN, a]; exact b) : P := t a k
def eV {P:Prop} (a : A0) (t : A0 -> P := by intro a; simp (disch:=first|assumption|omega|simp only[zS]<;>omega|decide) only[zB,simprocAttr,kN, a]) : P := t a
def dA {P:Prop} (a : A0) (b : A1) (k : Q) (t : A0 -> A1 -> Q -> P := by intro a b c; simp (disch:=first|assumption|omega|simp only[zS]<;>omega|decide) only[zB,simprocAttr,kN, a, b]; exact c) : P := t a b k
def mv {P:Prop} (a : A0) (b : A1) (t : A0 -> A1 -> P := by intro a b; simp (disch:=first|assumption|omega|simp only[zS]<;>omega|decide) only[zB,simprocAttr,kN, a, b]) : P := t a b
def jh {P:Prop} (a : A0) (b : A1) (c : Kz) (k : Q) (t : A0 -> A1 -> Kz -> Q -> P := by intro a b c d; simp (disch:=first|assumption|omega|simp only[zS]<;>omega|decide) only[zB,simprocAttr,kN, a, b, c]; exact d) : P := t a b c k
def KA {P:Prop} (a : A0) (b : A1) (c : Kz) (t : A0 -> A1 -> Kz -> P := by intro a b c; simp (disch:=first|assumption|omega|simp only[zS]<;>omega|decide) only[zB,simprocAttr,kN, a, b, c]) : P := t a b c
def dG {e P:Prop} (a : A0) (b : A1) (c : Kz) (d : e) (k : Q) (t : A0 -> A1 -> Kz -> e -> Q -> P := by intro a b c d f; simp (disch:=first|assumption|omega|simp only[zS]<;>omega|decide) only[zB,simprocAttr,kN, a, b, c, d]; exact f) : P := t a b c d k
def AA {e P:Prop} (a : A0) (b : A1) (c : Kz) (d : e) (t : A0 -> A1 -> Kz -> e -> P := by intro a b c d; simp (disch:=first|assumption|omega|simp only[zS]<;>omega|decide) only[zB,simprocAttr,kN, a, b, c, d]) : P := t a b c d
def KB {P : Prop} (k : Q) (t : Q -> P := by intro  a; simp (disch:=first|assumption|omega|simp only[zS]<;>omega|decide) only[zB,Nat.reduceAdd,Nat.reduceMul,Nat.reduceLeDiff,Nat.reduceEqDiff,Int.reduceToNat,Int.reduceAdd,Int.reduceLT,Int.reduceLE,↓reduceIte,kN]; exact a) : P := t k
def yU {P:Prop} (a : A0) (k : Q) (t : A0 -> Q -> P := by intro a b; simp (disch:=first|assumption|omega|simp only[zS]<;>omega|decide) only[zB,Nat.reduceAdd,Nat.reduceMul,Nat.reduceLeDiff,Nat.reduceEqDiff,Int.reduceToNat,Int.reduceAdd,Int.reduceLT,Int.reduceLE,↓reduceIte,kN, a]; exact b) : P := t a k
def acV {P:Prop} (a : A0) (t : A0 -> P := by intro a; simp (disch:=first|assumption|omega|simp only[zS]<;>omega|decide) only[zB,Nat.reduceAdd,Nat.reduceMul,Nat.reduceLeDiff,Nat.reduceEqDiff,Int.reduceToNat,Int.reduceAdd,Int.reduceLT,Int.reduceLE,↓reduceIte,kN, a]) : P := t a
open Go.RowKit
def fO(F:Nat->Prop)(w:Z)(a:TypeId)(v:Y)(vs:List Y):Prop:=
 (vs=[]/\v = bW) \/
 ∃ b cs,v = cS b vs.length cs.size/\F b/\w.heap[b]?=aO cs a/\vs.length<=cs.size/\cs.toList.take vs.length=vs
theorem fO.mono{F':Nat->Prop}{a:TypeId}(h:fO F w a v vs)
  (c:∀ b,F b->F' b) (hw:∀ b cs,F b->w.heap[b]?=aO cs a->w'.heap[b]?=aO cs a):fO F' w' a v vs:=by
 rcases h with h | ⟨b,cs,d,e,f,g⟩
 .exact .inl h
 .exact .inr zg
mutual
def eQ (F:Nat->Prop) (w:Z) (v:Y):Ex->Prop
 | .mk kind name n k args=>∃ b av vs,v = au (O ⟨b,0,V⟩)/\F b /\
  w.heap[b]?=aO #[.int .u8 kind,aW name,zi n,zi k,av] 178 /\
  fO F w 106 av vs/\eS F w vs args
 termination_by structural x=>x
def eS (F:Nat->Prop) (w:Z) (vs:List Y):List Ex->Prop
 | []=>vs=[]
 | x::xs=>∃ v r,vs=v::r/\eQ F w v x/\eS F w r xs
 termination_by structural x=>x
end
def D0:Obj->Prop
 | ah _ t z=>(t=178\/t=106\/t=149\/t=84)/\z=(0,0)
 | _=>False
mutual
theorem eQ.mono {F F':Nat->Prop} {w w':Z} (a:∀ b,F b->F' b) (hw:∀ b o,F b->D0 o->w.heap[b]?=O o->w'.heap[b]?=O o) :
  ∀ (x:Ex) (v:Y),eQ F w v x->eQ F' w' v x
 | .mk kind name n k args,v,h=>by
  unfold eQ at h ⊢;obtain⟨b,av,vs,d,c,e,f,g⟩:=h;exact⟨b,av,vs,d,a b c,hw b _ c ⟨.inl J,J⟩ e,f.mono a fun b cs i j=>hw b _ i ⟨zg,J⟩ j,eS.mono a hw args vs g⟩
 termination_by structural x=>x
theorem eS.mono {F F':Nat->Prop} {w w':Z} (a:∀ b,F b->F' b) (hw:∀ b o,F b->D0 o->w.heap[b]?=O o->w'.heap[b]?=O o) :
  ∀ (l:List Ex) (vs:List Y),eS F w vs l->eS F' w' vs l
 | [],vs,h=>by grind [eS]
 | x::xs,vs,h=>by
  unfold eS at h ⊢;obtain⟨v,r,d,c,e⟩:=h;exact⟨v,r,d,eQ.mono a hw x v c,eS.mono a hw xs r e⟩
 termination_by structural x=>x
end
mutual
def dL (F:Nat->Prop) (w:Z) (v:Y):Bd->Prop
 | .mk kind name args parts=>∃ b av a vs us,v = au (O ⟨b,0,V⟩)/\F b /\
  w.heap[b]?=aO #[.int .u8 kind,aW name,av,a] 149 /\
  fO F w 106 av vs/\eS F w vs args/\fO F w 84 a us/\gD F w us parts
 termination_by structural x=>x
def gD (F:Nat->Prop) (w:Z) (vs:List Y):List Bd->Prop
 | []=>vs=[]
 | x::xs=>∃ v r,vs=v::r/\dL F w v x/\gD F w r xs
 termination_by structural x=>x
end
mutual
theorem dL.mono {F F':Nat->Prop} {w w':Z} (a:∀ b,F b->F' b) (hw:∀ b o,F b->D0 o->w.heap[b]?=O o->w'.heap[b]?=O o) :
  ∀ (x:Bd) (v:Y),dL F w v x->dL F' w' v x
 | .mk kind name args parts,v,h=>by
  unfold dL at h ⊢;obtain⟨b,av,i,vs,us,d,c,e,j,n,k,m⟩:=h;exact⟨b,av,i,vs,us,d,a b c,hw b _ c ⟨zg,J⟩ e,j.mono a fun b cs f g=>hw b _ f ⟨zg,J⟩ g,
   (by grind [eS.mono]),k.mono a fun b cs f g=>hw b _ f ⟨zg,J⟩ g,gD.mono a hw parts us m⟩
 termination_by structural x=>x
theorem gD.mono {F F':Nat->Prop} {w w':Z} (a:∀ b,F b->F' b) (hw:∀ b o,F b->D0 o->w.heap[b]?=O o->w'.heap[b]?=O o) :
  ∀ (l:List Bd) (vs:List Y),gD F w vs l->gD F' w' vs l
 | [],vs,h=>by grind [gD]
 | x::xs,vs,h=>by
  unfold gD at h ⊢;obtain⟨v,r,d,c,e⟩:=h;exact⟨v,r,d,dL.mono a hw x v c,gD.mono a hw xs r e⟩
 termination_by structural x=>x
end
structure TW(T:List P.Tok):Prop where
 len:T.length<=2001
 last:∃ l t,T=l++[t]/\t.kind=0/\∀ u∈l,u.kind≠0
 kind:∀ u∈T,u.kind<=4
 digits:∀ u∈T,u.kind=3->u.text≠[]/\u.text.all P.digit=G/\u.text.length<=9
 words:∀ u∈T,u.kind=1->∃ c r,u.text=c::r/\P.cls c=115
 vars:∀ u∈T,u.kind=2->u.text≠[]
def TW.pos(h:TW T):0<T.length:=by
 obtain⟨l,t,rfl,_⟩:=h.last;simp
def TW.next(h:TW T)(hk:k<T.length)(a:(tk T k).kind≠0):k+1<T.length:=by
 obtain⟨l,t,rfl,b,_⟩:=h.last;grind [List.length_append,List.length_cons,List.length_nil,Nat.lt_or_ge,absurd,tk]
def KC(hk:k<T.length):tk T k∈T:=by
 grind [tk,List.getElem?_eq_getElem,List.getElem_mem]
structure AB(w:Z)(B:Nat):Prop where
 lt:2<B
 G0:∀ l,l<2->∃ b o c,b<B/\w.cell? ⟨2,l,V⟩=O (.slice (O ⟨b,o,V⟩) (P.ops l).length c) /\
  ∀ j,j<(P.ops l).length->w.cell? ⟨b,o+j,V⟩=O (aW ((P.ops l).getD j []))
theorem Ns{a:Addr}(h:w.cell? a=O v)(hw:∀ o,w.heap[a.block]?=O o->w'.heap[a.block]?=O o):w'.cell? a=O v:=by
 grind [World.cell?,World.cell?_of_block]
theorem AB.ext(h:AB w B)(hw:∀ (b:Nat) (o:Obj),b<B->w.heap[b]?=O o->w'.heap[b]?=O o):AB w' B:=by
 refine⟨h.lt,fun l a=>?_⟩;grind [Ns,G0,lt]
def Tu(w:Z)(tb:Nat)(T:List P.Tok):Prop:=
 AB w tb/\∃ cs,w.heap[tb]?=aO cs 142/\∀ j,j<T.length ->
  cs[j*3]?=O (zi ((tk T j).kind))/\cs[j*3+1]?=O (aW ((tk T j).text))/\cs[j*3+2]?=O (zi ((tk T j).pos))
structure SP(w:Z)(pb tb:Nat)(T:List P.Tok)(k:Nat)(vars:List Bs)(d:Nat):Prop where
 tw:TW T
 lt:tb<pb
 kt:k<T.length
 nv:vars.length<=12
 toks:Tu w tb T
 yV:∃ cap vv,T.length<=cap/\cap<=9223372036854775807/\w.heap[pb]?=aO #[.slice (O ⟨tb,k*3,V⟩) (T.length-k) (cap-k),vv,zi d] 145 /\
  w.ownsRow (pb+1) 9 1 vv vars.length (vars.map fun s=>aW s)
def SB(w:Z)(pb:Nat):Prop:=∃ lv vv d,w.heap[pb]?=aO #[lv,vv,zi d] 145
def MS(pb b:Nat)(o:Obj):Prop:=b=pb\/(pb<b/\∃ cs z,o = ah cs 9 z)
abbrev db(pb:Nat)(w w':Z):Prop:=bD (MS pb) w w'
def db.toks(h:db pb w w')(f:tb<pb)(ht:Tu w tb T):Tu w' tb T:=by
 obtain⟨a,cs,c,d⟩:=ht;exact⟨a.ext fun b o g e=>h.block _ _ e (by rintro (h | ⟨h,_⟩)<;>omega),cs,h.block _ _ c (by rintro (h | ⟨h,_⟩)<;>omega),d⟩
theorem db.bL(h:db pb w w'){t:TypeId}{z:Nat×Nat}(a:w.heap[b]?=O (ah cs t z))
  (c:b≠pb) (ht:t≠9):w'.heap[b]?=O (ah cs t z):=
 h.block _ _ a (by
  rintro (h | ⟨_,cs',d,h⟩)<;>grind)
theorem db.lL{o:Obj}(h:db pb w w')(a:D0 o)(c:w.heap[b]?=O o)(d:b≠pb):w'.heap[b]?=O o:=by
 cases o with
 | cells cs t z=>
  refine h.bL c d ?_;rintro rfl;rcases a.1 with h | h | h | h<;>cases h
 | _=>exact a.elim
abbrev Nu(w w':Z):Nat->Prop:=fun b=>w.heap.size<=b/\b<w'.heap.size
def nD(c a:Int)(w w':Z)(e:Ending):Prop:=
 ∃ b,e = .panicked [{ v:=ak 73 (pp b),recovered:=false }] /\
  w'.heap[b]?=aO #[zi c,zi a] 77/\w.heap.size<=b
def j6{α:Type}(I:(Nat->Prop)->Z->Y->α->Prop)(pb tb:Nat)(T:List P.Tok)(d:Nat)(w:Z):cr α->Ending->Z->Prop
 | .ok x k vs,e,w'=>∃ v,e = ai v/\I (Nu w w') w' v x/\SP w' pb tb T k vs d/\db pb w w'
 | .err c a,e,w'=>nD c a w w' e/\db pb w w'/\SB w' pb
open Sx
theorem bD.bR{M:Nat->Obj->Prop}{a b:Z}(h:bD M a b){p:Nat}{o:Obj}(c:(∀ x,M p x)\/a.heap.size<=p):bD M a (bR b p o):=
 ⟨h.os,h.tape,h.output,by rw[vy];exact h.size,(by grind [absurd,jg,bn,block])⟩
def yF{p:Prop}(h:p:=by grind [bD.refl,bD.alloc,bD.drew,bD.bR,bD.trans,bD.toM,bD.ext,size_alloc,vy,Cq,bn]):p:=h
def jK(hw:∀ (b:Nat) (o:Obj),w.heap[b]?=O o->w'.heap[b]?=O o){size:Nat}(h:w.ownsRow base e size v n xs):w'.ownsRow base e size v n xs:=by
 obtain⟨g1,g2⟩:=h;refine⟨g1,?_⟩;rcases g2 with g | ⟨g,cp,cur,a,c,f,d⟩
 .exact yH
 .exact .inr ⟨g,cp,cur,a,c,yH,d⟩
theorem KD{p:Nat}{o:Obj}{size:Nat}(h:w.ownsRow base e size v n xs)(d:p<base):(bR w p o).ownsRow base e size v n xs:=by
 obtain⟨g1,g2⟩:=h;refine⟨g1,?_⟩;rcases g2 with g | ⟨g,cp,cur,a,b,f,c⟩
 .exact yH
 .exact .inr ⟨g,cp,cur,a,b,yH,c⟩
def aly{P:Program}{t ty e:TypeId}{i:TypeInfo}{size bytes:Nat}(ht:P.underlying t=O (.slice e))(hi:P.info? e=O i)(d:i.zero=O z)
  (f:i.size=size) (g:i.bytes=bytes) (l:z.cells.size=size) (o:0<size)
 (p:w.ownsRow base e size v n xs) {T:TypeId} {q:Nat×Nat} (B:w.heap[b]?=O (ah cs T q)) (r:cs.toList.length=m*size) (s:∀ u∈cs.toList,u.oneCell'=G)
  (x:n+m<=1000000) (a:bytes<=1000) (y:base<=w.heap.size) {K:Y->Z->Prop}
  (h:∀ v' w',w'.ownsRow base e size v' (n+m) (xs++cs.toList)->w.grownBy w' v.ownBlock->(v'.ownBlock=v.ownBlock\/∀ k,v'.ownBlock=O k->w.heap.size<=k)->K v' w') :
  WR P (Builtin.append_ #[t,t] ty #[v,cS b m c]) w K X:=by
 have C:(n+m)*bytes<=1000000*1000:=Nat.mul_le_mul x a;obtain⟨v',w',A,D,E,F⟩:=S0 (P:=P) w base t ty e i z size bytes ht hi d f g l o v n xs p ⟨b,0,V⟩ m c cs.toList r (fun j u hu=>by
  rw[addr_add,Nat.zero_add];grind [cellOf]) s (by grind [maxLen]) zo y
 rw[vw A];grind
def bD.grow{M:Nat->Obj->Prop}{a b c:Z}(h:bD M a b){r:Option Nat}(d:b.grownBy c r)(hr:∀ k,r=O k->a.heap.size<=k):bD M a c:=
 ⟨d.os.trans h.os,d.tape.trans h.tape,d.output.trans h.output,Nat.le_trans h.size d.size,fun i o hi hm=>by
  have:=bn hi;have f:=h.block i o hi hm;rw[d.block i (bn f) (fun e=>by have:=hr i e.symm;omega)];exact f⟩
def gZ{size:Nat}(h:w.ownsRow base e size v n xs):∃ a c,v = .slice a n c:=by
 rcases h.2 with⟨rfl,rfl⟩| ⟨g,cap,cur,rfl,_⟩<;>grind
theorem Tu.at(h:Tu w tb T)(hk:k<T.length) :
  w.cell? ⟨tb,k*3,V⟩=O (zi ((tk T k).kind))/\w.cell? ⟨tb,k*3+1,V⟩=O (aW ((tk T k).text)) /\
   w.cell? ⟨tb,k*3+2,V⟩=O (zi ((tk T k).pos)):=by
 obtain⟨-,cs,a,b⟩:=h;grind [cellOf]
def SP.set{a:Nat}(h:SP w pb tb T k vars d)(hk:k'<T.length)
  (c:db pb w w')
  (n:∀ cap vv,w.heap[pb]?=aO #[.slice (O ⟨tb,k*3,V⟩) (T.length-k) (cap-k),vv,zi d] 145 ->
   w'.heap[pb]?=aO #[.slice (O ⟨tb,k'*3,V⟩) (T.length-k') (cap-k'),vv,zi a] 145)
  (o:∀ b,b≠pb->w'.heap[b]?=w.heap[b]?):SP w' pb tb T k' vars a:=by
 obtain⟨tw,lt,kt,nv,toks,cap,vv,e,f,p,i⟩:=h;refine⟨tw,lt,hk,nv,c.toks lt toks,cap,vv,e,f,zg,?_⟩;obtain⟨g1,g2⟩:=i;refine⟨g1,?_⟩;rcases g2 with g | ⟨g,cp,cur,j,l,q,m⟩
 .grind
 .exact .inr ⟨g,cp,cur,j,l,zg,m⟩
theorem db.G1{a b:Z}(h:db pb a b)(v:Y):db pb a (b.setCell ⟨pb,o,V⟩ v):=h.avw (fun _=>.inl J) v
def vA(hp:SP w pb tb T k vars d)(s:Bs)(h:ee T k s=G) :
  Calls bdB 49 #[pp pb,aW s] w fun e w'=>
   e = ai (.bool G)/\SP w' pb tb T (k+1) vars d/\db pb w w':=by
 obtain⟨cap,vv,jz,sX,gj,-⟩:=hp.yV;have h0:=cellOf gj (o:=0) J;have f0:=jV gj 0;obtain⟨t0,t1,-⟩:=hp.toks.at hp.kt;simp only[ee,Bool.and_eq_true,Bool.or_eq_true,beq_iff_eq] at h;have hkn:k+1<T.length:=hp.tw.next hp.kt zo
 have lp:SP (w.setCell ⟨pb,0,V⟩ (.slice (O ⟨tb,k*3+3,V⟩) (T.length-k-1) (cap-k-1))) pb tb T (k+1) vars d:=by
  refine hp.set hkn (db.G1 (bD.refl _ _) _) (fun cp v2 hv=>?_) (by grind [blk_setCell_other]);rw[gj] at hv;injection hv with hv;injection hv with hv;have hx:(Value.slice (O ⟨tb,k*3,V⟩) (T.length-k) (cap-k))=Value.slice (O ⟨tb,k*3,V⟩) (T.length-k) (cp-k):=by
   grind
  have hy:vv=v2:=zg;injection hx with _ _ hx;subst hy;rw[Bm gj];grind
 have tX:db pb w (w.setCell ⟨pb,0,V⟩ (.slice (O ⟨tb,k*3+3,V⟩) (T.length-k-1) (cap-k-1))):=db.G1 (bD.refl _ _) _;obtain⟨kd,iT⟩:∃ kd:Int,kd=((tk T k).kind:Int):=⟨_,J⟩;rw[<- iT] at t0;rw[h.2] at t1;have k0:(kd == 0)=false:=zg;have k2:(kd == 2)=false:=zg;have l1:1<T.length-k:=zo;have l2:T.length-k<=100000:=by have:=hp.tw.len;omega
 have l3:T.length-k<=cap-k:=zo;clear iT h;generalize hn:T.length-k=n at *;generalize hm:cap-k=m at *;clear hn hm jz sX hkn hp gj
 go_enter func49,ntmps49
 go_wp2
 go_ret
 exact⟨J,lp,tX⟩
def qK(hp:SP w pb tb T k vars d)(s:Bs)(h:ee T k s=ae)
  (hs:s.all P.digit=ae) :
  Calls bdB 49 #[pp pb,aW s] w fun e w'=>e = ai (.bool ae)/\w=w':=by
 obtain⟨cap,vv,jz,sX,gj,-⟩:=hp.yV;have h0:=cellOf gj (o:=0) J;obtain⟨t0,t1,-⟩:=hp.toks.at hp.kt;have yW:=hp.tw.kind _ (KC hp.kt);have xS:=hp.tw.digits _ (KC hp.kt);have l1:0<T.length-k:=by have:=hp.kt;omega
 have l2:T.length-k<=100000:=by have:=hp.tw.len;omega
 by_cases hx:(tk T k).text=s
 .have iT:(tk T k).kind=0\/(tk T k).kind=2:=by
   simp only[ee,hx,beq_self_eq_true,Bool.and_true,Bool.or_eq_false_iff,beq_eq_false_iff_ne] at h;grind
  rw[hx] at t1;rcases iT with iT | iT
  .rw[iT] at t0;clear h xS yW iT hx hp;generalize hn:T.length-k=n at *;generalize hm:cap-k=m at *;clear hn hm jz sX gj
   go_enter func49,ntmps49
   go_wp2
   go_ret
   exact⟨J,J⟩
  .rw[iT] at t0;clear h xS yW iT hx hp;generalize hn:T.length-k=n at *;generalize hm:cap-k=m at *;clear hn hm jz sX gj
   go_enter func49,ntmps49
   go_wp2
   go_ret
   exact⟨J,J⟩
 .obtain⟨kd,iT⟩:∃ kd:Int,kd=((tk T k).kind:Int):=⟨_,J⟩;rw[<- iT] at t0;obtain⟨x,xU⟩:=cj ((tk T k).text);rw[<- xU] at t1 hx;clear iT h xS yW xU hp;generalize hn:T.length-k=n at *;generalize hm:cap-k=m at *;clear hn hm jz sX gj
  go_enter func49,ntmps49
  go_wp2
  go_ret
  exact⟨J,J⟩
def Cr(c a:Int)(w:Z)(pb:Nat)(yX:SB w pb) :
  Calls bdB 47 #[zi c,zi a] w fun e w'=>nD c a w w' e/\db pb w w'/\SB w' pb:=by
 have lp:nD c a w (w.alloc (Obj.cells #[a4m a4s c,a4m a4s a] 77))
   (.panicked [{ v:=ak 73 (pp w.heap.size),recovered:=false }]):=
  ⟨_,J,blk_alloc_new _ _,Nat.le_refl _⟩
 have aDh:SB (w.alloc (Obj.cells #[a4m a4s c,a4m a4s a] 77)) pb:=by
  obtain⟨lv,vv,d,h⟩:=yX;exact⟨lv,vv,d,dT h⟩
 clear yX
 go_enter func47,ntmps47
 go_wp2
 exact⟨J,lp,(bD.refl _ _).alloc _,aDh⟩
