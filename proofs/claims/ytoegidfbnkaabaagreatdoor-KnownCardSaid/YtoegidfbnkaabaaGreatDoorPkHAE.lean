/- A part of one proof (ShT, SBase, GBase). -/
import Derived.Test.YtoegidfbnkaabaaGreatDoorPkHAD
set_option linter.all false
set_option maxRecDepth 100000
set_option maxHeartbeats 8000000
open Option renaming some → O, none → V
open Go renaming Value → Y, World → Z
open Bool renaming true → A, false → G
open Go.Obj renaming cells → ae
open Go.Ending renaming returned → ah
open Go.Value renaming nilIface → ai, iface → aj, tuple → ak, pointer → aq
open Go.Instr renaming loadAt → a0o, typeAssert → a0t, makeInterface → a0J, sliceAt → a0Y, makeMap → a2C, makeSlice → a29
open Nat renaming reduceAdd → a2k, reduceLeDiff → a2Q, reduceEqDiff → a2R, reduceMul → a3u
open Int renaming reduceToNat → a27, reduceAdd → a3v, reduceLT → a3M, reduceLE → a3N
open Go.Proofs.Tryz renaming prog → a9T
namespace Go.Proofs.YtoegidfbnkaabaaGreatDoor
open P
open Go.Proofs.YtoegidfbnkaabaaGreatDoor.Sx
variable{A0 A1 Q JA:Prop}{B b base c cap e k m n o pb tb:Nat}{F:Nat->Prop}{K:Y->Prop}{T:List P.Tok}{X:Y->Z->Prop}{cs:Array Y}{l:Int}{v z:Y}{Ev OF:IntKind}{vs xs:List Y}{w w':Z}{y:Operand}
abbrev yr(t e:Nat)(z:Array Y):Prop:=∀ {u:Y} {w:Z} {X:Y->Z->Prop} {K:Y->Z->Prop},WR a9T (Instr.alloc t A u) w K X=K (aq (O ⟨w.heap.size,0,V⟩)) (w.alloc (ae z e))
def awu:yr 100 100 #[(aq V),bH]:=yn (z:=(.agg #[(aq V),bH])) zk
def awv:yr 103 103 #[(aq V),bH,(aq V),(.map V)]:=yn (z:=(.agg #[(aq V),bH,(aq V),(.map V)])) zk
def aww:yr 108 108 #[(aq V)]:=yn (z:=(aq V)) zk
def awx:yr 122 122 #[(aq V)]:=yn (z:=(aq V)) zk
def aiJ:yr 142 142 #[(.int .i64 0),(aM []),(.int .i64 0)]:=yn (z:=(.agg #[(.int .i64 0),(aM []),(.int .i64 0)])) zk
def awy:yr 198 198 #[(aM []),(aM []),ai,bH]:=yn (z:=(.agg #[(aM []),(aM []),ai,bH])) zk
def awz:yr 27 27 #[(.int .i64 0)]:=yn (z:=(.int .i64 0)) zk
def awA:yr 29 29 #[(.int .u8 0),(aM []),(.int .i64 0),(.int .i64 0)]:=yn (z:=(.agg #[(.int .u8 0),(aM []),(.int .i64 0),(.int .i64 0)])) zk
def awB:yr 3 3 #[(.int .i64 0)]:=yn (z:=(.int .i64 0)) zk
def awC:yr 4 4 #[(.bool G)]:=yn (z:=(.bool G)) zk
def awD:yr 57 57 #[ai]:=yn (z:=ai) zk
def awE:yr 68 68 #[bH]:=yn (z:=bH) zk
def awF:yr 73 73 #[(aq V)]:=yn (z:=(aq V)) zk
def awG:yr 79 79 #[(aq V)]:=yn (z:=(aq V)) zk
def awH:yr 9 9 #[(aM [])]:=yn (z:=(aM [])) zk
def awI:yr 91 91 #[ai]:=yn (z:=(.agg #[ai])) zk
abbrev qI(t:Nat)(l:List (Nat×Nat))(z:Array Y):Prop:=∀ {parts:Array (Nat×Y)} {w:Z} {X:Y->Z->Prop} {K:Y->Prop},RD a9T (Instr.build t parts) w K X=Vy (Ew l z parts.toList) K (Et a9T (Instr.build t parts) w K X)
def awJ:qI 103 [(0,2),(2,1),(3,1)] #[(aq V),bH,(aq V),(.map V)]:=qH zk
def awK:qI 116 [(0,1),(1,2),(3,1),(4,1),(5,1)] #[(aq V),bH,(.int .i64 0),(aq V),(.int .i64 0),bH]:=qH zk
def awL:qI 121 [(0,1),(1,1),(2,1),(3,1),(4,1)] #[ai,(aq V),.nilFunc,bH,ai]:=qH zk
def awM:qI 130 [(0,1),(1,2),(3,1),(4,1),(5,1)] #[(.map V),bH,(.int .i64 0),(aq V),bH,bH]:=qH zk
def awN:qI 134 [] #[]:=qH zk
def aiK:qI 142 [(0,1),(1,1),(2,1)] #[(.int .i64 0),(aM []),(.int .i64 0)]:=qH zk
def awO:qI 145 [(0,1),(1,1),(2,1)] #[bH,bH,(.int .i64 0)]:=qH zk
def aiL:qI 149 [(0,1),(1,1),(2,1),(3,1)] #[(.int .u8 0),(aM []),bH,bH]:=qH zk
def awP:qI 180 [(0,1),(1,1)] #[(aM []),bH]:=qH zk
def awQ:qI 187 [(0,1),(1,1),(2,1)] #[(.map V),(aq V),(.int .i64 0)]:=qH zk
def awR:qI 196 [(0,1),(1,1)] #[(.int .i64 0),bH]:=qH zk
def awS:qI 198 [(0,1),(1,1),(2,1),(3,1)] #[(aM []),(aM []),ai,bH]:=qH zk
def awT:qI 203 [(0,1),(1,1),(2,1),(3,1),(4,1)] #[(aq V),bH,(.int .i64 0),(aq V),(.int .i64 0)]:=qH zk
def awU:qI 207 [(0,1),(1,1),(2,1),(3,1)] #[(aq V),bH,(.int .i64 0),(aq V)]:=qH zk
def awV:qI 213 [(0,1),(1,1),(2,1)] #[(aM []),(.int .i64 0),bH]:=qH zk
def awW:qI 247 [(0,2),(2,1),(3,1)] #[(.int .i64 0),bH,bH,(.int .i64 0)]:=qH zk
def awX:qI 29 [(0,1),(1,1),(2,1),(3,1)] #[(.int .u8 0),(aM []),(.int .i64 0),(.int .i64 0)]:=qH zk
def awY:qI 342 [(0,1),(1,1),(2,1),(3,1),(4,1)] #[(.int .i64 0),(aq V),(.int .i64 0),bH,bH]:=qH zk
def awZ:qI 356 [(0,1),(1,1),(2,1),(3,1)] #[(.int .i64 0),(aq V),bH,bH]:=qH zk
def aw0:qI 41 [(0,1),(1,1),(2,1),(3,1)] #[(aM []),(aM []),bH,(.int .i64 0)]:=qH zk
def aw1:qI 72 [(0,1)] #[bH]:=qH zk
def aw2:qI 77 [(0,1),(1,1)] #[(.int .i64 0),(.int .i64 0)]:=qH zk
def aiM:qI 86 [(0,1),(1,1),(2,1),(3,1)] #[(aM []),bH,(aq V),bH]:=qH zk
def aw3:qI 96 [(0,1),(1,1)] #[bH,(.int .i64 0)]:=qH zk
abbrev sN(t n e:Nat)(l:List (Nat×Nat))(z:Array Y):Prop:=∀ {parts:Array (Nat×Y)} {w:Z} {X:Y->Z->Prop} {K:Y->Z->Prop},WR a9T (Instr.buildSlice t n parts) w K X=Vz (Ew l z parts.toList) e n w K (WR0 a9T (Instr.buildSlice t n parts) w K X)
def aw4:sN 114 1 342 [(0,5)] #[(.int .i64 0),(aq V),(.int .i64 0),bH,bH]:=sL zk
def aw5:sN 128 1 356 [(0,4)] #[(.int .i64 0),(aq V),bH,bH]:=sL zk
def aiN:sN 143 1 142 [(0,3)] #[(.int .i64 0),(aM []),(.int .i64 0)]:=sL zk
def aw6:sN 192 1 185 [(0,1)] #[(aq V)]:=sL zk
def aw7:sN 194 1 198 [(0,4)] #[(aM []),(aM []),ai,bH]:=sL zk
def aw8:sN 200 1 20 [(0,1)] #[ai]:=sL zk
def aw9:sN 209 1 211 [(0,1)] #[(aq V)]:=sL zk
def axa:sN 22 37 41 [(0,4),(4,4),(8,4),(12,4),(16,4),(20,4),(24,4),(28,4),(32,4),(36,4),(40,4),(44,4),(48,4),(52,4),(56,4),(60,4),(64,4),(68,4),(72,4),(76,4),(80,4),(84,4),(88,4),(92,4),(96,4),(100,4),(104,4),(108,4),(112,4),(116,4),(120,4),(124,4),(128,4),(132,4),(136,4),(140,4),(144,4)] #[(aM []),(aM []),bH,(.int .i64 0),(aM []),(aM []),bH,(.int .i64 0),(aM []),(aM []),bH,(.int .i64 0),(aM []),(aM []),bH,(.int .i64 0),(aM []),(aM []),bH,(.int .i64 0),(aM []),(aM []),bH,(.int .i64 0),(aM []),(aM []),bH,(.int .i64 0),(aM []),(aM []),bH,(.int .i64 0),(aM []),(aM []),bH,(.int .i64 0),(aM []),(aM []),bH,(.int .i64 0),(aM []),(aM []),bH,(.int .i64 0),(aM []),(aM []),bH,(.int .i64 0),(aM []),(aM []),bH,(.int .i64 0),(aM []),(aM []),bH,(.int .i64 0),(aM []),(aM []),bH,(.int .i64 0),(aM []),(aM []),bH,(.int .i64 0),(aM []),(aM []),bH,(.int .i64 0),(aM []),(aM []),bH,(.int .i64 0),(aM []),(aM []),bH,(.int .i64 0),(aM []),(aM []),bH,(.int .i64 0),(aM []),(aM []),bH,(.int .i64 0),(aM []),(aM []),bH,(.int .i64 0),(aM []),(aM []),bH,(.int .i64 0),(aM []),(aM []),bH,(.int .i64 0),(aM []),(aM []),bH,(.int .i64 0),(aM []),(aM []),bH,(.int .i64 0),(aM []),(aM []),bH,(.int .i64 0),(aM []),(aM []),bH,(.int .i64 0),(aM []),(aM []),bH,(.int .i64 0),(aM []),(aM []),bH,(.int .i64 0),(aM []),(aM []),bH,(.int .i64 0),(aM []),(aM []),bH,(.int .i64 0),(aM []),(aM []),bH,(.int .i64 0),(aM []),(aM []),bH,(.int .i64 0),(aM []),(aM []),bH,(.int .i64 0),(aM []),(aM []),bH,(.int .i64 0),(aM []),(aM []),bH,(.int .i64 0)]:=sL zk
def axb:sN 24 37 29 [(0,4),(4,4),(8,4),(12,4),(16,4),(20,4),(24,4),(28,4),(32,4),(36,4),(40,4),(44,4),(48,4),(52,4),(56,4),(60,4),(64,4),(68,4),(72,4),(76,4),(80,4),(84,4),(88,4),(92,4),(96,4),(100,4),(104,4),(108,4),(112,4),(116,4),(120,4),(124,4),(128,4),(132,4),(136,4),(140,4),(144,4)] #[(.int .u8 0),(aM []),(.int .i64 0),(.int .i64 0),(.int .u8 0),(aM []),(.int .i64 0),(.int .i64 0),(.int .u8 0),(aM []),(.int .i64 0),(.int .i64 0),(.int .u8 0),(aM []),(.int .i64 0),(.int .i64 0),(.int .u8 0),(aM []),(.int .i64 0),(.int .i64 0),(.int .u8 0),(aM []),(.int .i64 0),(.int .i64 0),(.int .u8 0),(aM []),(.int .i64 0),(.int .i64 0),(.int .u8 0),(aM []),(.int .i64 0),(.int .i64 0),(.int .u8 0),(aM []),(.int .i64 0),(.int .i64 0),(.int .u8 0),(aM []),(.int .i64 0),(.int .i64 0),(.int .u8 0),(aM []),(.int .i64 0),(.int .i64 0),(.int .u8 0),(aM []),(.int .i64 0),(.int .i64 0),(.int .u8 0),(aM []),(.int .i64 0),(.int .i64 0),(.int .u8 0),(aM []),(.int .i64 0),(.int .i64 0),(.int .u8 0),(aM []),(.int .i64 0),(.int .i64 0),(.int .u8 0),(aM []),(.int .i64 0),(.int .i64 0),(.int .u8 0),(aM []),(.int .i64 0),(.int .i64 0),(.int .u8 0),(aM []),(.int .i64 0),(.int .i64 0),(.int .u8 0),(aM []),(.int .i64 0),(.int .i64 0),(.int .u8 0),(aM []),(.int .i64 0),(.int .i64 0),(.int .u8 0),(aM []),(.int .i64 0),(.int .i64 0),(.int .u8 0),(aM []),(.int .i64 0),(.int .i64 0),(.int .u8 0),(aM []),(.int .i64 0),(.int .i64 0),(.int .u8 0),(aM []),(.int .i64 0),(.int .i64 0),(.int .u8 0),(aM []),(.int .i64 0),(.int .i64 0),(.int .u8 0),(aM []),(.int .i64 0),(.int .i64 0),(.int .u8 0),(aM []),(.int .i64 0),(.int .i64 0),(.int .u8 0),(aM []),(.int .i64 0),(.int .i64 0),(.int .u8 0),(aM []),(.int .i64 0),(.int .i64 0),(.int .u8 0),(aM []),(.int .i64 0),(.int .i64 0),(.int .u8 0),(aM []),(.int .i64 0),(.int .i64 0),(.int .u8 0),(aM []),(.int .i64 0),(.int .i64 0),(.int .u8 0),(aM []),(.int .i64 0),(.int .i64 0),(.int .u8 0),(aM []),(.int .i64 0),(.int .i64 0),(.int .u8 0),(aM []),(.int .i64 0),(.int .i64 0),(.int .u8 0),(aM []),(.int .i64 0),(.int .i64 0),(.int .u8 0),(aM []),(.int .i64 0),(.int .i64 0)]:=sL zk
def axc:sN 39 1 9 [(0,1)] #[(aM [])]:=sL zk
def axd:sN 39 2 9 [(0,1),(1,1)] #[(aM []),(aM [])]:=sL zk
def axe:sN 39 3 9 [(0,1),(1,1),(2,1)] #[(aM []),(aM []),(aM [])]:=sL zk
def axf:sN 45 1 3 [(0,1)] #[(.int .i64 0)]:=sL zk
def axg:sN 45 2 3 [(0,1),(1,1)] #[(.int .i64 0),(.int .i64 0)]:=sL zk
def aiO:sN 68 1 79 [(0,1)] #[(aq V)]:=sL zk
def axh:sN 82 1 89 [(0,1)] #[ai]:=sL zk
def axi:sN 83 1 106 [(0,1)] #[(aq V)]:=sL zk
def axj:sN 94 1 87 [(0,1)] #[(aq V)]:=sL zk
def axk:sN 98 1 5 [(0,1)] #[(.int .u8 0)]:=sL zk
def axl:sN 98 2 5 [(0,1),(1,1)] #[(.int .u8 0),(.int .u8 0)]:=sL zk
def axm:sN 98 3 5 [(0,1),(1,1),(2,1)] #[(.int .u8 0),(.int .u8 0),(.int .u8 0)]:=sL zk
def aiP{l:List UInt8}{k:IntKind}{i:Int}(a:0<=i)(b:i<l.length):RD a9T (Instr.index 9 (aM l) (.int k i)) w K X=K (.int .u8 ((l.getD i.toNat 0).toNat)):=atd zk a b
def axn{k:IntKind}{n:Int}{K:Y->Z->Prop}:WR a9T (convert 3 21 (.int k n)) w K X=K (.int .i32 (IntKind.i32.wrap n)) w:=ath zk zk
def axo{x:Operand}(c:Y):RD a9T (bo .eql 57 x (.const c) ai ai) w K X=K (.bool A):=aiv zk c
def axp{x:Operand}(c:Y):RD a9T (bo .eql 89 x (.const c) ai ai) w K X=K (.bool A):=aiv zk c
def axq{x:Operand}(u:TypeId)(v:Y):RD a9T (bo .eql 57 x y (aj u v) ai) w K X=K (.bool G):=aiu zk u v
def axr{x:Operand}(u:TypeId)(v:Y):RD a9T (bo .eql 89 x y (aj u v) ai) w K X=K (.bool G):=aiu zk u v
def axs{x:Operand}(p:Option Nat):RD a9T (bo .eql 101 x y (.map p) (.map V)) w K X=K (.bool p.isNone):=av4 zk p
def axt{x:Operand}(p:Option Addr):RD a9T (bo .eql 113 x y (.pointer p) (aq V)) w K X=K (.bool p.isNone):=L7 zk p
def axu{x:Operand}(p:Option Addr):RD a9T (bo .eql 127 x y (.pointer p) (aq V)) w K X=K (.bool p.isNone):=L7 zk p
def axv{x:Operand}(p:Option Addr):RD a9T (bo .eql 185 x y (.pointer p) (aq V)) w K X=K (.bool p.isNone):=L7 zk p
def axw{x:Operand}(p:Option Addr):RD a9T (bo .eql 30 x y (.pointer p) (aq V)) w K X=K (.bool p.isNone):=L7 zk p
def axx{x:Operand}(p:Option Addr):RD a9T (bo .eql 35 x y (.pointer p) (aq V)) w K X=K (.bool p.isNone):=L7 zk p
def axy{x:Operand}(p:Option Addr):RD a9T (bo .eql 84 x y (.pointer p) (aq V)) w K X=K (.bool p.isNone):=L7 zk p
def axz{x:Operand}(p:Option Addr):RD a9T (bo .eql 87 x y (.pointer p) (aq V)) w K X=K (.bool p.isNone):=L7 zk p
def axA{x:Operand}(p:Option Addr)(n c:Nat):RD a9T (bo .eql 192 x y (.slice p n c) bH) w K X=K (.bool p.isNone):=ait zk p n c
def axB{x:Operand}(p:Option Addr)(n c:Nat):RD a9T (bo .eql 68 x y (.slice p n c) bH) w K X=K (.bool p.isNone):=ait zk p n c
abbrev fe(t f d:Nat):Prop:=∀ {b o:Nat} {w:Z} {X:Y->Z->Prop} {K:Y->Prop},RD a9T (Instr.fieldAt t (aq (O ⟨b,o,V⟩)) f) w K X=K (aq (O ⟨b,o+d,V⟩))
def axC:fe 100 1 1:=fc zk
def axD:fe 103 0 0:=fc zk
def axE:fe 103 1 2:=fc zk
def axF:fe 103 2 3:=fc zk
def axG:fe 116 0 0:=fc zk
def axH:fe 116 1 1:=fc zk
def axI:fe 116 2 3:=fc zk
def axJ:fe 116 3 4:=fc zk
def axK:fe 116 4 5:=fc zk
def axL:fe 121 0 0:=fc zk
def axM:fe 121 1 1:=fc zk
def axN:fe 121 2 2:=fc zk
def axO:fe 121 3 3:=fc zk
def axP:fe 121 4 4:=fc zk
def axQ:fe 130 0 0:=fc zk
def axR:fe 130 1 1:=fc zk
def axS:fe 130 2 3:=fc zk
def axT:fe 130 3 4:=fc zk
def axU:fe 130 4 5:=fc zk
def aiQ:fe 142 0 0:=fc zk
def aiR:fe 142 1 1:=fc zk
def aiS:fe 142 2 2:=fc zk
def aiT:fe 145 0 0:=fc zk
def aiU:fe 145 1 1:=fc zk
def axV:fe 149 0 0:=fc zk
def axW:fe 149 1 1:=fc zk
def axX:fe 149 2 2:=fc zk
def axY:fe 149 3 3:=fc zk
def axZ:fe 178 0 0:=fc zk
def ax0:fe 178 1 1:=fc zk
def ax1:fe 178 2 2:=fc zk
def ax2:fe 178 3 3:=fc zk
def ax3:fe 178 4 4:=fc zk
def ax4:fe 180 0 0:=fc zk
def ax5:fe 180 1 1:=fc zk
def ax6:fe 187 0 0:=fc zk
def ax7:fe 187 1 1:=fc zk
def ax8:fe 187 2 2:=fc zk
def ax9:fe 196 0 0:=fc zk
def aya:fe 196 1 1:=fc zk
def ayb:fe 198 0 0:=fc zk
def ayc:fe 198 1 1:=fc zk
def ayd:fe 198 2 2:=fc zk
def aye:fe 198 3 3:=fc zk
def ayf:fe 203 0 0:=fc zk
def ayg:fe 203 1 1:=fc zk
def ayh:fe 203 2 2:=fc zk
def ayi:fe 203 3 3:=fc zk
def ayj:fe 203 4 4:=fc zk
def ayk:fe 207 0 0:=fc zk
def ayl:fe 207 1 1:=fc zk
def aym:fe 207 2 2:=fc zk
def ayn:fe 207 3 3:=fc zk
def ayo:fe 213 0 0:=fc zk
def ayp:fe 213 1 1:=fc zk
def ayq:fe 213 2 2:=fc zk
def ayr:fe 247 0 0:=fc zk
def ays:fe 247 1 2:=fc zk
def ayt:fe 247 2 3:=fc zk
def ayu:fe 29 0 0:=fc zk
def ayv:fe 29 1 1:=fc zk
def ayw:fe 29 2 2:=fc zk
def ayx:fe 29 3 3:=fc zk
def ayy:fe 342 0 0:=fc zk
def ayz:fe 342 1 1:=fc zk
def ayA:fe 342 2 2:=fc zk
def ayB:fe 342 3 3:=fc zk
def ayC:fe 342 4 4:=fc zk
def ayD:fe 356 0 0:=fc zk
def ayE:fe 356 1 1:=fc zk
def ayF:fe 356 2 2:=fc zk
def ayG:fe 356 3 3:=fc zk
def ayH:fe 41 0 0:=fc zk
def ayI:fe 41 1 1:=fc zk
def ayJ:fe 41 2 2:=fc zk
def ayK:fe 41 3 3:=fc zk
def ayL:fe 72 0 0:=fc zk
def ayM:fe 77 0 0:=fc zk
def ayN:fe 77 1 1:=fc zk
def ayO:fe 86 0 0:=fc zk
def aiV:fe 86 1 1:=fc zk
def aiW:fe 86 2 2:=fc zk
def aiX:fe 86 3 3:=fc zk
def ayP:fe 91 0 0:=fc zk
def ayQ:fe 96 0 0:=fc zk
def ayR:fe 96 1 1:=fc zk
abbrev xm(t n:Nat):Prop:=∀ {b o len cap:Nat} {k:IntKind} {i:Int} {w:Z} {X:Y->Z->Prop} {K:Y->Prop},0<=i->i<len->RD a9T (Instr.indexAt t (.slice (O ⟨b,o,V⟩) len cap) (.int k i)) w K X=K (aq (O ⟨b,o+i.toNat*n,V⟩))
def ayS:xm 114 5:=fun a b=>xl zk a b
def ayT:xm 128 4:=fun a b=>xl zk a b
def aiY:xm 143 3:=fun a b=>xl zk a b
def ayU:xm 147 1:=fun a b=>xl zk a b
def ayV:xm 192 1:=fun a b=>xl zk a b
def ayW:xm 194 4:=fun a b=>xl zk a b
def ayX:xm 200 1:=fun a b=>xl zk a b
def ayY:xm 209 1:=fun a b=>xl zk a b
def ayZ:xm 22 4:=fun a b=>xl zk a b
def ay0:xm 24 4:=fun a b=>xl zk a b
def ay1:xm 39 1:=fun a b=>xl zk a b
def ay2:xm 45 1:=fun a b=>xl zk a b
def ay3:xm 68 1:=fun a b=>xl zk a b
def ay4:xm 82 1:=fun a b=>xl zk a b
def ay5:xm 83 1:=fun a b=>xl zk a b
def ay6:xm 94 1:=fun a b=>xl zk a b
def ay7:xm 98 1:=fun a b=>xl zk a b
abbrev j7(t:Nat):Prop:=∀ {b o:Nat} {w:Z} {X:Y->Z->Prop} {K:Y->Prop},RD a9T (a0o t (aq (O ⟨b,o,V⟩))) w K X=Vw (w.heap[b]?) o K (Et a9T (a0o t (aq (O ⟨b,o,V⟩))) w K X)
def ay8:j7 101:=j6 zk
def ay9:j7 106:=j6 zk
def aza:j7 108:=j6 zk
def azb:j7 113:=j6 zk
def azc:j7 114:=j6 zk
def azd:j7 117:=j6 zk
def aze:j7 119:=j6 zk
def azf:j7 122:=j6 zk
def azg:j7 125:=j6 zk
def azh:j7 127:=j6 zk
def azi:j7 128:=j6 zk
def aiZ:j7 140:=j6 zk
def ai0:RD a9T (a0o 142 (aq (O ⟨b,o,V⟩))) w K X=Jt (w.heap[b]?) o 3 K (Et a9T (a0o 142 (aq (O ⟨b,o,V⟩))) w K X):=Vx zk
def ai1:j7 143:=j6 zk
def azj:j7 147:=j6 zk
def azk:j7 184:=j6 zk
def azl:j7 185:=j6 zk
def azm:j7 192:=j6 zk
def azn:j7 194:=j6 zk
def azo:RD a9T (a0o 198 (aq (O ⟨b,o,V⟩))) w K X=Jt (w.heap[b]?) o 4 K (Et a9T (a0o 198 (aq (O ⟨b,o,V⟩))) w K X):=Vx zk
def azp:j7 2:=j6 zk
def azq:j7 20:=j6 zk
def azr:j7 200:=j6 zk
def azs:j7 201:=j6 zk
def azt:j7 211:=j6 zk
def azu:j7 245:=j6 zk
def ai2:RD a9T (a0o 256 (aq (O ⟨b,o,V⟩))) w K X=Jt (w.heap[b]?) o 23 K (Et a9T (a0o 256 (aq (O ⟨b,o,V⟩))) w K X):=Vx zk
def azv:j7 27:=j6 zk
def azw:RD a9T (a0o 29 (aq (O ⟨b,o,V⟩))) w K X=Jt (w.heap[b]?) o 4 K (Et a9T (a0o 29 (aq (O ⟨b,o,V⟩))) w K X):=Vx zk
def ai3:j7 3:=j6 zk
def azx:j7 35:=j6 zk
def ai4:j7 39:=j6 zk
def azy:j7 4:=j6 zk
def azz:j7 45:=j6 zk
def azA:j7 5:=j6 zk
def azB:j7 57:=j6 zk
def azC:j7 68:=j6 zk
def azD:j7 73:=j6 zk
def azE:j7 79:=j6 zk
def azF:j7 82:=j6 zk
def azG:j7 83:=j6 zk
def azH:j7 84:=j6 zk
def azI:j7 87:=j6 zk
def azJ:j7 89:=j6 zk
def ai5:j7 9:=j6 zk
def azK:j7 93:=j6 zk
def azL:j7 94:=j6 zk
def azM:j7 98:=j6 zk
abbrev yt(t:Nat):Prop:=∀ {a:Option Addr} {n c:Nat} {w:Z} {X:Y->Z->Prop} {K:Y->Prop},RD a9T (Builtin.len_ #[t] 3 #[.slice a n c]) w K X=K (.int .i64 n)
def azN:yt 114:=yo (e:=342) zk
def azO:yt 128:=yo (e:=356) zk
def azP:yt 147:=yo (e:=84) zk
def azQ:yt 192:=yo (e:=185) zk
def azR:yt 194:=yo (e:=198) zk
def azS:yt 200:=yo (e:=20) zk
def azT:yt 209:=yo (e:=211) zk
def azU:yt 22:=yo (e:=41) zk
def azV:yt 24:=yo (e:=29) zk
def azW:yt 39:=yo (e:=9) zk
def azX:yt 45:=yo (e:=3) zk
def ai6:yt 68:=yo (e:=79) zk
def azY:yt 82:=yo (e:=89) zk
def azZ:yt 83:=yo (e:=106) zk
def ai7{l:List UInt8}:RD a9T (Builtin.len_ #[9] 3 #[aM l]) w K X=K (.int .i64 l.length):=atc zk
def az0:yt 94:=yo (e:=87) zk
def az1:yt 98:=yo (e:=5) zk
def az2{K:Y->Z->Prop}:WR a9T (a0J 111 v) w K X=K (aj 111 v) w:=C3 zk
def az3{K:Y->Z->Prop}:WR a9T (a0J 122 v) w K X=K (aj 122 v) w:=C3 zk
def az4{K:Y->Z->Prop}:WR a9T (a0J 134 v) w K X=K (aj 134 v) w:=C3 zk
def az5{K:Y->Z->Prop}:WR a9T (a0J 171 v) w K X=K (aj 171 v) w:=C3 zk
def az6{K:Y->Z->Prop}:WR a9T (a0J 172 v) w K X=K (aj 172 v) w:=C3 zk
def az7{K:Y->Z->Prop}:WR a9T (a0J 175 v) w K X=K (aj 175 v) w:=C3 zk
def az8{K:Y->Z->Prop}:WR a9T (a0J 201 v) w K X=K (aj 201 v) w:=C3 zk
def az9{K:Y->Z->Prop}:WR a9T (a0J 27 v) w K X=K (aj 27 v) w:=C3 zk
def aAa{K:Y->Z->Prop}:WR a9T (a0J 73 v) w K X=K (aj 73 v) w:=C3 zk
def aAb{K:Y->Z->Prop}:WR a9T (a0J 75 v) w K X=K (aj 75 v) w:=C3 zk
def aAc{K:Y->Z->Prop}:WR a9T (a0J 78 v) w K X=K (aj 78 v) w:=C3 zk
def aAd{K:Y->Z->Prop}:WR a9T (a0J 87 v) w K X=K (aj 87 v) w:=C3 zk
def aAe{K:Y->Z->Prop}:WR a9T (a2C 101 V) w K X=K (.map (O w.heap.size)) (w.alloc (.map #[] 0)):=Rz
def aAf{K:Y->Z->Prop}:WR a9T (a2C 125 V) w K X=K (.map (O w.heap.size)) (w.alloc (.map #[] 0)):=Rz
def aAg{K:Y->Z->Prop}:WR a9T (a2C 184 V) w K X=K (.map (O w.heap.size)) (w.alloc (.map #[] 0)):=Rz
def aAh{K:Y->Z->Prop}:WR a9T (a2C 210 V) w K X=K (.map (O w.heap.size)) (w.alloc (.map #[] 0)):=Rz
def aAi{K:Y->Z->Prop}:WR a9T (a2C 240 V) w K X=K (.map (O w.heap.size)) (w.alloc (.map #[] 0)):=Rz
def aAj{K:Y->Z->Prop}(a:n<=m)(hm:m<=1000000):WR a9T (a29 200 (.int Ev n) (.int OF m)) w K X=K (cM w.heap.size n m) (w.alloc (ae (madeCells #[ai] (m*1)) 20)):=aaM (z:=ai) (by_:=16) zk a zd hm
def aAk{K:Y->Z->Prop}(a:n<=m)(hm:m<=1000000):WR a9T (a29 45 (.int Ev n) (.int OF m)) w K X=K (cM w.heap.size n m) (w.alloc (ae (madeCells #[(.int .i64 0)] (m*1)) 3)):=aaM (z:=(.int .i64 0)) (by_:=8) zk a zd hm
def aAl{K:Y->Z->Prop}(a:n<=m)(hm:m<=1000000):WR a9T (a29 82 (.int Ev n) (.int OF m)) w K X=K (cM w.heap.size n m) (w.alloc (ae (madeCells #[ai] (m*1)) 89)):=aaM (z:=ai) (by_:=16) zk a zd hm
def aAm{x:Operand}(c:Y):RD a9T (bo .neq 57 x (.const c) ai ai) w K X=K (.bool G):=av7 zk c
def aAn{x:Operand}(u:TypeId)(v:Y):RD a9T (bo .neq 57 x y (aj u v) ai) w K X=K (.bool A):=av5 zk u v
def aAo{x:Operand}(p:Option Addr):RD a9T (bo .neq 113 x y (.pointer p) (aq V)) w K X=K (.bool !p.isNone):=aaG zk p
def aAp{x:Operand}(p:Option Addr):RD a9T (bo .neq 185 x y (.pointer p) (aq V)) w K X=K (.bool !p.isNone):=aaG zk p
def aAq{x:Operand}(p:Option Addr):RD a9T (bo .neq 35 x y (.pointer p) (aq V)) w K X=K (.bool !p.isNone):=aaG zk p
def aAr{x:Operand}(p:Option Addr)(n c:Nat):RD a9T (bo .neq 39 x y (.slice p n c) bH) w K X=K (.bool !p.isNone):=av0 zk p n c
def aAs{a:Option Addr}{k:IntKind}(b:0<=l)(c:l<=cap):RD a9T (a0Y 114 (.slice a pb cap) V (O (.int k l)) V) w K X=K (sliced a 0 l.toNat cap 5):=Rs zk b c
def aAt{a:Option Addr}{k:IntKind}(b:0<=l)(c:l<=cap):RD a9T (a0Y 128 (.slice a pb cap) V (O (.int k l)) V) w K X=K (sliced a 0 l.toNat cap 4):=Rs zk b c
def aAu{a:Option Addr}{k:IntKind}(b:0<=l)(c:l<=cap):RD a9T (a0Y 200 (.slice a pb cap) V (O (.int k l)) V) w K X=K (sliced a 0 l.toNat cap 1):=Rs zk b c
def aAv{a:Option Addr}{k:IntKind}(b:0<=l)(c:l<=cap):RD a9T (a0Y 39 (.slice a pb cap) V (O (.int k l)) V) w K X=K (sliced a 0 l.toNat cap 1):=Rs zk b c
def aAw{a:Option Addr}{k:IntKind}(b:0<=l)(c:l<=cap):RD a9T (a0Y 94 (.slice a pb cap) V (O (.int k l)) V) w K X=K (sliced a 0 l.toNat cap 1):=Rs zk b c
def ai8{a:Option Addr}{k:IntKind}(b:0<=l)(c:l<=pb):RD a9T (a0Y 143 (.slice a pb cap) (O (.int k l)) V V) w K X=K (sliced a l.toNat pb cap 3):=OA zk b c
def aAx{a:Option Addr}{k:IntKind}(b:0<=l)(c:l<=pb):RD a9T (a0Y 192 (.slice a pb cap) (O (.int k l)) V V) w K X=K (sliced a l.toNat pb cap 1):=OA zk b c
def aAy{a:Option Addr}{k:IntKind}(b:0<=l)(c:l<=pb):RD a9T (a0Y 39 (.slice a pb cap) (O (.int k l)) V V) w K X=K (sliced a l.toNat pb cap 1):=OA zk b c
def aAz{a:Option Addr}{k:IntKind}(b:0<=l)(c:l<=pb):RD a9T (a0Y 45 (.slice a pb cap) (O (.int k l)) V V) w K X=K (sliced a l.toNat pb cap 1):=OA zk b c
def aAA{a:Option Addr}{k:IntKind}(b:0<=l)(c:l<=pb):RD a9T (a0Y 68 (.slice a pb cap) (O (.int k l)) V V) w K X=K (sliced a l.toNat pb cap 1):=OA zk b c
def ai9{s:List UInt8}{k:IntKind}(a:0<=l)(b:l<=s.length):RD a9T (a0Y 9 (aM s) (O (.int k l)) V V) w K X=K (aM (s.drop l.toNat)):=atf zk a b
def aAB{a:Option Addr}{k:IntKind}(b:0<=l)(c:l<=pb):RD a9T (a0Y 94 (.slice a pb cap) (O (.int k l)) V V) w K X=K (sliced a l.toNat pb cap 1):=OA zk b c
def aja{s:List UInt8}{k:IntKind}{m:Int}(a:0<=l)(b:l<=m)(c:m<=s.length):RD a9T (a0Y 9 (aM s) (O (.int k l)) (O (.int Ev m)) V) w K X=K (aM ((s.take m.toNat).drop l.toNat)):=atg zk a b c
abbrev nw(t n:Nat):Prop:=∀ {b o:Nat} {w:Z} {X:Y->Z->Prop} {K:Z->Prop} (v:Y),WU a9T (Instr.storeAt t (aq (O ⟨b,o,V⟩)) v) w K X=Rq (w.heap[b]?) w b o n v K (WU0 a9T (Instr.storeAt t (aq (O ⟨b,o,V⟩)) v) w K X)
def aAC:nw 101 1:=fun v=>nu zk v
def aAD:nw 103 4:=fun v=>nu zk v
def aAE:nw 108 1:=fun v=>nu zk v
def aAF:nw 113 1:=fun v=>nu zk v
def aAG:nw 114 1:=fun v=>nu zk v
def aAH:nw 122 1:=fun v=>nu zk v
def aAI:nw 127 1:=fun v=>nu zk v
def aAJ:nw 128 1:=fun v=>nu zk v
def ajb:nw 142 3:=fun v=>nu zk v
def ajc:nw 143 1:=fun v=>nu zk v
def aAK:nw 185 1:=fun v=>nu zk v
def aAL:nw 192 1:=fun v=>nu zk v
def aAM:nw 194 1:=fun v=>nu zk v
def aAN:nw 198 4:=fun v=>nu zk v
def aAO:nw 20 1:=fun v=>nu zk v
def aAP:nw 29 4:=fun v=>nu zk v
def aAQ:nw 3 1:=fun v=>nu zk v
def ajd:nw 39 1:=fun v=>nu zk v
def aAR:nw 4 1:=fun v=>nu zk v
def aAS:nw 45 1:=fun v=>nu zk v
def aAT:nw 57 1:=fun v=>nu zk v
def aAU:nw 68 1:=fun v=>nu zk v
def aAV:nw 79 1:=fun v=>nu zk v
def aAW:nw 82 1:=fun v=>nu zk v
def aje:nw 83 1:=fun v=>nu zk v
def ajf:nw 84 1:=fun v=>nu zk v
def aAX:nw 89 1:=fun v=>nu zk v
def aAY:nw 9 1:=fun v=>nu zk v
def aAZ:nw 94 1:=fun v=>nu zk v
def aA0:nw 98 1:=fun v=>nu zk v
def aA1(t:TypeId)(v:Y):RD a9T (a0t (aj t v) 20 201 A) w K X=if t=201 then K (ak #[v,.bool A]) else K (ak #[(.int .i64 0),.bool G]):=Rx zk zk t v
def aA2(t:TypeId)(v:Y):RD a9T (a0t (aj t v) 89 171 A) w K X=if t=171 then K (ak #[v,.bool A]) else K (ak #[(aM []),.bool G]):=Rx zk zk t v
def aA3(t:TypeId)(v:Y):RD a9T (a0t (aj t v) 89 172 A) w K X=if t=172 then K (ak #[v,.bool A]) else K (ak #[(.int .i64 0),.bool G]):=Rx zk zk t v
def aA4(t:TypeId)(v:Y):RD a9T (a0t (aj t v) 89 175 A) w K X=if t=175 then K (ak #[v,.bool A]) else K (ak #[(aq V),.bool G]):=Rx zk zk t v
def aA5(t:TypeId)(v:Y):RD a9T (a0t (aj t v) 89 87 A) w K X=if t=87 then K (ak #[v,.bool A]) else K (ak #[(aq V),.bool G]):=Rx zk zk t v
def aA6:RD a9T (a0t ai 20 201 A) w K X=K (ak #[(.int .i64 0),.bool G]):=Ry zk zk
def aA7:RD a9T (a0t ai 89 171 A) w K X=K (ak #[(aM []),.bool G]):=Ry zk zk
def aA8:RD a9T (a0t ai 89 172 A) w K X=K (ak #[(.int .i64 0),.bool G]):=Ry zk zk
def aA9:RD a9T (a0t ai 89 175 A) w K X=K (ak #[(aq V),.bool G]):=Ry zk zk
def aBa:RD a9T (a0t ai 89 87 A) w K X=K (ak #[(aq V),.bool G]):=Ry zk zk
def ajg{k:IntKind}{i:Int}(a:0<=i)(b:i<23):RD a9T (Instr.index 256 (.agg cs) (.int k i)) w K X=Rv cs i K (Et a9T (Instr.index 256 (.agg cs) (.int k i)) w K X):=av8 (e:=9) zk zk a b
def zB := (zA zG0 (zA @aw2 (zA @aAa (zA @aiJ (zA @aiK (zA @aiP (zA @ai0 (zA @ai7 (zA @ajb (zA @aiN (zA @ai2 (zA @ai9 (zA @aja (zA @ajg (zA @aiL (zA @aiM (zA @aiO (zA @aiQ (zA @aiR (zA @aiS (zA @aiT (zA @aiU (zA @aiV (zA @aiW (zA @aiX (zA @aiY (zA @aiZ (zA @ai1 (zA @ai3 (zA @ai4 (zA @ai5 (zA @ai6 (zA @ai8 (zA @ajc (zA @ajd (zA @aje (zA @ajf (zA @awD (zA @awE (zA @awO (zA @azB (zA @azC (zA @aAT (zA @aAU (zA @awG (zA @azE (zA @aAV (zA @aw1 (zA @aAm (zA @aAn (zA @awz (zA @awF (zA @axo (zA @axq (zA @ayM (zA @ayN (zA @azv (zA @azD (zA @aAb (zA @aAc (zA @axC (zA @azM (zA @aA0 (zA @axk (zA @axp (zA @axr (zA @ayP (zA @azJ (zA @aA5 (zA @aBa (zA @awN (zA @ayR (zA @az4 (zA @aAQ (zA @ayQ (zA @azL (zA @az0 (zA @axj (zA @aAX (zA @aAZ (zA @ay6 (zA @azI (zA @aAw (zA @aAB (zA @axs (zA @axD (zA @axE (zA @axF (zA @ay8 (zA @azK (zA @aAe (zA @aAC (zA @aA2 (zA @aA3 (zA @aA4 (zA @aA7 (zA @aA8 (zA @aA9 (zA @ax4 (zA @ax5 (zA @ay4 (zA @azF (zA @azY (zA @axz (zA @aAd (zA @az9 (zA @az6 (zA @awP (zA @axh (zA @axZ (zA @ax0 (zA @ax1 (zA @ax2 (zA @ax3 (zA @ay5 (zA @ay9 (zA @azp (zA @azA (zA @azG (zA @azZ (zA @az5 (zA @az7 (zA @aAW (zA @awZ (zA @aw5 (zA @axR (zA @axT (zA @azi (zA @aAJ (zA @awI (zA @aAl (zA @awU (zA @axS (zA @ayF (zA @ayT (zA @ay3 (zA @azH (zA @azW (zA @aAt (zA @aAA (zA @aAI (zA @axn (zA @axB (zA @axQ (zA @axW (zA @axX (zA @azg (zA @azh (zA @azO (zA @axy (zA @axV (zA @axY (zA @ayk (zA @ayl (zA @aym (zA @ayU (zA @azj (zA @azP (zA @axu (zA @ayn (zA @ayD (zA @ayE (zA @ayG (zA @ayO (zA @aAf (zA @awM (zA @axU (zA @axi (zA @awJ (zA @aw3 (zA @az1 (zA @awH (zA @axL (zA @axM (zA @axN (zA @axO (zA @axP (zA @ay1 (zA @azd (zA @aze (zA @azx (zA @aAr (zA @aAY (zA @azf (zA @awx (zA @awL (zA @ayL (zA @az3 (zA @aAq (zA @aAH (zA @axI (zA @aye (zA @ayg (zA @ayX (zA @ay2 (zA @azb (zA @azq (zA @azr (zA @azz (zA @awT (zA @awY (zA @aw4 (zA @axH (zA @axJ (zA @axK (zA @ax9 (zA @ayV (zA @azc (zA @azl (zA @azQ (zA @azS (zA @aAj (zA @aAs (zA @aAx (zA @aAF (zA @aAG (zA @axA (zA @ayy (zA @ayz (zA @ayA (zA @ayB (zA @ayC (zA @ayS (zA @azm (zA @azN (zA @ayc (zA @azX (zA @aAz (zA @aAO (zA @aw8 (zA @axG (zA @ax6 (zA @aza (zA @azk (zA @axt (zA @ayb (zA @ayd (zA @ayh (zA @ayi (zA @ayj (zA @azs (zA @az8 (zA @aA1 (zA @aA6 (zA @ax7 (zA @aya (zA @ayf (zA @ayW (zA @azn (zA @azR (zA @aAo (zA @aAp (zA @awK (zA @ax8 (zA @aAu (zA @axl (zA @axm (zA @aAi (zA @ayr (zA @awS (zA @aw7 (zA @aAM (zA @axf (zA @axg (zA @ays (zA @awB (zA @azu (zA @awW (zA @ayt (zA @aAk (zA @awv (zA @awy (zA @axc (zA @ay7 (zA @azo (zA @aAD (zA @aAN (zA @awu (zA @axd (zA @ayo (zA @ayp (zA @ayq (zA @ayY (zA @azt (zA @azT (zA @awC (zA @awV (zA @aw6 (zA @aw9 (zA @azy (zA @aAh (zA @aAL (zA @aAR (zA @aAy (zA @aAS (zA @aww (zA @awQ (zA @awR (zA @axv (zA @aAg (zA @aAv (zA @aAE (zA @aAK (zA @az2 (zA @aw0 (zA @axa (zA @axe (zA @awX (zA @axb (zA @awA (zA @axw (zA @axx (zA @ayu (zA @ayv (zA @ayw (zA @ayx (zA @ayH (zA @ayI (zA @ayJ (zA @ayK (zA @ayZ (zA @ay0 (zA @azw (zA @azU (zA @azV @aAP)))))))))))))))))))))))))))))))))))))))))))))))))))))))))))))))))))))))))))))))))))))))))))))))))))))))))))))))))))))))))))))))))))))))))))))))))))))))))))))))))))))))))))))))))))))))))))))))))))))))))))))))))))))))))))))))))))))))))))))))))))))))))))))))))))))))))))))))))))))))))))))))))))))))))))))))))))))))))))))))))))))
def bD {P : Prop} (k : Q) (t : Q -> P := by intro  a; simp (disch:=first|assumption|omega|simp only[zS]<;>omega|decide) only[zB,simprocAttr,lh]; exact a) : P := t k
def eQ {P : Prop} (t : P := by simp (disch:=first|assumption|omega|simp only[zS]<;>omega|decide) only[zB,simprocAttr,lh]) : P := t
def cG {P:Prop} (a : A0) (k : Q) (t : A0 -> Q -> P := by intro a b; simp (disch:=first|assumption|omega|simp only[zS]<;>omega|decide) only[zB,simprocAttr,lh, a]; exact b) : P := t a k
def fg {P:Prop} (a : A0) (t : A0 -> P := by intro a; simp (disch:=first|assumption|omega|simp only[zS]<;>omega|decide) only[zB,simprocAttr,lh, a]) : P := t a
def dy {P:Prop} (a : A0) (b : A1) (k : Q) (t : A0 -> A1 -> Q -> P := by intro a b c; simp (disch:=first|assumption|omega|simp only[zS]<;>omega|decide) only[zB,simprocAttr,lh, a, b]; exact c) : P := t a b k
def lT {P:Prop} (a : A0) (b : A1) (t : A0 -> A1 -> P := by intro a b; simp (disch:=first|assumption|omega|simp only[zS]<;>omega|decide) only[zB,simprocAttr,lh, a, b]) : P := t a b
def iJ {P:Prop} (a : A0) (b : A1) (c : JA) (k : Q) (t : A0 -> A1 -> JA -> Q -> P := by intro a b c d; simp (disch:=first|assumption|omega|simp only[zS]<;>omega|decide) only[zB,simprocAttr,lh, a, b, c]; exact d) : P := t a b c k
def JB {P:Prop} (a : A0) (b : A1) (c : JA) (t : A0 -> A1 -> JA -> P := by intro a b c; simp (disch:=first|assumption|omega|simp only[zS]<;>omega|decide) only[zB,simprocAttr,lh, a, b, c]) : P := t a b c
def dC {e P:Prop} (a : A0) (b : A1) (c : JA) (d : e) (k : Q) (t : A0 -> A1 -> JA -> e -> Q -> P := by intro a b c d f; simp (disch:=first|assumption|omega|simp only[zS]<;>omega|decide) only[zB,simprocAttr,lh, a, b, c, d]; exact f) : P := t a b c d k
def zP {e P:Prop} (a : A0) (b : A1) (c : JA) (d : e) (t : A0 -> A1 -> JA -> e -> P := by intro a b c d; simp (disch:=first|assumption|omega|simp only[zS]<;>omega|decide) only[zB,simprocAttr,lh, a, b, c, d]) : P := t a b c d
def JC {P : Prop} (k : Q) (t : Q -> P := by intro  a; simp (disch:=first|assumption|omega|simp only[zS]<;>omega|decide) only[zB,Nat.reduceAdd,Nat.reduceMul,Nat.reduceLeDiff,Nat.reduceEqDiff,Int.reduceToNat,Int.reduceAdd,Int.reduceLT,Int.reduceLE,↓reduceIte,lh]; exact a) : P := t k
def yu {P:Prop} (a : A0) (k : Q) (t : A0 -> Q -> P := by intro a b; simp (disch:=first|assumption|omega|simp only[zS]<;>omega|decide) only[zB,Nat.reduceAdd,Nat.reduceMul,Nat.reduceLeDiff,Nat.reduceEqDiff,Int.reduceToNat,Int.reduceAdd,Int.reduceLT,Int.reduceLE,↓reduceIte,lh, a]; exact b) : P := t a k
def aaQ {P:Prop} (a : A0) (t : A0 -> P := by intro a; simp (disch:=first|assumption|omega|simp only[zS]<;>omega|decide) only[zB,Nat.reduceAdd,Nat.reduceMul,Nat.reduceLeDiff,Nat.reduceEqDiff,Int.reduceToNat,Int.reduceAdd,Int.reduceLT,Int.reduceLE,↓reduceIte,lh, a]) : P := t a
open Go.RowKit
def fD(F:Nat->Prop)(w:Z)(a:TypeId)(v:Y)(vs:List Y):Prop:=
 (vs=[]/\v = bH) \/
 ∃ b cs,v = cM b vs.length cs.size/\F b/\w.heap[b]?=aN cs a/\vs.length<=cs.size/\cs.toList.take vs.length=vs
theorem fD.mono{F':Nat->Prop}{a:TypeId}(h:fD F w a v vs)
  (c:∀ b,F b->F' b) (hw:∀ b cs,F b->w.heap[b]?=aN cs a->w'.heap[b]?=aN cs a):fD F' w' a v vs:=by
 rcases h with h | ⟨b,cs,d,e,f,g⟩
 .exact .inl h
 .exact .inr zg
mutual
def eG (F:Nat->Prop) (w:Z) (v:Y):Ex->Prop
 | .mk kind name n k args=>∃ b av vs,v = aq (O ⟨b,0,V⟩)/\F b /\
  w.heap[b]?=aN #[.int .u8 kind,aM name,zi n,zi k,av] 178 /\
  fD F w 106 av vs/\eH F w vs args
 termination_by structural x=>x
def eH (F:Nat->Prop) (w:Z) (vs:List Y):List Ex->Prop
 | []=>vs=[]
 | x::xs=>∃ v r,vs=v::r/\eG F w v x/\eH F w r xs
 termination_by structural x=>x
end
def C8:Obj->Prop
 | ae _ t z=>(t=178\/t=106\/t=149\/t=84)/\z=(0,0)
 | _=>False
mutual
theorem eG.mono {F F':Nat->Prop} {w w':Z} (a:∀ b,F b->F' b) (hw:∀ b o,F b->C8 o->w.heap[b]?=O o->w'.heap[b]?=O o) :
  ∀ (x:Ex) (v:Y),eG F w v x->eG F' w' v x
 | .mk kind name n k args,v,h=>by
  unfold eG at h ⊢;obtain⟨b,av,vs,d,c,e,f,g⟩:=h;exact⟨b,av,vs,d,a b c,hw b _ c ⟨.inl J,J⟩ e,f.mono a fun b cs i j=>hw b _ i ⟨zg,J⟩ j,eH.mono a hw args vs g⟩
 termination_by structural x=>x
theorem eH.mono {F F':Nat->Prop} {w w':Z} (a:∀ b,F b->F' b) (hw:∀ b o,F b->C8 o->w.heap[b]?=O o->w'.heap[b]?=O o) :
  ∀ (l:List Ex) (vs:List Y),eH F w vs l->eH F' w' vs l
 | [],vs,h=>by grind [eH]
 | x::xs,vs,h=>by
  unfold eH at h ⊢;obtain⟨v,r,d,c,e⟩:=h;exact⟨v,r,d,eG.mono a hw x v c,eH.mono a hw xs r e⟩
 termination_by structural x=>x
end
mutual
def dJ (F:Nat->Prop) (w:Z) (v:Y):Bd->Prop
 | .mk kind name args parts=>∃ b av a vs us,v = aq (O ⟨b,0,V⟩)/\F b /\
  w.heap[b]?=aN #[.int .u8 kind,aM name,av,a] 149 /\
  fD F w 106 av vs/\eH F w vs args/\fD F w 84 a us/\gx F w us parts
 termination_by structural x=>x
def gx (F:Nat->Prop) (w:Z) (vs:List Y):List Bd->Prop
 | []=>vs=[]
 | x::xs=>∃ v r,vs=v::r/\dJ F w v x/\gx F w r xs
 termination_by structural x=>x
end
mutual
theorem dJ.mono {F F':Nat->Prop} {w w':Z} (a:∀ b,F b->F' b) (hw:∀ b o,F b->C8 o->w.heap[b]?=O o->w'.heap[b]?=O o) :
  ∀ (x:Bd) (v:Y),dJ F w v x->dJ F' w' v x
 | .mk kind name args parts,v,h=>by
  unfold dJ at h ⊢;obtain⟨b,av,i,vs,us,d,c,e,j,n,k,m⟩:=h;exact⟨b,av,i,vs,us,d,a b c,hw b _ c ⟨zg,J⟩ e,j.mono a fun b cs f g=>hw b _ f ⟨zg,J⟩ g,
   (by grind [eH.mono]),k.mono a fun b cs f g=>hw b _ f ⟨zg,J⟩ g,gx.mono a hw parts us m⟩
 termination_by structural x=>x
theorem gx.mono {F F':Nat->Prop} {w w':Z} (a:∀ b,F b->F' b) (hw:∀ b o,F b->C8 o->w.heap[b]?=O o->w'.heap[b]?=O o) :
  ∀ (l:List Bd) (vs:List Y),gx F w vs l->gx F' w' vs l
 | [],vs,h=>by grind [gx]
 | x::xs,vs,h=>by
  unfold gx at h ⊢;obtain⟨v,r,d,c,e⟩:=h;exact⟨v,r,d,dJ.mono a hw x v c,gx.mono a hw xs r e⟩
 termination_by structural x=>x
end
structure TW(T:List P.Tok):Prop where
 len:T.length<=2001
 last:∃ l t,T=l++[t]/\t.kind=0/\∀ u∈l,u.kind≠0
 kind:∀ u∈T,u.kind<=4
 digits:∀ u∈T,u.kind=3->u.text≠[]/\u.text.all P.digit=A/\u.text.length<=9
 words:∀ u∈T,u.kind=1->∃ c r,u.text=c::r/\P.cls c=115
 vars:∀ u∈T,u.kind=2->u.text≠[]
def TW.pos(h:TW T):0<T.length:=by
 obtain⟨l,t,rfl,_⟩:=h.last;simp
def TW.next(h:TW T)(hk:k<T.length)(a:(tk T k).kind≠0):k+1<T.length:=by
 obtain⟨l,t,rfl,b,_⟩:=h.last;grind [List.length_append,List.length_cons,List.length_nil,Nat.lt_or_ge,absurd,tk]
def JD(hk:k<T.length):tk T k∈T:=by
 grind [tk,List.getElem?_eq_getElem,List.getElem_mem]
structure zQ(w:Z)(B:Nat):Prop where
 lt:2<B
 Da:∀ l,l<2->∃ b o c,b<B/\w.cell? ⟨2,l,V⟩=O (.slice (O ⟨b,o,V⟩) (P.ops l).length c) /\
  ∀ j,j<(P.ops l).length->w.cell? ⟨b,o+j,V⟩=O (aM ((P.ops l).getD j []))
theorem Mb{a:Addr}(h:w.cell? a=O v)(hw:∀ o,w.heap[a.block]?=O o->w'.heap[a.block]?=O o):w'.cell? a=O v:=by
 grind [World.cell?,World.cell?_of_block]
theorem zQ.ext(h:zQ w B)(hw:∀ (b:Nat) (o:Obj),b<B->w.heap[b]?=O o->w'.heap[b]?=O o):zQ w' B:=by
 refine⟨h.lt,fun l a=>?_⟩;grind [Mb,Da,lt]
def RC(w:Z)(tb:Nat)(T:List P.Tok):Prop:=
 zQ w tb/\∃ cs,w.heap[tb]?=aN cs 142/\∀ j,j<T.length ->
  cs[j*3]?=O (zi ((tk T j).kind))/\cs[j*3+1]?=O (aM ((tk T j).text))/\cs[j*3+2]?=O (zi ((tk T j).pos))
structure SP(w:Z)(pb tb:Nat)(T:List P.Tok)(k:Nat)(vars:List Bs)(d:Nat):Prop where
 tw:TW T
 lt:tb<pb
 kt:k<T.length
 nv:vars.length<=12
 toks:RC w tb T
 yv:∃ cap vv,T.length<=cap/\cap<=9223372036854775807/\w.heap[pb]?=aN #[.slice (O ⟨tb,k*3,V⟩) (T.length-k) (cap-k),vv,zi d] 145 /\
  w.ownsRow (pb+1) 9 1 vv vars.length (vars.map fun s=>aM s)
def SB(w:Z)(pb:Nat):Prop:=∃ lv vv d,w.heap[pb]?=aN #[lv,vv,zi d] 145
def MS(pb b:Nat)(o:Obj):Prop:=b=pb\/(pb<b/\∃ cs z,o = ae cs 9 z)
abbrev cY(pb:Nat)(w w':Z):Prop:=bz (MS pb) w w'
def cY.toks(h:cY pb w w')(f:tb<pb)(ht:RC w tb T):RC w' tb T:=by
 obtain⟨a,cs,c,d⟩:=ht;exact⟨a.ext fun b o g e=>h.block _ _ e (by rintro (h | ⟨h,_⟩)<;>omega),cs,h.block _ _ c (by rintro (h | ⟨h,_⟩)<;>omega),d⟩
theorem cY.bI(h:cY pb w w'){t:TypeId}{z:Nat×Nat}(a:w.heap[b]?=O (ae cs t z))
  (c:b≠pb) (ht:t≠9):w'.heap[b]?=O (ae cs t z):=
 h.block _ _ a (by
  rintro (h | ⟨_,cs',d,h⟩)<;>grind)
theorem cY.ll{o:Obj}(h:cY pb w w')(a:C8 o)(c:w.heap[b]?=O o)(d:b≠pb):w'.heap[b]?=O o:=by
 cases o with
 | cells cs t z=>
  refine h.bI c d ?_;rintro rfl;rcases a.1 with h | h | h | h<;>cases h
 | _=>exact a.elim
abbrev Nu(w w':Z):Nat->Prop:=fun b=>w.heap.size<=b/\b<w'.heap.size
def mR(c a:Int)(w w':Z)(e:Ending):Prop:=
 ∃ b,e = .panicked [{ v:=aj 73 (pp b),recovered:=false }] /\
  w'.heap[b]?=aN #[zi c,zi a] 77/\w.heap.size<=b
def jS{α:Type}(I:(Nat->Prop)->Z->Y->α->Prop)(pb tb:Nat)(T:List P.Tok)(d:Nat)(w:Z):cg α->Ending->Z->Prop
 | .ok x k vs,e,w'=>∃ v,e = ah v/\I (Nu w w') w' v x/\SP w' pb tb T k vs d/\cY pb w w'
 | .err c a,e,w'=>mR c a w w' e/\cY pb w w'/\SB w' pb
open Sx
theorem bz.bO{M:Nat->Obj->Prop}{a b:Z}(h:bz M a b){p:Nat}{o:Obj}(c:(∀ x,M p x)\/a.heap.size<=p):bz M a (bO b p o):=
 ⟨h.os,h.tape,h.output,by rw[uN];exact h.size,(by grind [absurd,jd,bf,block])⟩
def yF{p:Prop}(h:p:=by grind [bz.refl,bz.alloc,bz.drew,bz.bO,bz.trans,bz.toM,bz.ext,size_alloc,uN,BH,bf]):p:=h
def jM(hw:∀ (b:Nat) (o:Obj),w.heap[b]?=O o->w'.heap[b]?=O o){size:Nat}(h:w.ownsRow base e size v n xs):w'.ownsRow base e size v n xs:=by
 obtain⟨g1,g2⟩:=h;refine⟨g1,?_⟩;rcases g2 with g | ⟨g,a,cur,c,d,i,f⟩
 .exact yH
 .exact .inr ⟨g,a,cur,c,d,yH,f⟩
theorem JE{p:Nat}{o:Obj}{size:Nat}(h:w.ownsRow base e size v n xs)(f:p<base):(bO w p o).ownsRow base e size v n xs:=by
 obtain⟨g1,g2⟩:=h;refine⟨g1,?_⟩;rcases g2 with g | ⟨g,a,cur,b,c,i,d⟩
 .exact yH
 .exact .inr ⟨g,a,cur,b,c,yH,d⟩
def ajh{P:Program}{t ty e:TypeId}{i:TypeInfo}{size bytes:Nat}(ht:P.underlying t=O (.slice e))(d:P.info? e=O i)(f:i.zero=O z)
  (g:i.size=size) (l:i.bytes=bytes) (o:z.cells.size=size) (p:0<size)
 (q:w.ownsRow base e size v n xs) {T:TypeId} {r:Nat×Nat} (D:w.heap[b]?=O (ae cs T r)) (s:cs.toList.length=m*size) (x:∀ u∈cs.toList,u.oneCell'=A)
  (y:n+m<=1000000) (a:bytes<=1000) (B:base<=w.heap.size) {K:Y->Z->Prop}
  (h:∀ v' w',w'.ownsRow base e size v' (n+m) (xs++cs.toList)->w.grownBy w' v.ownBlock->(v'.ownBlock=v.ownBlock\/∀ k,v'.ownBlock=O k->w.heap.size<=k)->K v' w') :
  WR P (Builtin.append_ #[t,t] ty #[v,cM b m c]) w K X:=by
 have E:(n+m)*bytes<=1000000*1000:=Nat.mul_le_mul y a;obtain⟨v',w',C,F,H,I⟩:=Vn (P:=P) w base t ty e i z size bytes ht d f g l o p v n xs q ⟨b,0,V⟩ m c cs.toList s (fun j u hu=>by
  rw[addr_add,Nat.zero_add];grind [cellOf]) x (by grind [maxLen]) zo B
 rw[xk C];grind
def bz.grow{M:Nat->Obj->Prop}{a b c:Z}(h:bz M a b){r:Option Nat}(d:b.grownBy c r)(hr:∀ k,r=O k->a.heap.size<=k):bz M a c:=
 ⟨d.os.trans h.os,d.tape.trans h.tape,d.output.trans h.output,Nat.le_trans h.size d.size,fun i o f hm=>by
  have:=bf f;have g:=h.block i o f hm;rw[d.block i (bf g) (fun e=>by have:=hr i e.symm;omega)];exact g⟩
def gX{size:Nat}(h:w.ownsRow base e size v n xs):∃ a c,v = .slice a n c:=by
 rcases h.2 with⟨rfl,rfl⟩| ⟨g,cap,cur,rfl,_⟩<;>grind
