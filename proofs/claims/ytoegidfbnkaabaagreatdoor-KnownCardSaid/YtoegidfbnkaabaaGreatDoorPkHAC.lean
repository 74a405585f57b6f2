/- A part of one proof (SxM, ShG, SxP, ShS1, SxN). -/
import Derived.Test.YtoegidfbnkaabaaGreatDoorPkHAB
import Derived.WalkSpells
import Derived.Test.YtoegidfbnkaabaaGreatDoorProg
import Derived.Laws.Pointers
import Derived.Laws.Cover3
import Derived.WideLaws
set_option linter.all false
set_option maxRecDepth 100000
set_option maxHeartbeats 8000000
open Option renaming some → O, none → V
open Go renaming Value → Y, World → Z
open Bool renaming true → A, false → G
open Go.Obj renaming cells → ae
open Go.Ending renaming returned → ah
open Go.Value renaming nilIface → ai, iface → aj, tuple → ak, pointer → aq
open Option.some renaming injEq → aZ9
open And renaming intro → a0b
open Go.Result renaming andThen_ok → a0k
open Go.Sem renaming run_bind → a0l, run_pure → a0V
open Go.Value renaming string → a0u, pointer → a0U
open Prod.mk renaming injEq → a0y
open Go.Instr renaming sliceAt → a0Y, buildSlice → a07, index → a1N, extract → a2Z, fill → a4B
open Go.Region renaming ready → a05, wanted → a08
open List renaming getElem?_cons_zero → a1s, getElem?_cons_succ → a1t, getElem?_toArray → a1J
open Go.Builtin renaming len_ → a1L
open ByteArray renaming size → a2a
open Nat renaming beq → a2b
namespace Go.Proofs.YtoegidfbnkaabaaGreatDoor
variable{A0:Prop}{K:Y->Prop}{R:Ending->Z->Prop}{X:Y->Z->Prop}{b c cap e i j n o pb:Nat}{cs:Array Y}{fn:Func}{l:Int}{u v:Y}{Ev:IntKind}{w:Z}
namespace Sx
open Go
section
variable{P:Program}{T:TypeId}{b o:Nat}{w:Z}{K:Y->Prop}{X:Y->Z->Prop}
def ah4(P:Program)(s:TypeId)(i:Nat):Option Nat:=
 match P.underlying s with
 | some (.struct fs)=>match fs[i]? with
  | some f=>match P.info? f.type with
   | some t=>if t.size=0 then V else O f.offset
   | none=>V
  | none=>V
 | _=>V
theorem addr_add(b o n:Nat):(⟨b,o,V⟩:Addr).add n=⟨b,o+n,V⟩:=by
 unfold Addr.add;split<;>simp_all
def fc(h:ah4 P T i=O n):RD P (Instr.fieldAt T (aq (O ⟨b,o,V⟩)) i) w K X=K (aq (O ⟨b,o+n,V⟩)):=by
 refine gW ?_;unfold ah4 at h;split at h
 .rename_i fs hu;split at h
  .rename_i f a;split at h
   .rename_i t ht;split at h
    .grind
    .rename_i c;cases h;have d:(sizeOf f.type).run P w = .ok t.size w:=(by grind [FW,sized]);simp only[Instr.fieldAt,a0l,run_underlying hu,a0k,a,Instr.sureAddr,a0V,fieldPlace,d,bX c,addr_add]
   grind
  grind
 grind
def Rr(P:Program)(T:TypeId):Option Nat:=
 match P.underlying T with
 | some (.slice e)=>(P.info? e).map (·.size)
 | _=>V
def Z0(h:Rr P T=O n):∃ e,P.underlying T=O (.slice e)/\sized P e n=true:=by
 grind [Rr,sized]
theorem Hm{e:TypeId}(h:P.underlying T=O (.slice e)):P.elem T=e:=by grind [Program.elem]
def xl(h:Rr P T=O n){k:IntKind}{i:Int}(a:0<=i)(c:i<pb) :
  RD P (Instr.indexAt T (.slice (O ⟨b,o,V⟩) pb cap) (.int k i)) w K X=K (aq (O ⟨b,o+i.toNat*n,V⟩)):=by
 obtain⟨e,he,d⟩:=Z0 h;refine gW ?_;rw[run_indexAt_slice w T _ _ _ _ _ (by rw[Hm he];exact he),zip ⟨a,c⟩,Hm he,FW d];grind [a0k,addr_add]
def yo{t:TypeId}{e:TypeId}(h:P.underlying t=O (.slice e)){a:Option Addr} :
  RD P (a1L #[t] T #[.slice a n c]) w K X=K (.int .i64 n):=
 gW (run_len_slice w t T a n c (by grind [Hm]))
def atc{t:TypeId}(h:P.underlying t=O .string){l:List UInt8} :
  RD P (a1L #[t] T #[.string (bs l)]) w K X=K (.int .i64 l.length):=by
 refine gW ?_;have e:(bs l).size=l.length:=by simp [a2a]
 simp only[a1L,a1J,a1s,a0l,run_underlying h,a0k,a0V,goInt,e]
def atd{t:TypeId}(h:P.underlying t=O .string){l:List UInt8}{k:IntKind}{i:Int}(b:0<=i)(c:i<l.length) :
  RD P (a1N t (.string (bs l)) (.int k i)) w K X=K (.int .u8 ((l.getD i.toNat 0).toNat)):=by
 refine gW ?_;have e:(bs l)[i.toNat]?=O (l.getD i.toNat 0):=by
  have d:i.toNat<l.length:=zo;have a:i.toNat<(bs l).size:=by grind [a2a]
  rw[getElem?_pos (bs l) i.toNat a]
  congr 1
  show l.toArray[i.toNat]=_;grind
 simp only[a1N,a0l,asIntOf,a0V,a0k,run_underlying h,zip b,e]
def Z1{vs:Array Y}(h:vs[i]?=O v):RD P (a2Z (ak vs) i) w K X=K v:=by
 refine gW ?_;simp only[a2Z,h];rfl
def Z2{l:List Y}:RD P (a2Z (ak (v::l).toArray) 0) w K X=K v:=Z1 zs
def Z3{l:List Y}:RD P (a2Z (ak (u::v::l).toArray) 1) w K X=K v:=Z1 zs
def Z4{x:Y}{l:List Y}:RD P (a2Z (ak (u::x::v::l).toArray) 2) w K X=K v:=Z1 zs
def Z5{t:TypeId}:RD P (Instr.panic (aj t v)) w K X=X (aj t v) w:=as9 J
def OA(h:Rr P T=O n){k:IntKind}(b:0<=l)(c:l<=pb){a:Option Addr} :
  RD P (a0Y T (.slice a pb cap) (O (.int k l)) V V) w K X=K (sliced a l.toNat pb cap n):=by
 obtain⟨e,he,d⟩:=Z0 h;refine gW ?_;rw[run_sliceAt_slice w T _ _ _ _ (by rw[Hm he];exact he),run_slice_l w T a pb cap (by rw[Hm he];exact he) k l b c,Hm he,FW d];rfl
def Rs(h:Rr P T=O n){k:IntKind}(b:0<=l)(c:l<=cap){a:Option Addr} :
  RD P (a0Y T (.slice a pb cap) V (O (.int k l)) V) w K X=K (sliced a 0 l.toNat cap n):=by
 obtain⟨e,he,d⟩:=Z0 h;refine gW ?_;rw[run_sliceAt_slice w T _ _ _ _ (by rw[Hm he];exact he),run_slice_h w T a pb cap (by rw[Hm he];exact he) k l b c,Hm he,FW d];rfl
def ah5(l:List UInt8)(i j:Nat):(bs l).extract i j=bs ((l.take j).drop i):=by
 apply ByteArray.ext;grind [ByteArray.data_extract,Array.ext',Array.toList_extract,List.drop_take]
def atf{t:TypeId}(h:P.underlying t=O .string){s:List UInt8}{k:IntKind}(a:0<=l)(b:l<=s.length) :
  RD P (a0Y t (.string (bs s)) (O (.int k l)) V V) w K X=K (.string (bs (s.drop l.toNat))):=by
 refine gW ?_;have e:(bs s).size=s.length:=by simp [a2a]
 simp only[a0Y,Instr.slice,a0l,run_underlying h,a0k,Option.isSome,Bool.false_eq_true,if_false,Instr.sliceBounds,a0V,
  run_sliceBound w k l s.length _ a b,ah5,e,List.take_length]
def atg{t:TypeId}(h:P.underlying t=O .string){s:List UInt8}{k:IntKind}{m:Int}(a:0<=l)(b:l<=m)(c:m<=s.length) :
  RD P (a0Y t (.string (bs s)) (O (.int k l)) (O (.int Ev m)) V) w K X=K (.string (bs ((s.take m.toNat).drop l.toNat))):=by
 refine gW ?_;have e:(bs s).size=s.length:=by simp [a2a]
 simp only[a0Y,Instr.slice,a0l,run_underlying h,a0k,Option.isSome,Bool.false_eq_true,if_false,Instr.sliceBounds,a0V,
  run_sliceBound w Ev m (bs s).size _ zo zo,run_sliceBound w k l m.toNat _ a zo,ah5]
def Ew(pl:List (Nat×Nat))(cells:Array Y):List (Nat×Y)->Option (Array Y)
 | []=>O cells
 | (i,v)::r=>match pl[i]? with
  | none=>V
  | some (off,size)=>if v.cells.toList.length=size/\off+size<=cells.size then Ew pl (ot cells off v.cells.toList) r else V
def ah6(off:Nat):∀ (l:List Y) (k:Nat) (cs:Array Y),(l.zipIdx k).foldl (fun cs (c,j)=>cs.setIfInBounds (off+j) c) cs=ot cs (off+k) l
 | [],_,_=>rfl
 | v::r,k,cs=>by
  simp only[List.zipIdx_cons,List.foldl_cons,ot];rw[ah6 off r (k+1)];rfl
theorem Z6{place:Nat->Option (Nat×Nat)}{pl:List (Nat×Nat)}(a:∀ i x,pl[i]?=O x->place i=O x):∀ (l:List (Nat×Y)) (cs:Array Y) (r:Array Y),Ew pl cs l=O r->a4B place cs l=O r
 | [],cs,r,h=>h
 | (i,v)::l,cs,r,h=>by
  unfold Ew at h;unfold a4B;cases b:pl[i]? with
  | none=>grind
  | some x=>
   obtain⟨off,size⟩:=x;rw[b] at h;dsimp only at h;rw[a i _ b];dsimp only;split at h
   .rename_i f;have c:v.cells.size=size:=zg;rw[bX (by rw[c];simp;omega)];have e:=ah6 off v.cells.toList 0 cs;rw[Nat.add_zero] at e;have d:(v.cells.zipIdx.foldl (fun cs (x:Y×Nat)=>cs.setIfInBounds (off+x.2) x.1) cs)=ot cs off v.cells.toList:=by
     grind [Array.toList_zipIdx]
    rw[d];exact Z6 a l _ r h
   grind
def places(P:Program):List Field->Option (List (Nat×Nat))
 | []=>O []
 | f::r=>match P.info? f.type,places P r with
  | some i,O l=>O ((f.offset,i.size)::l)
  | _,_=>V
def ah7(P:Program)(T:TypeId):Option (Array Y×List (Nat×Nat)):=
 match zK P T,P.underlying T with
 | some z,O (.struct fs)=>(places P fs.toList).map fun l=>(z.cells,l)
 | _,_=>V
def ah8{w:Z}:∀ (l:List Field) (r:List (Nat×Nat)),places P l=O r->(l.mapM fun(f:Field)=>(do pure (f.offset,<- sizeOf f.type):Sem (Nat×Nat))).run P w = .ok r w
 | [],r,h=>by simp only[places,aZ9] at h;subst h;rfl
 | f::l,r,h=>by
  unfold places at h;split at h
  .rename_i i q c a;cases h;have ih:=ah8 (w:=w) l q a;have b:(sizeOf f.type).run P w = .ok i.size w:=(by grind [FW,sized]);rw[List.mapM_cons];simp only[a0l,b,a0k,a0V,ih]
  grind
def Vy(x:Option (Array Y))(K:Y->Prop)(D:Prop):RT (K,D):=
 match x with
 | some cs=>K (.agg cs)
 | none=>D
def qH{z:Array Y}{pl:List (Nat×Nat)}(h:ah7 P T=O (z,pl)){parts:Array (Nat×Y)} :
  RD P (Instr.build T parts) w K X=Vy (Ew pl z parts.toList) K (Et P (Instr.build T parts) w K X):=by
 unfold Vy;split
 .rename_i cs f;refine gW ?_;unfold ah7 at h;split at h
  .rename_i b fs c hu;cases a:places P fs.toList with
   | none=>grind
   | some l=>
    rw[a] at h;simp only[Option.map_some,aZ9,a0y] at h;obtain⟨rfl,rfl⟩:=h;have d:=ah8 (w:=w) fs.toList l a;have e:a4B (l.toArray[·]?) b.cells parts.toList=O cs:=(by grind [Z6]);simp only[Instr.build,a0l,Eu c,a0k,run_underlying hu];rw[Array.mapM_eq_mapM_toList];simp only[Sem.run_map,d,a0k,e];rfl
  grind
 .rfl
def ah9(P:Program)(T n:Nat):Option (TypeId×Array Y×List (Nat×Nat)):=
 match P.underlying T with
 | some (.slice e)=>match P.info? e,zK P e with
  | some i,O z=>if n*i.size=0\/n*i.size > 2 ^ 24 then V else O (e,(Array.range (n*i.size)).map (z.cells[· % z.cells.size]!),(List.range n).map fun j=>(j*i.size,i.size))
  | _,_=>V
 | _=>V
def Vz(x:Option (Array Y))(e n:Nat)(w:Z)(K:Y->Z->Prop)(D:Prop):RT (K,D):=
 match x with
 | some cs=>K (.slice (O ⟨w.heap.size,0,V⟩) n n) (w.alloc (ae cs e))
 | none=>D
def sL{e:TypeId}{z:Array Y}{pl:List (Nat×Nat)}(h:ah9 P T n=O (e,z,pl)){parts:Array (Nat×Y)}{K:Y->Z->Prop} :
  WR P (a07 T n parts) w K X=Vz (Ew pl z parts.toList) e n w K (WR0 P (a07 T n parts) w K X):=by
 unfold Vz;split
 .rename_i cs k;refine xk ?_;unfold ah9 at h;split at h
  .rename_i e' hu;split at h
   .rename_i i a l b;split at h
    .grind
    .rename_i m;simp only[aZ9,a0y] at h;obtain⟨rfl,rfl,rfl⟩:=h;have c:(sizeOf e').run P w = .ok i.size w:=(by grind [FW,sized]);have d:a4B (fun j=>O (j*i.size,i.size)) ((Array.range (n*i.size)).map (a.cells[· % a.cells.size]!)) parts.toList=O cs:=
      (by grind [Z6,List.range,List.getElem?_eq_some_iff])
     have f:¬ (n*i.size > 2 ^ 24):=zo;have g:¬ (n*i.size=0):=zo;simp only[a07,a0l,run_underlying hu,a0k,c,bX f,bX g,a0V,Eu b,d];simp only[newRow,newObj,a0l,Sem.run,a0k,a0V];rfl
   exact yH
  exact yH
 .rfl
def Ju(P:Program)(T:TypeId):Bool:=
 match P.underlying T with
 | some (.interface _)=>G
 | some _=>A
 | none=>G
def C3(h:Ju P T=A){K:Y->Z->Prop}:WR P (Instr.makeInterface T v) w K X=K (aj T v) w:=by
 refine xk ?_;unfold Ju at h;unfold Instr.makeInterface underlying;simp only[a0l,program,Sem.run,a0k];grind [a0V,a0k]
def VA{fn:Fn}{x y:Array Y}{K:Y->Z->Prop}:WR P (Instr.makeFunc fn x y) w K X=K (.func fn x y) w:=xk J
end
def ath{P:Program}{src dst:TypeId}{kd:IntKind}(a:(P.underlying src).isSome=A)(b:P.underlying dst=O (.int kd)){k:IntKind}{n:Int}{K:Y->Z->Prop} :
  WR P (convert src dst (.int k n)) w K X=K (.int kd (kd.wrap n)) w:=by
 have e:P.intKind dst=kd:=by grind [Program.intKind]
 refine xk ?_;grind [run_convert_int]
def Z7{x:Int}(a:0<=x)(b:x<=255):IntKind.u8.wrap x=x:=by
 unfold IntKind.wrap;have c:(2 ^ IntKind.u8.bits:Int)=256:=zd;have d:IntKind.u8.signed=false:=rfl;grind
def cQ{P:Program}{s:Sem Y}{S:Z->Prop}(v:Y)(h:∀ w',S w'->RD P s w' (fun u=>u=v) NX)(hk:K v):uI P s S K:=by
 refine⟨v,fun w' b=>?_,hk⟩;have a:=h w' b;unfold RD at a;cases hr:s.run P w' with
 | ok u c=>grind
 | halt x c=>rw[hr] at a;cases x<;>exact a.elim
def Pr(p:Prop):Prop:=p
def toPr{p:Prop}(h:Pr p):p:=h
def ldV(x:Option Y)(K:Y->Prop)(D:Prop):RT (K,D):=
 match x with | some v=>K v | none=>D
theorem Rt{x y:Obj}:bO (bO w b x) b y=bO w b y:=by unfold bO;simp
def Z8{F:((Nat->Y)->Z->Prop)->Prop}{R:(Nat->Y)->(Nat->Y)->Z->Prop}:JN F R=F (fun s w=>∀ d,R s d w):=rfl
def Z9{U:TypeId}{z:Nat×Nat}{D:Prop}:Vw (O (ae cs U z)) o K D=ldV (cs[o]?) K D:=rfl
def aaa{D:Prop}:ldV (O v) K D=K v:=rfl
def aab{U:TypeId}{z:Nat×Nat}{D:Prop}(h:o+n<=cs.size):Jt (O (ae cs U z)) o n K D=K (.agg ((cs.toList.drop o).take n).toArray):=by
 unfold Jt;grind
def aac{U:TypeId}{K:Z->Prop}{D:Prop}(h:o+n<=cs.size) :
  Rq (O (ae cs U (0,0))) w b o n v K D=if v.cells.toList.length=n/\(v.cells.toList.all Value.oneCell')=A then K (bO w b (ae (ot cs o v.cells.toList) U (0,0))) else D:=by
 simp [Rq,h]
def aad{D:Prop}:Vy (O cs) K D=K (.agg cs):=rfl
def aae{K:Y->Z->Prop}{D:Prop}:Vz (O cs) e n w K D=K (.slice (O ⟨w.heap.size,0,V⟩) n n) (w.alloc (ae cs e)):=rfl
def aaf(a:Array Y):(Value.agg a).cells=a:=rfl
def aag(s:ByteArray):(a0u s).cells=#[.string s]:=rfl
def aah(k:IntKind)(n:Int):(Value.int k n).cells=#[.int k n]:=rfl
def aai(a:Option Addr)(n c:Nat):(Value.slice a n c).cells=#[.slice a n c]:=rfl
def aaj(a:Option Addr):(a0U a).cells=#[.pointer a]:=rfl
def aak(l:List Y):(Value.agg l.toArray).cells.toList=l:=rfl
def aal(k:IntKind)(n:Int):(Value.int k n).cells.toList=[.int k n]:=rfl
def aam(b:Bool):(Value.bool b).cells.toList=[.bool b]:=rfl
def aan(s:ByteArray):(a0u s).cells.toList=[.string s]:=rfl
def aao(a:Option Addr)(n c:Nat):(Value.slice a n c).cells.toList=[.slice a n c]:=rfl
def aap(a:Option Addr):(a0U a).cells.toList=[.pointer a]:=rfl
def aaq(t:TypeId)(v:Y):(Value.iface t v).cells.toList=[aj t v]:=rfl
def aar:Value.nilIface.cells.toList=[ai]:=rfl
def aas(f:Fn)(x y:Array Y):(Value.func f x y).cells.toList=[.func f x y]:=rfl
def aat(r:Option Nat):(Value.map r).cells.toList=[.map r]:=rfl
def aau(k:IntKind)(n:Int):(Value.int k n).oneCell'=true:=rfl
def aav(b:Bool):(Value.bool b).oneCell'=true:=rfl
def aaw(s:ByteArray):(a0u s).oneCell'=true:=rfl
def aax(a:Option Addr)(n c:Nat):(Value.slice a n c).oneCell'=true:=rfl
def aay(a:Option Addr):(a0U a).oneCell'=true:=rfl
def aaz(t:TypeId)(v:Y):(Value.iface t v).oneCell'=true:=rfl
def aaA:Value.nilIface.oneCell'=true:=rfl
def aaB(f:Fn)(x y:Array Y):(Value.func f x y).oneCell'=true:=rfl
def aaC(r:Option Nat):(Value.map r).oneCell'=true:=rfl
theorem VB{x:Int}(a:-9223372036854775808<=x)(b:x<=9223372036854775807):IntKind.i64.wrap x=x:=by
 unfold IntKind.wrap;have c:(2 ^ IntKind.i64.bits:Int)=18446744073709551616:=zd;have d:(2 ^ (IntKind.i64.bits-1):Int)=9223372036854775808:=zd;have e:IntKind.i64.signed=true:=rfl;grind
end Sx
open Go.Proofs.YtoegidfbnkaabaaGreatDoor.Sx
def _root_.Go.Proofs.YtoegidfbnkaabaaGreatDoor.Sx.ati:Tryz.prog.follows .mixedOrders=true:=zk
def aib(k:Nat):Bool:=[2,3,4,5,6,7,8,9,10,11,12,13,14,15,16,17,18,19,20,21,22,23,24,25,26,27,28,29,30,31,32,33,34,35,36,37,38,39,40,41,42,43,44,45,46,47,48,49,50,51,52,53,57,58,59,60,61,62,63,64,65,66,67,68,69,70,71,72,73,74,75,76,77,78,79,80,81,82,83,84,85,86,90,91,92,93,94,95,96,97,98,99,100,101,102,103,104,105,106,107,108,109,111,112,113,114,115,116,117,118,119,120,121,122,123,124,125,126,127,128,129,130,131,132,133,134,135,136,137,138,139,140,141,142,143,144,145,146,147,148,149,151,152,153,154,155,156,157,158,159,160,161,162,163,164,165,166,168,169,170,171,172,173,174,175,177,178,179,180,181,202,205,206,207,208,209,210,211,212,213,214,215,216,217,218,219,220,221,222,223,224,225,226,227,228,248,264].contains k
def atj:([2,3,4,5,6,7,8,9,10,11,12,13,14,15,16,17,18,19,20,21,22,23,24,25,26,27,28,29,30,31,32,33,34,35,36,37,38,39,40,41,42,43,44,45,46,47,48,49,50,51,52,53,57,58,59,60,61,62,63,64,65,66,67,68,69,70,71,72,73,74,75,76,77,78,79,80,81,82,83,84,85,86,90,91,92,93,94,95,96,97,98,99,100,101,102,103,104,105,106,107,108,109,111,112,113,114,115,116,117,118,119,120,121,122,123,124,125,126,127,128,129,130,131,132,133,134,135,136,137,138,139,140,141,142,143,144,145,146,147,148,149,151,152,153,154,155,156,157,158,159,160,161,162,163,164,165,166,168,169,170,171,172,173,174,175,177,178,179,180,181,202,205,206,207,208,209,210,211,212,213,214,215,216,217,218,219,220,221,222,223,224,225,226,227,228,248,264].all (zC Tryz.prog))=true:=zk
def Ey(l:Nat->List Nat)(j:Nat->Option (List Nat))(t:Nat->Nat)(a:Nat->Option (List Nat))(bl bj:Nat->List Nat)(sm sy:Nat->Bool):Sx.Good { P:=Tryz.prog,B:=fun t=>t == 4,calls:=aib,live:=l,join:=j,tail:=t,held:=a,bl:=bl,bj:=bj,sum:=sm,sy:=sy }:=
 ⟨ati,fun k hk=>List.all_eq_true.1 atj k (by simpa [aib] using hk)⟩
abbrev aM (x : List UInt8) : Y := .string (bs x)
abbrev aN (x : Array Y) (T : Nat) : Option Obj := O (ae x T)
abbrev cM (b n c : Nat) : Y := .slice (O ⟨b, 0, V⟩) n c
abbrev bH : Y := .slice V 0 0
abbrev pp (b : Nat) : Y := aq (O ⟨b, 0, V⟩)
abbrev pq (b o : Nat) : Y := aq (O ⟨b, o, V⟩)
abbrev zi (n : Int) : Y := .int .i64 n
def zT (l : List Nat) (n : Nat) : Bool := match l with
 | [] => G
 | a :: r => cond (a2b a n) A (zT r n)
def zL (l : List (Nat × List Nat)) (n : Nat) : List Nat := match l with
 | [] => []
 | (a, b) :: r => cond (a2b a n) b (zL r n)
def zN (l : List (Nat × Nat)) (n : Nat) : Nat := match l with
 | [] => 0
 | (a, b) :: r => cond (a2b a n) b (zN r n)
def zO (l : List (Nat × List Nat)) (n : Nat) : Option (List Nat) := match l with
 | [] => V
 | (a, b) :: r => cond (a2b a n) (O b) (zO r n)
open Go
namespace Sx
def zr{p:Prop}(h:p:=by with_unfolding_all rfl):p:=h
def aic{α:Type}(x:α):tid x=x:=rfl
def OC(P:Program)(s:Sem Y)(w:Z)(K:Y->Prop)(X:Y->Z->Prop):Prop:=RD P s w K X
def WRp(P:Program)(s:Sem Y)(w:Z)(K:Y->Z->Prop)(X:Y->Z->Prop):Prop:=WR P s w K X
def WUp(P:Program)(s:Sem Unit)(w:Z)(K:Z->Prop)(X:Y->Z->Prop):Prop:=WU P s w K X
def CAp(P:Program)(k:FuncId)(args:Array Y)(w:Z)(K:Y->Z->Prop)(X:List PanicEntry->Z->Prop):Prop:=CA P k args w K X
def CQp(P:Program)(k:FuncId)(args:Array Y)(w:Z)(K:Y->Prop):Prop:=CQ P k args w K
def CVp(P:Program)(f:Y)(args:Array Y)(w:Z)(K:Y->Z->Prop)(X:List PanicEntry->Z->Prop):Prop:=CV P f args w K X
def CIp(P:Program)(v:Y)(name:String)(args:Array Y)(w:Z)(K:Y->Z->Prop)(X:List PanicEntry->Z->Prop):Prop:=CI P v name args w K X
def Ru(v:Y)(a B:Prop):Prop:=BS v a B
def DFp(v:Y)(K:Fn->Array Y->Array Y->Prop):Prop:=DF v K
def VC(v:Y)(K:Y->Prop):Prop:=NC v K
def ail(F:((Nat->Y)->Z->Prop)->(Nat->Y)->(Nat->Y)->Z->Prop)(s0:Nat->Y)(w0:Z):Prop:=Oi F s0 w0
def JNp(F:((Nat->Y)->Z->Prop)->Prop)(R:(Nat->Y)->(Nat->Y)->Z->Prop):Prop:=JN F R
def JSp(F:((Nat->Y)->Z->Prop)->Prop)(R:(Nat->Y)->(Nat->Y)->Z->Prop):Prop:=JS F R
def VD(P:Program)(s:Sem Y)(S:Z->Prop)(K:Y->Prop):Prop:=uI P s S K
def HDp(F:(Z->Prop)->Prop):Prop:=HD F
section
variable{LL:List Oper}{C:me}{P:Program}{o:Oper}{ops:Array Oper}{rest:List Oper}{a:Env}{w:Z}{next:Env->Z->Prop}{mQ:Env->Prop}{Q:Exit->Env->Z->Prop}{c x y:Code}{K:Y->Prop}{S:Z->Prop}{m:Option Nat}{r:List Nat}{L:Array Bool}{i:Nat}
def Jv:List Oper->Nat->Option Oper
 | [],_=>V
 | o::_,0=>O o
 | _::r,i+1=>Jv r i
def atk(h:C.join (Eo x)=V):gn C (.seq x y) Q a w=gn C x (BD (gn C y Q) Q) a w:=by simp only[gn,h]
def atl{l:List Nat}(h:C.join (Eo x)=O l)(b:nd x=A)(c:C.sum (Eo x)=G):gn C (.seq x y) Q a w =
 JNp (fun j=>gn C x (BD (fun a' w'=>j (jg (zE a' l)) w') Q) a w) (fun s d w=>pQ (C.bj (Eo x)) (fr a (wr x) l s d) fun a=>gn C y Q a w):=by simp only[gn,h,b,c];rfl
def atm{l:List Nat}(h:C.join (Eo x)=O l)(b:nd x=A)(c:C.sum (Eo x)=A):gn C (.seq x y) Q a w =
 JSp (fun j=>gn C x (BD (fun a' w'=>j (jg (zE a' l)) w') Q) a w) (fun s d w=>pQ (C.bj (Eo x)) (fr a (wr x) l s d) fun a=>gn C y Q a w):=by simp only[gn,h,b,c];rfl
def atn:gn C .skip Q a w=Q .normal a w:=rfl
def ato{l:List Oper}{id:Nat}:gn C (.region id l.toArray G) Q a w=xh C l.toArray Q l a w:=rfl
def atp{id:Nat}(h:C.held id=V)(b:Vg ops (C.tail id)=A):gn C (.region id ops A) Q a w =
 AM C ops w.drew (fun a'=>xh C ops Q (ops.toList.drop (C.tail id)) a' w.drew) (ops.toList.take (C.tail id)) a:=by simp only[gn,h,b]
def atq{id m:Nat}{l:List Nat}(h:C.held id=O (m::l))(b:(l.length == ops.size && Region.noSelect ops)=A):gn C (.region id ops A) Q a w =
 HDp fun S=>S w.drew/\mv C ops Q S (Zh m) l (Array.replicate ops.size G) a w.drew:=by simp only[gn,h,b];rfl
def atr{d:Operand}(h:Vh C d=A):gn C (.cond d x y) Q a w=Ru (a.eval d) (gn C x Q a w) (gn C y Q a w):=by simp only[gn,h];rfl
def att{d:Operand}(h:Vh C d=G)(b:a.eval d = .bool A):gn C (.cond d x y) Q a w=gn C x Q a w:=by simp only[gn,h,b]
def atu{d:Operand}(h:Vh C d=G)(b:a.eval d = .bool G):gn C (.cond d x y) Q a w=gn C y Q a w:=by simp only[gn,h,b]
def atv{id:Nat}:gn C (.block id c) Q a w=gn C c (FN id Q) a w:=rfl
def atw{id:Nat}:gn C (.exit id) Q a w=Q (.exit id) a w:=rfl
def atx:gn C .ret Q a w=Q .ret a w:=rfl
def aty{l:Nat}:gn C (.label l) Q a w=Q .normal a w:=rfl
def atz:gn C (.scope c) Q a w=gn C c (Ol Q) a w:=rfl
def atA(h:nd c=A):gn C (.loop c) Q a w=ail (fun rec s d w=>pQ (C.bl (Hi c)) (fr a (wr c) (C.live (Hi c)) s d) fun a=>gn C c (BD (fun a' w'=>rec (jg (zE a' (C.live (Hi c)))) w') Q) a w)
 (jg (zE a (C.live (Hi c)))) w:=by simp only[gn,h];rfl
def atB:BD next Q .normal a w=next a w:=rfl
def atC:BD next Q (.exit i) a w=Q (.exit i) a w:=rfl
def atD:BD next Q .ret a w=Q .ret a w:=rfl
def atE{l:List PanicEntry}:BD next Q (.panic l) a w=Q (.panic l) a w:=rfl
def atF:BD next Q (.goto i) a w=Q (.goto i) a w:=rfl
def atG:FN i Q .normal a w=Q .normal a w:=rfl
def atH(h:a2b j i=A):FN i Q (.exit j) a w=Q .normal a w:=by simp only[FN,h,aic,cond]
def atI(h:a2b j i=G):FN i Q (.exit j) a w=Q (.exit j) a w:=by simp only[FN,h,aic,cond]
def atJ:FN i Q .ret a w=Q .ret a w:=rfl
def atL{l:List PanicEntry}:FN i Q (.panic l) a w=Q (.panic l) a w:=rfl
def atM:Ol Q .normal a w=Q .normal a w:=rfl
def atN:Ol Q (.exit i) a w=Q (.exit i) a w:=rfl
def atO:Ol Q .ret a w=Q .ret a w:=rfl
def atP{l:List PanicEntry}:Ol Q (.panic l) a w=Q (.panic l) a w:=rfl
def atQ{d:List Nat}:NP d Q .normal a w=Q .normal a w:=rfl
def atS{d:List Nat}{l:List PanicEntry}:NP d Q (.panic l) a w=∀ f:Nat->Y,Q (.panic l) { a with f:=fun t=>cond (q9 t d) (f t) (a.f t) } w:=rfl
def atT(b:LL=[]):xh C ops Q LL a w=Q .normal a w:=by rw[b];rfl
def atU(b:LL=o::rest)(h:a08 o (ym ops a)=A):xh C ops Q LL a w=lK C o a w (xh C ops Q rest) Q:=by simp only[b,xh,h]
def atV(b:LL=o::rest)(h:a08 o (ym ops a)=G):xh C ops Q LL a w=xh C ops Q rest (a.put o.dst undef) w:=by simp only[b,xh,h]
def atW{q:Env->Prop}(b:LL=[]):AM C ops w q LL a=q a:=by rw[b];rfl
def atX{q:Env->Prop}(b:LL=o::rest)(h:a08 o (ym ops a)=A):AM C ops w q LL a=rP C o a w (AM C ops w q rest):=by simp only[b,AM,h]
def atY{q:Env->Prop}(b:LL=o::rest)(h:a08 o (ym ops a)=G):AM C ops w q LL a=AM C ops w q rest (a.put o.dst undef):=by simp only[b,AM,h]
def atZ{K:Env->Prop}:pQ [] a K=K a:=rfl
def at0{K:Env->Prop}:pQ (i::r) a K=Ru (a.f i) (pQ r (a.put (O i) (.bool A)) K) (pQ r (a.put (O i) (.bool G)) K):=rfl
def at1(h:(C.B o.type && early C o)=A):oW C o K v=Ru v (K (.bool A)) (K (.bool G)):=by simp only[oW,h];rfl
def at5(h:(C.B o.type && early C o)=G):oW C o K v=K v:=by simp only[oW,h]
variable{d:Option Nat}{t n:Nat}{pos:String}{af:Array Edge}{g:Option (Nat×Bool)}{u v z:Operand}{args:Array Operand}{CX:Array Nat}{k:FuncId}{s:Sem Y}
def spec(o:Oper):Bool:=match o.op with
 | .move _ | .assign _ | .pick _ _ _ | .nilCheck _ | .defer _ | .binOp _ _ _ _ _=>A
 | .call { callee:=.value _,.. } | .call { callee:=.invoke _ _,.. }=>A
 | _=>G
def VE:Operand->Bool
 | .func _=>A
 | _=>G
def at6(h:o.op = .move u):lK C o a w next Q=next (a.put o.dst (a.eval u)) w:=by simp only[lK,h]
def at7(h:o.op = .assign u):lK C o a w next Q=next (a.put o.dst (a.eval u)) w:=by simp only[lK,h]
def aua(h:o.op = .pick z u v)(b:a.eval z = .bool A):lK C o a w next Q=next (a.put o.dst (a.eval u)) w:=by simp only[lK,h,b]
def aub(h:o.op = .pick z u v)(b:a.eval z = .bool G):lK C o a w next Q=next (a.put o.dst (a.eval v)) w:=by simp only[lK,h,b]
def auc(h:o.op = .nilCheck u):lK C o a w next Q=VC (a.eval u) fun v=>next (a.put o.dst v) w:=by simp only[lK,h];rfl
def aud(h:o.op = .defer ⟨.value (.func k),args,CX⟩):lK C o a w next Q=next ({ a with defers:={ target:=.fn (.func k) #[],args:=jQ a args }::a.defers }.put o.dst undef) w:=by simp only[lK,h]
def aue(h:o.op = .defer ⟨.value u,args,CX⟩)(b:VE u=G):lK C o a w next Q=DFp (a.eval u) fun fn x y=>next ({ a with defers:={ target:=.fn fn y,args:=x++jQ a args }::a.defers }.put o.dst undef) w:=by
 cases u<;>first | (simp [VE] at b;done) | (simp only[lK,h];rfl)
def auf(h:o.op = .call ⟨.value (.func k),args,CX⟩)(b:C.calls k=A):lK C o a w next Q=CAp C.P k (jQ a args) w (fun v w'=>oW C o (fun v=>next (a.put o.dst v) w') v) (fun c w'=>Q (.panic c) a w'):=by simp only[lK,h,b];rfl
def aug(h:o.op = .call ⟨.value u,args,CX⟩)(b:VE u=G):lK C o a w next Q=CVp C.P (a.eval u) (jQ a args) w (fun v w'=>oW C o (fun v=>next (a.put o.dst v) w') v) (fun c w'=>Q (.panic c) a w'):=by
 cases u<;>first | (simp [VE] at b;done) | (simp only[lK,h];rfl)
def auh{nm:String}(h:o.op = .call ⟨.invoke u nm,args,CX⟩):lK C o a w next Q=CIp C.P (a.eval u) nm (jQ a args) w (fun v w'=>oW C o (fun v=>next (a.put o.dst v) w') v) (fun b w'=>Q (.panic b) a w'):=by simp only[lK,h];rfl
def aui(h:spec o=G)(b:zD a o=O s):lK C o a w next Q=OC C.P s w (fun v=>oW C o (fun v=>next (a.put o.dst v) w) v) (fun v w'=>Q (.panic [{ v,recovered:=false }]) a w'):=by
 unfold lK;unfold spec at h;split at h<;>first | cases h | skip
 simp_all;rfl
def auj{p:BinOp}{b:_}(h:o.op = .binOp p t u v b):lK C o a w next Q=OC C.P (bo p t u v (a.eval u) (a.eval v)) w (fun v=>oW C o (fun v=>next (a.put o.dst v) w) v) (fun v w'=>Q (.panic [{ v,recovered:=false }]) a w'):=by simp only[lK,h,zD];rfl
def auk(h:spec o=G)(b:zD a o=V)(c:writing a o=O s):lK C o a w next Q=WRp C.P s w (fun v w'=>next (a.put o.dst v) w') (fun v w'=>Q (.panic [{ v,recovered:=false }]) a w'):=by
 unfold lK;unfold spec at h;split at h<;>first | cases h | skip
 simp_all;rfl
def aul{s:Sem Unit}(h:spec o=G)(b:zD a o=V)(c:writing a o=V)(d:Vd a o=O s):lK C o a w next Q=WUp C.P s w (fun w'=>next (a.put o.dst undef) w') (fun v w'=>Q (.panic [{ v,recovered:=false }]) a w'):=by
 unfold lK;unfold spec at h;split at h<;>first | cases h | skip
 simp_all;rfl
def aum(h:o.op = .move u):rP C o a w mQ=mQ (a.put o.dst (a.eval u)):=by simp only[rP,h]
def aun(h:o.op = .assign u):rP C o a w mQ=mQ (a.put o.dst (a.eval u)):=by simp only[rP,h]
def auo(h:o.op = .pick z u v)(b:a.eval z = .bool A):rP C o a w mQ=mQ (a.put o.dst (a.eval u)):=by simp only[rP,h,b]
def aup(h:o.op = .pick z u v)(b:a.eval z = .bool G):rP C o a w mQ=mQ (a.put o.dst (a.eval v)):=by simp only[rP,h,b]
def auq(h:o.op = .nilCheck u):rP C o a w mQ=VC (a.eval u) fun v=>mQ (a.put o.dst v):=by simp only[rP,h];rfl
def aur(h:o.op = .call ⟨.value (.func k),args,CX⟩)(b:C.calls k=A):rP C o a w mQ=CQp C.P k (jQ a args) w (fun v=>oW C o (fun v=>mQ (a.put o.dst v)) v):=by simp only[rP,h,b];rfl
def aus(h:spec o=G)(b:zD a o=O s):rP C o a w mQ=OC C.P s w (fun v=>oW C o (fun v=>mQ (a.put o.dst v)) v) NX:=by
 unfold rP;unfold spec at h;split at h<;>first | cases h | skip
 simp_all;rfl
def aut{p:BinOp}{b:_}(h:o.op = .binOp p t u v b):rP C o a w mQ=OC C.P (bo p t u v (a.eval u) (a.eval v)) w (fun v=>oW C o (fun v=>mQ (a.put o.dst v)) v) NX:=by simp only[rP,h,zD];rfl
def auu(h:o.op = .move u):rQ C o a S mQ=mQ (a.put o.dst (a.eval u)):=by simp only[rQ,h]
def auv(h:o.op = .assign u):rQ C o a S mQ=mQ (a.put o.dst (a.eval u)):=by simp only[rQ,h]
def auw(h:o.op = .pick z u v)(b:a.eval z = .bool A):rQ C o a S mQ=mQ (a.put o.dst (a.eval u)):=by simp only[rQ,h,b]
def auy(h:o.op = .pick z u v)(b:a.eval z = .bool G):rQ C o a S mQ=mQ (a.put o.dst (a.eval v)):=by simp only[rQ,h,b]
def auz(h:o.op = .nilCheck u):rQ C o a S mQ=VC (a.eval u) fun v=>mQ (a.put o.dst v):=by simp only[rQ,h];rfl
def auA(h:spec o=G)(b:zD a o=O s):rQ C o a S mQ=VD C.P s S (fun v=>oW C o (fun v=>mQ (a.put o.dst v)) v):=by
 unfold rQ;unfold spec at h;split at h<;>first | cases h | skip
 simp_all;rfl
def auB(h:spec o=G)(b:zD a o=V)(c:Vc a o=O s):rQ C o a S mQ=VD C.P s S (fun v=>mQ (a.put o.dst v)):=by
 unfold rQ;unfold spec at h;split at h<;>first | cases h | skip
 simp_all;rfl
def auC{p:BinOp}{b:_}(h:o.op = .binOp p t u v b):rQ C o a S mQ=VD C.P (bo p t u v (a.eval u) (a.eval v)) S (fun v=>oW C o (fun v=>mQ (a.put o.dst v)) v):=by simp only[rQ,h,zD];rfl
def OE:∀ {l:Array Oper} {i:Nat} {o:Oper},Jv l.toList i=O o->l[i]?=O o:=by
 intro l i o h;rw[<- Array.getElem?_toList];generalize l.toList=L at h;induction L generalizing i with
 | nil=>cases h
 | cons a r ih=>cases i with
  | zero=>exact h
  | succ i=>rw[a1t];exact ih h
def auD(h:a05 .any ops L=[]):mv C ops Q S m [] L a w=Q .normal a w:=by simp only[mv,h]
def auE(b:Jv ops.toList i=O o)(c:(a05 .any ops L == [i])=A)(d:a08 o (ym ops a)=G) :
 mv C ops Q S m (i::r) L a w=mv C ops Q S m r (L.setIfInBounds i A) (a.put o.dst undef) w:=by have h:=OE b;simp only[mv,h,c,d]
def auF(b:Jv ops.toList i=O o)(c:(a05 .any ops L == [i])=A)(d:a08 o (ym ops a)=A)(e:Ve a o=A) :
 mv C ops Q S m (i::r) L a w=rP C o a w (fun a'=>mv C ops Q S m r (L.setIfInBounds i A) a' w):=by have h:=OE b;simp only[mv,h,c,d,e]
def auG(b:Jv ops.toList i=O o)(c:(a05 .any ops L == [i])=A)(d:a08 o (ym ops a)=A)(e:Ve a o=G)(f:tS m (L.setIfInBounds i A)=A) :
 mv C ops Q S m (i::r) L a w=lK C o a w (fun a' w'=>S w'/\mv C ops Q S m r (L.setIfInBounds i A) a' w') (NP (qC ops.toList) Q):=by have h:=OE b;simp only[mv,h,c,d,e,f]
def auH(b:Jv ops.toList i=O o)(c:(a05 .any ops L == [i])=A)(d:a08 o (ym ops a)=A)(e:Ve a o=G)(f:tS m (L.setIfInBounds i A)=G) :
 mv C ops Q S m (i::r) L a w=lK C o a w (fun a' w'=>mv C ops Q S m r (L.setIfInBounds i A) a' w') (NP (qC ops.toList) Q):=by have h:=OE b;simp only[mv,h,c,d,e,f]
def auI(b:Jv ops.toList i=O o)(c:(a05 .any ops L == [i])=G)(d:((a05 .any ops L).contains i && Region.free .any ops L i && Q3 .any ops L m i)=A)(e:a08 o (ym ops a)=G) :
 mv C ops Q S m (i::r) L a w=mv C ops Q S m r (L.setIfInBounds i A) (a.put o.dst undef) w:=by have h:=OE b;simp only[mv,h,c,e,d]
def auJ(b:Jv ops.toList i=O o)(c:(a05 .any ops L == [i])=G)(d:((a05 .any ops L).contains i && Region.free .any ops L i && Q3 .any ops L m i)=A)(e:a08 o (ym ops a)=A) :
 mv C ops Q S m (i::r) L a w=rQ C o a S (fun a'=>mv C ops Q S m r (L.setIfInBounds i A) a' w):=by have h:=OE b;simp only[mv,h,c,e,d]
variable{x1 x2:Y}{f:Nat->Y}{j:Nat}{vs lv:List Nat}{sf df:Nat->Y}{al:List Operand}{ds:List Deferred}{pl:List (Nat×Operand)}
def auK:a.eval (.tmp i)=a.f i:=rfl
def auL{k:IntKind}{n:Int}:a.eval (.const (.int k n)) = .int k n:=rfl
def auM{b:Bool}:a.eval (.const (.bool b)) = .bool b:=rfl
def auN{l:List UInt8}:a.eval (.const (.string ⟨l.toArray⟩)) = aM l:=rfl
def auO:a.eval (.const ai) = ai:=rfl
def auP{p:Option Addr}:a.eval (.const (.pointer p)) = .pointer p:=rfl
def auQ{p:Option Addr}{n c:Nat}:a.eval (.const (.slice p n c)) = .slice p n c:=rfl
def auR{r:Option Nat}:a.eval (.const (.map r)) = .map r:=rfl
def auS{t:TypeId}{v:Y}:a.eval (.const (aj t v)) = aj t v:=rfl
def auT{l:Array Y}:a.eval (.const (ak l)) = ak l:=rfl
def auU:a.eval (.global i) = aq (O ⟨i,0,V⟩):=rfl
def auV:a.eval (.func i) = .func (.func i) #[] #[]:=rfl
def auW:(a.put V x1)=a:=rfl
def auX(h:a2b i j=A):(a.put (O j) x1).f i=x1:=by simp only[Env.put,Jl,h,cond]
def auY(h:a2b i j=G):(a.put (O j) x1).f i=a.f i:=by simp only[Env.put,Jl,h,cond]
def auZ{d:Option Nat}:(a.put d x1).defers=a.defers:=by cases d<;>rfl
def au0(h:q9 j lv=A):(fr a vs lv sf df).f j=sf j:=by simp only[fr,Q4,h,cond]
def au1(h:q9 j lv=G)(b:q9 j vs=A):(fr a vs lv sf df).f j=df j:=by simp only[fr,Q4,h,b,cond]
def au2(h:q9 j lv=G)(b:q9 j vs=G):(fr a vs lv sf df).f j=a.f j:=by simp only[fr,Q4,h,b,cond]
def au3:(fr a vs lv sf df).defers=a.defers:=rfl
def au4:(vQ []).f i=undef:=rfl
def au5{l:List Y}:(vQ (x1::l)).f 0=x1:=rfl
def au6{l:List Y}:(vQ (x1::l)).f (i+1)=(vQ l).f i:=rfl
def au7{l:List Y}:(vQ l).defers=[]:=rfl
def au8{α:Type}{c:Bool}{x y:α}(h:c=A):cond c x y=x:=by rw[h];rfl
def au9{α:Type}{c:Bool}{x y:α}(h:c=G):cond c x y=y:=by rw[h];rfl
def avc:jQ a al.toArray=(al.map a.eval).toArray:=rfl
def avd:Q2 a pl.toArray=(pl.map fun x=>(x.1,a.eval x.2)).toArray:=rfl
def ave:LF a V=none:=rfl
def avf:LF a (O u)=O (a.eval u):=rfl
def avg(h:lv=[]):zE a lv=[]:=by rw[h];rfl
def avh(h:lv=j::r):zE a lv=(j,a.f j)::zE a r:=by rw[h];rfl
def avi{K:Env->Prop}(h:lv=[]):pQ lv a K=K a:=by rw[h];rfl
def avk{K:Env->Prop}(h:lv=i::r):pQ lv a K=Ru (a.f i) (pQ r (a.put (O i) (.bool A)) K) (pQ r (a.put (O i) (.bool G)) K):=by rw[h];rfl
variable{fn:Func}{R:Ending->Z->Prop}{K1:List Y->Prop}{l:List Y}{rs VF:List ResultVar}
def avl(h:rs=[]):uM P rs f w l K1=K1 l:=by rw[h];rfl
def avm(h:rs = .tmp t::VF):uM P rs f w l K1=uM P VF f w (l++[f t]) K1:=by rw[h];rfl
def avn(h:rs = .cell j t::VF):uM P rs f w l K1=OC P (Instr.loadAt t (f j)) w (fun v=>uM P VF f w (l++[v]) K1) NX:=by rw[h];rfl
def avo:Jr P fn R .normal a w=uM P fn.results.toList a.f w [] fun l=>R (ah (one l)) w:=rfl
def avp:Jr P fn R .ret a w=uM P fn.results.toList a.f w [] fun l=>R (ah (one l)) w:=rfl
def avq{l:List PanicEntry}:Jr P fn R (.panic l) a w=R (.panicked l) w:=rfl
def avr:LX P fn R .normal a w=LV P (fun w=>uM P fn.results.toList a.f w [] fun l=>R (ah (one l)) w) R a.defers .returning w:=rfl
def avt:LX P fn R .ret a w=LV P (fun w=>uM P fn.results.toList a.f w [] fun l=>R (ah (one l)) w) R a.defers .returning w:=rfl
def avu{l:List PanicEntry}:LX P fn R (.panic l) a w=LV P (fun w=>uM P fn.results.toList a.f w [] fun l=>R (ah (one l)) w) R a.defers (.panicking l) w:=rfl
def avv:one [] = ak #[]:=rfl
def avw:one [x1]=x1:=rfl
def avx:one (x1::x2::l) = ak (x1::x2::l).toArray:=rfl
def avy:OC P s w K X=RD P s w K X:=rfl
def avz{K:Y->Z->Prop}:WRp P s w K X=WR P s w K X:=rfl
def avA{s:Sem Unit}{K:Z->Prop}:WUp P s w K X=WU P s w K X:=rfl
def avB{args:Array Y}{K:Y->Z->Prop}{X:List PanicEntry->Z->Prop}:CAp P k args w K X=CA P k args w K X:=rfl
def avC{args:Array Y}:CQp P k args w K=CQ P k args w K:=rfl
def avD{args:Array Y}{K:Y->Z->Prop}{X:List PanicEntry->Z->Prop}:CVp P x1 args w K X=CV P x1 args w K X:=rfl
def avE{nm:String}{args:Array Y}{K:Y->Z->Prop}{X:List PanicEntry->Z->Prop}:CIp P x1 nm args w K X=CI P x1 nm args w K X:=rfl
def avF{B:Prop}:Ru x1 A0 B=BS x1 A0 B:=rfl
def avG{K:Fn->Array Y->Array Y->Prop}:DFp x1 K=DF x1 K:=rfl
def avH:VC x1 K=NC x1 K:=rfl
def avI{F:((Nat->Y)->Z->Prop)->(Nat->Y)->(Nat->Y)->Z->Prop}:ail F sf w=Oi F sf w:=rfl
def avJ{F:((Nat->Y)->Z->Prop)->Prop}{R:(Nat->Y)->(Nat->Y)->Z->Prop}:JNp F R=JN F R:=rfl
def avK{F:((Nat->Y)->Z->Prop)->Prop}{R:(Nat->Y)->(Nat->Y)->Z->Prop}:JSp F R=JS F R:=rfl
def avL:VD P s S K=uI P s S K:=rfl
def avM{F:(Z->Prop)->Prop}:HDp F=HD F:=rfl
def avN:(fun v w'=>R (.panicked [{ v,recovered:=false }]) w')=PX R:=rfl
def avO:(fun v w'=>∀ _:Nat->Y,R (.panicked [{ v,recovered:=false }]) w')=PXA R:=rfl
def avP:(fun a w'=>∀ _:Nat->Y,R (.panicked a) w')=LB R:=rfl
def avQ:(fun a w'=>R (.panicked a) w')=PC R:=rfl
end
def cqD{C:me}(b:Good C){f:FuncId}{c:Code}{args:List Y}{S:Prop}(d:C.P.funcs[f]?=O fn)(e:fn.body=O c)
  (hk:(((wr c).all fun i=>decide (i<fn.ntmps)) && Nat.ble args.length fn.ntmps)=A) (he:pQ [] (vQ args) (fun a=>gn C c (LX C.P fn R) a w)=S) (h:S):Calls C.P f args.toArray w R:=by
 simp only[Bool.and_eq_true] at hk;exact as7 b d e hk.1 (Nat.le_of_ble_eq_true hk.2) [] he h
end Sx
def zX:=(a0b @atk (a0b @atl (a0b @atm (a0b @atn (a0b @ato (a0b @atp (a0b @atq (a0b @atr (a0b @att (a0b @atu (a0b @atv (a0b @atw (a0b @atx (a0b @aty (a0b @atz (a0b @atA (a0b @atB (a0b @atC (a0b @atD (a0b @atE (a0b @atF (a0b @atG (a0b @atH (a0b @atI (a0b @atJ (a0b @atL (a0b @atM (a0b @atN (a0b @atO (a0b @atP (a0b @atQ (a0b @atS (a0b @atT (a0b @atU (a0b @atV (a0b @atW (a0b @atX (a0b @atY (a0b @atZ (a0b @at0 (a0b @at1 (a0b @at5 (a0b @at6 (a0b @at7 (a0b @aua (a0b @aub (a0b @auc (a0b @aud (a0b @aue (a0b @auf (a0b @aug (a0b @auh (a0b @aui (a0b @auj (a0b @auk (a0b @aul (a0b @aum (a0b @aun (a0b @auo (a0b @aup (a0b @auq (a0b @aur (a0b @aus (a0b @aut (a0b @auu (a0b @auv (a0b @auw (a0b @auy (a0b @auz (a0b @auA (a0b @auB (a0b @auC (a0b @auD (a0b @auE (a0b @auF (a0b @auG (a0b @auH (a0b @auI (a0b @auJ (a0b @auK (a0b @auL (a0b @auM (a0b @auN (a0b @auO (a0b @auP (a0b @auQ (a0b @auR (a0b @auS (a0b @auT (a0b @auU (a0b @auV (a0b @auW (a0b @auX (a0b @auY (a0b @auZ (a0b @au0 (a0b @au1 (a0b @au2 (a0b @au3 (a0b @au4 (a0b @au5 (a0b @au6 (a0b @au7 (a0b @au8 (a0b @au9 (a0b @avc (a0b @avd (a0b @ave (a0b @avf (a0b @avg (a0b @avh (a0b @avi (a0b @avk (a0b @avl (a0b @avm (a0b @avn (a0b @avo (a0b @avp (a0b @avq (a0b @avr (a0b @avt (a0b @avu (a0b @avv (a0b @avw @avx))))))))))))))))))))))))))))))))))))))))))))))))))))))))))))))))))))))))))))))))))))))))))))))))))))))))))))))))))))))))))))
def zY:=(a0b @avy (a0b @avz (a0b @avA (a0b @avB (a0b @avC (a0b @avD (a0b @avE (a0b @avF (a0b @avG (a0b @avH (a0b @avI (a0b @avJ (a0b @avK (a0b @avL (a0b @avM (a0b @avN (a0b @avO (a0b @avP @avQ))))))))))))))))))
def zn{B:Prop}(h:A0=B:=by(simp (maxSteps:=10000000) (disch:=(refine id ?_;with_unfolding_all rfl)) only[↓zX,zY,List.map,List.nil_append,List.cons_append,List.toList_toArray,List.append_toArray];try rfl)):A0=B:=h
abbrev lh(p:Prop):Prop:=p
def ge l j t h b c s y:=Ey (zL l) (zO j) (zN t) (zO h) (zL b) (zL c) (zT s) (zT y)
def gd l j t h b c y:=Ey (zL l) (zO j) (zN t) (zO h) (zL b) (zL c) (fun _=>A) (zT y)
def gc l j y:=gd l j [] [] [] [] y
def cz {C:me} (w:World) (R:Ending->World->Prop) (args:List Value) (b:Sx.Good C) {f:FuncId} {c:Code} {S:Prop} (d:C.P.funcs[f]?=some fn) (e:fn.body=some c:=by rfl)
  (hk:(nd c && ((wr c).all fun i=>decide (i<fn.ntmps)) && Nat.ble args.length fn.ntmps)=true:=by kernel_rfl) (he:pQ [] (vQ args) (fun a=>gn C c (Jr C.P fn R) a w)=S:=by exact zn) (h:lh S):Calls C.P f args.toArray w R:=
 cq b d e hk he h
def cy {C:me} (w:World) (R:Ending->World->Prop) (args:List Value) (b:Sx.Good C) {f:FuncId} {c:Code} {S:Prop} (d:C.P.funcs[f]?=some fn) (e:fn.body=some c:=by rfl)
  (hk:(((wr c).all fun i=>decide (i<fn.ntmps)) && Nat.ble args.length fn.ntmps)=true:=by kernel_rfl) (he:pQ [] (vQ args) (fun a=>gn C c (LX C.P fn R) a w)=S:=by exact zn) (h:lh S):Calls C.P f args.toArray w R:=
 cqD b d e hk he h
end Go.Proofs.YtoegidfbnkaabaaGreatDoor
namespace Go.Proofs.YtoegidfbnkaabaaGreatDoor
open Go.Proofs.YtoegidfbnkaabaaGreatDoor.Sx
variable{cs:Array Y}{n:Nat}{v:Y}
section
variable{p0 p1 p2 p3 p4 p5 p6 p7:Y}{w:Z}{R:Ending->Z->Prop}
def avU:=cz w R [p0] (gc [(4,[2,3]),(11,[6]),(19,[2,3,88])] [(2001,[]),(6000,[25]),(7001,[3]),(12001,[6]),(15000,[79]),(17002,[2,3])] [11,16,24,25,31,42,43,77,78,79,89,95]) Tryz.func84
def avV:=cz w R [p0,p1,p2] (gc [] [(2000,[25]),(3008,[])] [23,24,25,29,30,33,37,38,41]) Tryz.func112
def avW:=cz w R [p0] (gc [(1,[2])] [(4001,[]),(8001,[]),(13002,[]),(14000,[72]),(15001,[]),(17001,[])] [13,23,37,55,71,72,76]) Tryz.func46
def avX:=cz w R [p0] (gc [] [] []) Tryz.func28
def avY:=cz w R [p0,p1] (gc [] [] []) Tryz.func47
def aaE:=cz w R [p0] (gd [] [] [(6,10)] [] [] [] [6,8,9,12,21,24]) Tryz.func23
end
namespace Sx
open Go
def FY(P:Program)(t:TypeId):Bool:=match P.underlying t with | some (.pointer _)=>A | _=>G
def VG(P:Program)(t:TypeId):Bool:=match P.underlying t with | some (.slice _)=>A | _=>G
def aaF(P:Program)(t:TypeId):Bool:=match P.underlying t with | some (.map _ _)=>A | _=>G
def yp(P:Program)(t:TypeId):Bool:=match P.underlying t with | some (.interface _)=>A | _=>G
section
variable{P:Program}{t:TypeId}{x y:Operand}{w:Z}{K:Y->Prop}{X:Y->Z->Prop}
def air(h:FY P t=A)(p:Option Addr):(Op.equal t (.pointer p) (aq V)).run P w = .ok p.isNone w:=by
 grind [FY,run_equal_pointer_nil,Program.pointee]
def ais(h:VG P t=A)(a:Option Addr)(n c:Nat):(Op.equal t (.slice a n c) bH).run P w = .ok a.isNone w:=by
 grind [VG,run_equal_slice_nil]
def avZ(h:aaF P t=A)(r:Option Nat):(Op.equal t (.map r) (.map V)).run P w = .ok r.isNone w:=by
 grind [aaF,run_equal_map_nil]
def L7(h:FY P t=A)(p:Option Addr):RD P (bo .eql t x y (.pointer p) (aq V)) w K X=K (.bool p.isNone):=
 gW (by simp [bo,eqGuard,binOp,a0l,air h])
def aaG(h:FY P t=A)(p:Option Addr):RD P (bo .neq t x y (.pointer p) (aq V)) w K X=K (.bool !p.isNone):=
 gW (by simp [bo,eqGuard,binOp,a0l,air h])
def ait(h:VG P t=A)(p:Option Addr)(n c:Nat):RD P (bo .eql t x y (.slice p n c) bH) w K X=K (.bool p.isNone):=
 gW (by simp [bo,eqGuard,binOp,a0l,ais h])
def av0(h:VG P t=A)(p:Option Addr)(n c:Nat):RD P (bo .neq t x y (.slice p n c) bH) w K X=K (.bool !p.isNone):=
 gW (by simp [bo,eqGuard,binOp,a0l,ais h])
def av4(h:aaF P t=A)(p:Option Nat):RD P (bo .eql t x y (.map p) (.map V)) w K X=K (.bool p.isNone):=
 gW (by simp [bo,eqGuard,binOp,a0l,avZ h])
def FZ(h:yp P t=A):P.underlying t=O (.interface (P.methodsAt t)):=by
 grind [yp,Program.methodsAt]
def aiu(h:yp P t=A)(u:TypeId)(v:Y):RD P (bo .eql t x y (aj u v) ai) w K X=K (.bool G):=
 gW (by simp [bo,eqGuard,binOp,a0l,run_equal_held_nil w t u v (FZ h)])
def av5(h:yp P t=A)(u:TypeId)(v:Y):RD P (bo .neq t x y (aj u v) ai) w K X=K (.bool A):=
 gW (by simp [bo,eqGuard,binOp,a0l,run_equal_held_nil w t u v (FZ h)])
def aiv(h:yp P t=A)(c:Y):RD P (bo .eql t x (.const c) ai ai) w K X=K (.bool A):=
 gW (by simp [bo,eqGuard,binOp,a0l,run_equal_nil_nil w t (FZ h)])
def av7(h:yp P t=A)(c:Y):RD P (bo .neq t x (.const c) ai ai) w K X=K (.bool G):=
 gW (by simp [bo,eqGuard,binOp,a0l,run_equal_nil_nil w t (FZ h)])
def aiw(P:Program)(T:TypeId):Option (Nat×TypeId):=match P.underlying T with | some (.array n e)=>O (n,e) | _=>V
def Rv(cs:Array Y)(i:Int)(K:Y->Prop)(D:Prop):RT (K,D):=match cs[i.toNat]? with | some v=>K v | none=>D
def aaH{i:Int}{K:Y->Prop}{D:Prop}(h:cs[i.toNat]?=O v):Rv cs i K D=K v:=by grind [Rv]
def av8{T e:TypeId}{k:IntKind}{i:Int}(h:aiw P T=O (n,e))(he:(Vv P e && sized P e 1)=A)(a:0<=i)(b:i<n) :
  RD P (a1N T (.agg cs) (.int k i)) w K X=Rv cs i K (Et P (a1N T (.agg cs) (.int k i)) w K X):=by
 unfold Rv;split
 .rename_i v hv;refine gW ?_;unfold aiw at h;split at h
  .rename_i c e' hu;simp only[aZ9,a0y] at h;obtain⟨rfl,rfl⟩:=h;simp only[Bool.and_eq_true] at he;simp only[a1N,a0l,asIntOf,a0V,a0k,run_underlying hu,zip (a0b a b),FW he.2,Nat.mul_one];unfold part;simp only[a0l,ah2 he.1,a0k,hv];simp
  grind
 .rfl
end
def zG1:=a0b @Z8 (a0b @jx (a0b @ZJ (a0b @ZK (a0b @Oy (a0b @Oz (a0b @FU (a0b @FV (a0b @ZM (a0b @ZN (a0b @ZO (a0b @ZP (a0b @ZQ (a0b @ZR (a0b @ZS (a0b @ZT (a0b @ZU (a0b @ZX (a0b @ZY (a0b @ZV (a0b @ZW (a0b @Z2 (a0b @Z3 (a0b @Z4 (a0b @Z5 (a0b @VA (a0b @ZZ (a0b @Z9 (a0b @aaa (a0b @aaH (a0b @aab (a0b @aac (a0b @aad (a0b @aae (a0b @LZ (a0b @qG (a0b @pX (a0b @jd (a0b @Ro (a0b @BH (a0b @uN (a0b @size_alloc (a0b @Rt (a0b @aak (a0b @aaf (a0b @aag (a0b @aah (a0b @aai (a0b @aaj (a0b @aal (a0b @aam (a0b @aan (a0b @aao (a0b @aap (a0b @aaq (a0b @aar (a0b @aas (a0b @aat (a0b @aau (a0b @aav (a0b @aaw (a0b @aax (a0b @aay (a0b @aaz (a0b @aaA (a0b @aaB (a0b @aaC (a0b @VB (a0b @Z7 (a0b @Vu (a0b @ZG (@ZH)))))))))))))))))))))))))))))))))))))))))))))))))))))))))))))))))))))))
def zG2:=a0b @Int.toNat_natCast (a0b @Option.isNone_none.{0} (a0b @Option.isNone_some.{0} (a0b @a1J.{0} (a0b @a1s.{0} (a0b @a1t.{0} (a0b @List.setIfInBounds_toArray.{0} (a0b @List.set_cons_zero.{0} (a0b @List.set_cons_succ.{0} (a0b @List.size_toArray.{0} (a0b @List.length_cons.{0} (a0b @List.length_nil.{0} (a0b @List.drop_zero.{0} (a0b @List.drop_succ_cons.{0} (a0b @List.take_succ_cons.{0} (a0b @List.take_zero.{0} (a0b @List.take_nil.{0} (a0b @List.drop_nil.{0} (a0b @List.all_cons.{0} (a0b @List.all_nil.{0} (a0b @Bool.and_true (a0b @Bool.true_and (a0b @Nat.zero_add (a0b @Nat.add_zero (a0b @Nat.mul_one (a0b @and_self (a0b @and_true (a0b @true_and (a0b @decide_true (a0b @decide_false (a0b @Bool.not_true (a0b @Bool.not_false (a0b @not_true_eq_false (@not_false_eq_true)))))))))))))))))))))))))))))))))
def zA {p q : Prop} (a : p) (b : q) : p /\ q := ⟨a, b⟩
def zS := (zA @size_alloc (zA @BH (zA @uN (zA @List.size_toArray.{0} (zA @List.length_cons.{0} @List.length_nil.{0})))))
def zq {p:Prop}(h:p:=by first|assumption|omega|simp only[zS]<;>omega|decide):p:=h
def zH := (zA @LZ (zA @qG (zA @pX (zA @jd (zA @Ro (zA @BH (zA @uN @size_alloc)))))))
def zG0 := (zA @Pr.eq_1 (zA @PX.eq_1 (zA @PC.eq_1 (zA @NX.eq_1 (zA @ends.eq_1 (zA @ends.eq_2 (zA @ends.eq_3 (zA @Ew.eq_1 (zA @Ew.eq_2 (zA @ot.eq_1 (zA @ot.eq_2 (zA @jg.eq_1 (zA @jg.eq_2 (zA @forall_const.{0} (zA @forall_const.{1} (zA @eq_self.{1} (zA zG1 zG2)))))))))))))))))
end Sx
