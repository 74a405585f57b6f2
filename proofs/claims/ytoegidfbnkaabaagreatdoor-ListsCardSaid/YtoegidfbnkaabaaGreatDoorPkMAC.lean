/- A part of one proof (SxM, ShG, SxP, ShS1, SxN). -/
import Derived.Test.YtoegidfbnkaabaaGreatDoorPkMAB
import Derived.WalkSpells
import Derived.Test.YtoegidfbnkaabaaGreatDoorProg
import Derived.Laws.Pointers
import Derived.Laws.Cover3
import Derived.WideLaws
set_option linter.all false
set_option maxRecDepth 100000
set_option maxHeartbeats 8000000
open Option renaming some → O, none → V
open Go renaming Value → Y, World → Z
open Bool renaming true → G, false → ae
open Go.Obj renaming cells → ah
open Go.Ending renaming returned → ai
open Go.Value renaming nilIface → aj, iface → ak, tuple → aq, pointer → au
open Option.some renaming injEq → a3I
open And renaming intro → a3K
open Go.Result renaming andThen_ok → a3W
open Go.Sem renaming run_bind → a3X, run_pure → a4y
open Go.Value renaming string → a4a, pointer → a4x
open Prod.mk renaming injEq → a4b
open Go.Instr renaming sliceAt → a4B, buildSlice → a4L, index → a5v, extract → a6D, fill → a8b
open Go.Region renaming ready → a4J, wanted → a4M
open List renaming getElem?_cons_zero → a5a, getElem?_cons_succ → a5b, getElem?_toArray → a5P
open Go.Builtin renaming len_ → a5t
open ByteArray renaming size → a5L
open Nat renaming beq → a5N
namespace Go.Proofs.YtoegidfbnkaabaaGreatDoor
variable{K:Y->Prop}{R:Ending->Z->Prop}{X:Y->Z->Prop}{b c cap e i j n o:Nat}{cs:Array Y}{fn:Func}{l:Int}{u v:Y}{Fq:IntKind}{w:Z}
namespace Sx
open Go
section
variable{P:Program}{T:TypeId}{b o:Nat}{w:Z}{K:Y->Prop}{X:Y->Z->Prop}
def akl(P:Program)(s:TypeId)(i:Nat):Option Nat:=
 match P.underlying s with
 | some (.struct fs)=>match fs[i]? with
  | some f=>match P.info? f.type with
   | some t=>if t.size=0 then V else O f.offset
   | none=>V
  | none=>V
 | _=>V
theorem addr_add(b o n:Nat):(⟨b,o,V⟩:Addr).add n=⟨b,o+n,V⟩:=by
 unfold Addr.add;split<;>simp_all
def fD(h:akl P T i=O n):RD P (Instr.fieldAt T (au (O ⟨b,o,V⟩)) i) w K X=K (au (O ⟨b,o+n,V⟩)):=by
 refine gR ?_;unfold akl at h;split at h
 .rename_i fs hu;split at h
  .rename_i f a;split at h
   .rename_i t ht;split at h
    .grind
    .rename_i c;cases h;have d:(sizeOf f.type).run P w = .ok t.size w:=(by grind [Fo,sized]);simp only[Instr.fieldAt,a3X,run_underlying hu,a3W,a,Instr.sureAddr,a4y,fieldPlace,d,bU c,addr_add]
   grind
  grind
 grind
def Ti(P:Program)(T:TypeId):Option Nat:=
 match P.underlying T with
 | some (.slice e)=>(P.info? e).map (·.size)
 | _=>V
def Xq(h:Ti P T=O n):∃ e,P.underlying T=O (.slice e)/\sized P e n=true:=by
 grind [Ti,sized]
theorem Fs{e:TypeId}(h:P.underlying T=O (.slice e)):P.elem T=e:=by grind [Program.elem]
def Aw{len:Nat}(h:Ti P T=O n){k:IntKind}{i:Int}(a:0<=i)(c:i<len) :
  RD P (Instr.indexAt T (.slice (O ⟨b,o,V⟩) len cap) (.int k i)) w K X=K (au (O ⟨b,o+i.toNat*n,V⟩)):=by
 obtain⟨e,he,d⟩:=Xq h;refine gR ?_;rw[run_indexAt_slice w T _ _ _ _ _ (by rw[Fs he];exact he),zip ⟨a,c⟩,Fs he,Fo d];grind [a3W,addr_add]
def Bq{t:TypeId}{e:TypeId}(h:P.underlying t=O (.slice e)){a:Option Addr} :
  RD P (a5t #[t] T #[.slice a n c]) w K X=K (.int .i64 n):=
 gR (run_len_slice w t T a n c (by grind [Fs]))
def avP{t:TypeId}(h:P.underlying t=O .string){l:List UInt8} :
  RD P (a5t #[t] T #[.string (bs l)]) w K X=K (.int .i64 l.length):=by
 refine gR ?_;have e:(bs l).size=l.length:=by simp [a5L]
 simp only[a5t,a5P,a5a,a3X,run_underlying h,a3W,a4y,goInt,e]
def avQ{t:TypeId}(h:P.underlying t=O .string){l:List UInt8}{k:IntKind}{i:Int}(b:0<=i)(c:i<l.length) :
  RD P (a5v t (.string (bs l)) (.int k i)) w K X=K (.int .u8 ((l.getD i.toNat 0).toNat)):=by
 refine gR ?_;have e:(bs l)[i.toNat]?=O (l.getD i.toNat 0):=by
  have d:i.toNat<l.length:=zo;have a:i.toNat<(bs l).size:=by grind [a5L]
  rw[getElem?_pos (bs l) i.toNat a]
  congr 1
  show l.toArray[i.toNat]=_;grind
 simp only[a5v,a3X,asIntOf,a4y,a3W,run_underlying h,zip b,e]
def abZ{vs:Array Y}(h:vs[i]?=O v):RD P (a6D (aq vs) i) w K X=K v:=by
 refine gR ?_;simp only[a6D,h];rfl
def ab0{l:List Y}:RD P (a6D (aq (v::l).toArray) 0) w K X=K v:=abZ zs
def ab1{l:List Y}:RD P (a6D (aq (u::v::l).toArray) 1) w K X=K v:=abZ zs
def ab2{x:Y}{l:List Y}:RD P (a6D (aq (u::x::v::l).toArray) 2) w K X=K v:=abZ zs
def ab5{t:TypeId}:RD P (Instr.panic (ak t v)) w K X=X (ak t v) w:=avM J
def Qa{len:Nat}(h:Ti P T=O n){k:IntKind}(b:0<=l)(c:l<=len){a:Option Addr} :
  RD P (a4B T (.slice a len cap) (O (.int k l)) V V) w K X=K (sliced a l.toNat len cap n):=by
 obtain⟨e,he,d⟩:=Xq h;refine gR ?_;rw[run_sliceAt_slice w T _ _ _ _ (by rw[Fs he];exact he),run_slice_l w T a len cap (by rw[Fs he];exact he) k l b c,Fs he,Fo d];rfl
def Qb{len:Nat}(h:Ti P T=O n){k:IntKind}(b:0<=l)(c:l<=cap){a:Option Addr} :
  RD P (a4B T (.slice a len cap) V (O (.int k l)) V) w K X=K (sliced a 0 l.toNat cap n):=by
 obtain⟨e,he,d⟩:=Xq h;refine gR ?_;rw[run_sliceAt_slice w T _ _ _ _ (by rw[Fs he];exact he),run_slice_h w T a len cap (by rw[Fs he];exact he) k l b c,Fs he,Fo d];rfl
def akm(l:List UInt8)(i j:Nat):(bs l).extract i j=bs ((l.take j).drop i):=by
 apply ByteArray.ext;grind [ByteArray.data_extract,Array.ext',Array.toList_extract,List.drop_take]
def avS{t:TypeId}(h:P.underlying t=O .string){s:List UInt8}{k:IntKind}(a:0<=l)(b:l<=s.length) :
  RD P (a4B t (.string (bs s)) (O (.int k l)) V V) w K X=K (.string (bs (s.drop l.toNat))):=by
 refine gR ?_;have e:(bs s).size=s.length:=by simp [a5L]
 simp only[a4B,Instr.slice,a3X,run_underlying h,a3W,Option.isSome,Bool.false_eq_true,if_false,Instr.sliceBounds,a4y,
  run_sliceBound w k l s.length _ a b,akm,e,List.take_length]
def avT{t:TypeId}(h:P.underlying t=O .string){s:List UInt8}{k:IntKind}{m:Int}(a:0<=l)(b:l<=m)(c:m<=s.length) :
  RD P (a4B t (.string (bs s)) (O (.int k l)) (O (.int Fq m)) V) w K X=K (.string (bs ((s.take m.toNat).drop l.toNat))):=by
 refine gR ?_;have e:(bs s).size=s.length:=by simp [a5L]
 simp only[a4B,Instr.slice,a3X,run_underlying h,a3W,Option.isSome,Bool.false_eq_true,if_false,Instr.sliceBounds,a4y,
  run_sliceBound w Fq m (bs s).size _ zo zo,run_sliceBound w k l m.toNat _ a zo,akm]
def Ft(pl:List (Nat×Nat))(cells:Array Y):List (Nat×Y)->Option (Array Y)
 | []=>O cells
 | (i,v)::r=>match pl[i]? with
  | none=>V
  | some (off,size)=>if v.cells.toList.length=size/\off+size<=cells.size then Ft pl (pF cells off v.cells.toList) r else V
def akn(off:Nat):∀ (l:List Y) (k:Nat) (cs:Array Y),(l.zipIdx k).foldl (fun cs (c,j)=>cs.setIfInBounds (off+j) c) cs=pF cs (off+k) l
 | [],_,_=>rfl
 | v::r,k,cs=>by
  simp only[List.zipIdx_cons,List.foldl_cons,pF];rw[akn off r (k+1)];rfl
theorem ab6{place:Nat->Option (Nat×Nat)}{pl:List (Nat×Nat)}(a:∀ i x,pl[i]?=O x->place i=O x):∀ (l:List (Nat×Y)) (cs:Array Y) (r:Array Y),Ft pl cs l=O r->a8b place cs l=O r
 | [],cs,r,h=>h
 | (i,v)::l,cs,r,h=>by
  unfold Ft at h;unfold a8b;cases hi:pl[i]? with
  | none=>grind
  | some x=>
   obtain⟨off,size⟩:=x;rw[hi] at h;dsimp only at h;rw[a i _ hi];dsimp only;split at h
   .rename_i d;have b:v.cells.size=size:=zg;rw[bU (by rw[b];simp;omega)];have e:=akn off v.cells.toList 0 cs;rw[Nat.add_zero] at e;have c:(v.cells.zipIdx.foldl (fun cs (x:Y×Nat)=>cs.setIfInBounds (off+x.2) x.1) cs)=pF cs off v.cells.toList:=by
     grind [Array.toList_zipIdx]
    rw[c];exact ab6 a l _ r h
   grind
def places(P:Program):List Field->Option (List (Nat×Nat))
 | []=>O []
 | f::r=>match P.info? f.type,places P r with
  | some i,O l=>O ((f.offset,i.size)::l)
  | _,_=>V
def ako(P:Program)(T:TypeId):Option (Array Y×List (Nat×Nat)):=
 match Au P T,P.underlying T with
 | some z,O (.struct fs)=>(places P fs.toList).map fun l=>(z.cells,l)
 | _,_=>V
def akp{w:Z}:∀ (l:List Field) (r:List (Nat×Nat)),places P l=O r->(l.mapM fun(f:Field)=>(do pure (f.offset,<- sizeOf f.type):Sem (Nat×Nat))).run P w = .ok r w
 | [],r,h=>by simp only[places,a3I] at h;subst h;rfl
 | f::l,r,h=>by
  unfold places at h;split at h
  .rename_i i q hi a;cases h;have ih:=akp (w:=w) l q a;have b:(sizeOf f.type).run P w = .ok i.size w:=(by grind [Fo,sized]);rw[List.mapM_cons];simp only[a3X,b,a3W,a4y,ih]
  grind
def Xs(x:Option (Array Y))(K:Y->Prop)(D:Prop):RT (K,D):=
 match x with
 | some cs=>K (.agg cs)
 | none=>D
def sT{z:Array Y}{pl:List (Nat×Nat)}(h:ako P T=O (z,pl)){parts:Array (Nat×Y)} :
  RD P (Instr.build T parts) w K X=Xs (Ft pl z parts.toList) K (GR P (Instr.build T parts) w K X):=by
 unfold Xs;split
 .rename_i cs f;refine gR ?_;unfold ako at h;split at h
  .rename_i b fs c hu;cases a:places P fs.toList with
   | none=>grind
   | some l=>
    rw[a] at h;simp only[Option.map_some,a3I,a4b] at h;obtain⟨rfl,rfl⟩:=h;have d:=akp (w:=w) fs.toList l a;have e:a8b (l.toArray[·]?) b.cells parts.toList=O cs:=(by grind [ab6]);simp only[Instr.build,a3X,Fp c,a3W,run_underlying hu];rw[Array.mapM_eq_mapM_toList];simp only[Sem.run_map,d,a3W,e];rfl
  grind
 .rfl
def akq(P:Program)(T n:Nat):Option (TypeId×Array Y×List (Nat×Nat)):=
 match P.underlying T with
 | some (.slice e)=>match P.info? e,Au P e with
  | some i,O z=>if n*i.size=0\/n*i.size > 2 ^ 24 then V else O (e,(Array.range (n*i.size)).map (z.cells[· % z.cells.size]!),(List.range n).map fun j=>(j*i.size,i.size))
  | _,_=>V
 | _=>V
def Xt(x:Option (Array Y))(e n:Nat)(w:Z)(K:Y->Z->Prop)(D:Prop):RT (K,D):=
 match x with
 | some cs=>K (.slice (O ⟨w.heap.size,0,V⟩) n n) (w.alloc (ah cs e))
 | none=>D
def xQ{e:TypeId}{z:Array Y}{pl:List (Nat×Nat)}(h:akq P T n=O (e,z,pl)){parts:Array (Nat×Y)}{K:Y->Z->Prop} :
  WR P (a4L T n parts) w K X=Xt (Ft pl z parts.toList) e n w K (WR0 P (a4L T n parts) w K X):=by
 unfold Xt;split
 .rename_i cs k;refine vw ?_;unfold akq at h;split at h
  .rename_i e' hu;split at h
   .rename_i i a hi b;split at h
    .grind
    .rename_i l;simp only[a3I,a4b] at h;obtain⟨rfl,rfl,rfl⟩:=h;have c:(sizeOf e').run P w = .ok i.size w:=(by grind [Fo,sized]);have d:a8b (fun j=>O (j*i.size,i.size)) ((Array.range (n*i.size)).map (a.cells[· % a.cells.size]!)) parts.toList=O cs:=
      (by grind [ab6,List.range,List.getElem?_eq_some_iff])
     have f:¬ (n*i.size > 2 ^ 24):=zo;have g:¬ (n*i.size=0):=zo;simp only[a4L,a3X,run_underlying hu,a3W,c,bU f,bU g,a4y,Fp b,d];simp only[newRow,newObj,a3X,Sem.run,a3W,a4y];rfl
   exact yH
  exact yH
 .rfl
def Kt(P:Program)(T:TypeId):Bool:=
 match P.underlying T with
 | some (.interface _)=>ae
 | some _=>G
 | none=>ae
def DV(h:Kt P T=G){K:Y->Z->Prop}:WR P (Instr.makeInterface T v) w K X=K (ak T v) w:=by
 refine vw ?_;unfold Kt at h;unfold Instr.makeInterface underlying;simp only[a3X,program,Sem.run,a3W];grind [a4y,a3W]
def Xu{fn:Fn}{x y:Array Y}{K:Y->Z->Prop}:WR P (Instr.makeFunc fn x y) w K X=K (.func fn x y) w:=vw J
end
def avU{P:Program}{src dst:TypeId}{kd:IntKind}(a:(P.underlying src).isSome=G)(b:P.underlying dst=O (.int kd)){k:IntKind}{n:Int}{K:Y->Z->Prop} :
  WR P (convert src dst (.int k n)) w K X=K (.int kd (kd.wrap n)) w:=by
 have e:P.intKind dst=kd:=by grind [Program.intKind]
 refine vw ?_;grind [run_convert_int]
def u8w{x:Int}(a:0<=x)(b:x<=255):IntKind.u8.wrap x=x:=by
 unfold IntKind.wrap;have c:(2 ^ IntKind.u8.bits:Int)=256:=zd;have d:IntKind.u8.signed=false:=rfl;grind
def cQ{P:Program}{s:Sem Y}{S:Z->Prop}(v:Y)(h:∀ w',S w'->RD P s w' (fun u=>u=v) NX)(hk:K v):vq P s S K:=by
 refine⟨v,fun w' b=>?_,hk⟩;have a:=h w' b;unfold RD at a;cases hr:s.run P w' with
 | ok u c=>grind
 | halt x c=>rw[hr] at a;cases x<;>exact a.elim
def Pr(p:Prop):Prop:=p
def toPr{p:Prop}(h:Pr p):p:=h
def ldV(x:Option Y)(K:Y->Prop)(D:Prop):RT (K,D):=
 match x with | some v=>K v | none=>D
theorem Tj{x y:Obj}:bR (bR w b x) b y=bR w b y:=by unfold bR;simp
def ab8{F:((Nat->Y)->Z->Prop)->Prop}{R:(Nat->Y)->(Nat->Y)->Z->Prop}:JN F R=F (fun s w=>∀ d,R s d w):=rfl
def ab9{U:TypeId}{z:Nat×Nat}{D:Prop}:Xp (O (ah cs U z)) o K D=ldV (cs[o]?) K D:=rfl
def aca{D:Prop}:ldV (O v) K D=K v:=rfl
def acb{U:TypeId}{z:Nat×Nat}{D:Prop}(h:o+n<=cs.size):No (O (ah cs U z)) o n K D=K (.agg ((cs.toList.drop o).take n).toArray):=by
 unfold No;grind
def acd{U:TypeId}{K:Z->Prop}{D:Prop}(h:o+n<=cs.size) :
  Th (O (ah cs U (0,0))) w b o n v K D=if v.cells.toList.length=n/\(v.cells.toList.all Value.oneCell')=G then K (bR w b (ah (pF cs o v.cells.toList) U (0,0))) else D:=by
 simp [Th,h]
def ace{D:Prop}:Xs (O cs) K D=K (.agg cs):=rfl
def acf{K:Y->Z->Prop}{D:Prop}:Xt (O cs) e n w K D=K (.slice (O ⟨w.heap.size,0,V⟩) n n) (w.alloc (ah cs e)):=rfl
def acg(a:Array Y):(Value.agg a).cells=a:=rfl
def ach(s:ByteArray):(a4a s).cells=#[.string s]:=rfl
def aci(k:IntKind)(n:Int):(Value.int k n).cells=#[.int k n]:=rfl
def acj(a:Option Addr)(n c:Nat):(Value.slice a n c).cells=#[.slice a n c]:=rfl
def ack(a:Option Addr):(a4x a).cells=#[.pointer a]:=rfl
def acm(l:List Y):(Value.agg l.toArray).cells.toList=l:=rfl
def acn(k:IntKind)(n:Int):(Value.int k n).cells.toList=[.int k n]:=rfl
def aco(b:Bool):(Value.bool b).cells.toList=[.bool b]:=rfl
def acp(s:ByteArray):(a4a s).cells.toList=[.string s]:=rfl
def acq(a:Option Addr)(n c:Nat):(Value.slice a n c).cells.toList=[.slice a n c]:=rfl
def acr(a:Option Addr):(a4x a).cells.toList=[.pointer a]:=rfl
def acu(t:TypeId)(v:Y):(Value.iface t v).cells.toList=[ak t v]:=rfl
def acv:Value.nilIface.cells.toList=[aj]:=rfl
def acw(f:Fn)(x y:Array Y):(Value.func f x y).cells.toList=[.func f x y]:=rfl
def acx(r:Option Nat):(Value.map r).cells.toList=[.map r]:=rfl
def acy(k:IntKind)(n:Int):(Value.int k n).oneCell'=true:=rfl
def acz(b:Bool):(Value.bool b).oneCell'=true:=rfl
def acA(s:ByteArray):(a4a s).oneCell'=true:=rfl
def acB(a:Option Addr)(n c:Nat):(Value.slice a n c).oneCell'=true:=rfl
def acC(a:Option Addr):(a4x a).oneCell'=true:=rfl
def acD(t:TypeId)(v:Y):(Value.iface t v).oneCell'=true:=rfl
def acE:Value.nilIface.oneCell'=true:=rfl
def acF(f:Fn)(x y:Array Y):(Value.func f x y).oneCell'=true:=rfl
def acG(r:Option Nat):(Value.map r).oneCell'=true:=rfl
theorem Qc{x:Int}(a:-9223372036854775808<=x)(b:x<=9223372036854775807):IntKind.i64.wrap x=x:=by
 unfold IntKind.wrap;have c:(2 ^ IntKind.i64.bits:Int)=18446744073709551616:=zd;have d:(2 ^ (IntKind.i64.bits-1):Int)=9223372036854775808:=zd;have e:IntKind.i64.signed=true:=rfl;grind
end Sx
open Go.Proofs.YtoegidfbnkaabaaGreatDoor.Sx
def _root_.Go.Proofs.YtoegidfbnkaabaaGreatDoor.Sx.avV:Tryz.prog.follows .mixedOrders=true:=zk
def aks(k:Nat):Bool:=[2,3,4,5,6,7,8,9,10,11,12,13,14,15,16,17,18,19,20,21,22,23,24,25,26,27,28,29,30,31,32,33,34,35,36,37,38,39,40,41,42,43,44,45,46,47,48,49,50,51,52,53,57,58,59,60,61,62,63,64,65,66,67,68,69,70,71,72,73,74,75,76,77,78,79,80,81,82,83,84,85,86,90,91,92,93,94,95,96,97,98,99,100,101,102,103,104,105,106,107,108,109,111,112,113,114,115,116,117,118,119,120,121,122,123,124,125,126,127,128,129,130,131,132,133,134,135,136,137,138,139,140,141,142,143,144,145,146,147,148,149,151,152,153,154,155,156,157,158,159,160,161,162,163,164,165,166,168,169,170,171,172,173,174,175,177,178,179,180,181,202,205,206,207,208,209,210,211,212,213,214,215,216,217,218,219,220,221,222,223,224,225,226,227,228,248,264].contains k
def avW:([2,3,4,5,6,7,8,9,10,11,12,13,14,15,16,17,18,19,20,21,22,23,24,25,26,27,28,29,30,31,32,33,34,35,36,37,38,39,40,41,42,43,44,45,46,47,48,49,50,51,52,53,57,58,59,60,61,62,63,64,65,66,67,68,69,70,71,72,73,74,75,76,77,78,79,80,81,82,83,84,85,86,90,91,92,93,94,95,96,97,98,99,100,101,102,103,104,105,106,107,108,109,111,112,113,114,115,116,117,118,119,120,121,122,123,124,125,126,127,128,129,130,131,132,133,134,135,136,137,138,139,140,141,142,143,144,145,146,147,148,149,151,152,153,154,155,156,157,158,159,160,161,162,163,164,165,166,168,169,170,171,172,173,174,175,177,178,179,180,181,202,205,206,207,208,209,210,211,212,213,214,215,216,217,218,219,220,221,222,223,224,225,226,227,228,248,264].all (Al Tryz.prog))=true:=zk
def Fu(l:Nat->List Nat)(j:Nat->Option (List Nat))(t:Nat->Nat)(a:Nat->Option (List Nat))(bl bj:Nat->List Nat)(sm sy:Nat->Bool):Sx.Good { P:=Tryz.prog,B:=fun t=>t == 4,calls:=aks,live:=l,join:=j,tail:=t,held:=a,bl:=bl,bj:=bj,sum:=sm,sy:=sy }:=
 ⟨avV,fun k hk=>List.all_eq_true.1 avW k (by simpa [aks] using hk)⟩
abbrev aW (x : List UInt8) : Y := .string (bs x)
abbrev aO (x : Array Y) (T : Nat) : Option Obj := O (ah x T)
abbrev cS (b n c : Nat) : Y := .slice (O ⟨b, 0, V⟩) n c
abbrev bW : Y := .slice V 0 0
abbrev pp (b : Nat) : Y := au (O ⟨b, 0, V⟩)
abbrev pq (b o : Nat) : Y := au (O ⟨b, o, V⟩)
abbrev zi (n : Int) : Y := .int .i64 n
def zT (l : List Nat) (n : Nat) : Bool := match l with
 | [] => ae
 | a :: r => cond (a5N a n) G (zT r n)
def zL (l : List (Nat × List Nat)) (n : Nat) : List Nat := match l with
 | [] => []
 | (a, b) :: r => cond (a5N a n) b (zL r n)
def zN (l : List (Nat × Nat)) (n : Nat) : Nat := match l with
 | [] => 0
 | (a, b) :: r => cond (a5N a n) b (zN r n)
def zO (l : List (Nat × List Nat)) (n : Nat) : Option (List Nat) := match l with
 | [] => V
 | (a, b) :: r => cond (a5N a n) (O b) (zO r n)
open Go
namespace Sx
def zr{p:Prop}(h:p:=by with_unfolding_all rfl):p:=h
def akt{α:Type}(x:α):tid x=x:=rfl
def Qe(P:Program)(s:Sem Y)(w:Z)(K:Y->Prop)(X:Y->Z->Prop):Prop:=RD P s w K X
def WRp(P:Program)(s:Sem Y)(w:Z)(K:Y->Z->Prop)(X:Y->Z->Prop):Prop:=WR P s w K X
def WUp(P:Program)(s:Sem Unit)(w:Z)(K:Z->Prop)(X:Y->Z->Prop):Prop:=WU P s w K X
def CAp(P:Program)(k:FuncId)(args:Array Y)(w:Z)(K:Y->Z->Prop)(X:List PanicEntry->Z->Prop):Prop:=CA P k args w K X
def CQp(P:Program)(k:FuncId)(args:Array Y)(w:Z)(K:Y->Prop):Prop:=CQ P k args w K
def CVp(P:Program)(f:Y)(args:Array Y)(w:Z)(K:Y->Z->Prop)(X:List PanicEntry->Z->Prop):Prop:=CV P f args w K X
def CIp(P:Program)(v:Y)(name:String)(args:Array Y)(w:Z)(K:Y->Z->Prop)(X:List PanicEntry->Z->Prop):Prop:=CI P v name args w K X
def Tk(v:Y)(A B:Prop):Prop:=BS v A B
def DFp(v:Y)(K:Fn->Array Y->Array Y->Prop):Prop:=DF v K
def Xv(v:Y)(K:Y->Prop):Prop:=NC v K
def akB(F:((Nat->Y)->Z->Prop)->(Nat->Y)->(Nat->Y)->Z->Prop)(s0:Nat->Y)(w0:Z):Prop:=PU F s0 w0
def JNp(F:((Nat->Y)->Z->Prop)->Prop)(R:(Nat->Y)->(Nat->Y)->Z->Prop):Prop:=JN F R
def JSp(F:((Nat->Y)->Z->Prop)->Prop)(R:(Nat->Y)->(Nat->Y)->Z->Prop):Prop:=JS F R
def Xw(P:Program)(s:Sem Y)(S:Z->Prop)(K:Y->Prop):Prop:=vq P s S K
def HDp(F:(Z->Prop)->Prop):Prop:=HD F
section
variable{LL:List Oper}{C:mO}{P:Program}{o:Oper}{ops:Array Oper}{rest:List Oper}{a:Env}{w:Z}{next:Env->Z->Prop}{nB:Env->Prop}{Q:Exit->Env->Z->Prop}{c x y:Code}{K:Y->Prop}{S:Z->Prop}{m:Option Nat}{r:List Nat}{L:Array Bool}{i:Nat}
def Ku:List Oper->Nat->Option Oper
 | [],_=>V
 | o::_,0=>O o
 | _::r,i+1=>Ku r i
def avX(h:C.join (Fi x)=V):gx C (.seq x y) Q a w=gx C x (Cj (gx C y Q) Q) a w:=by simp only[gx,h]
def avY{l:List Nat}(h:C.join (Fi x)=O l)(b:nd x=G)(c:C.sum (Fi x)=ae):gx C (.seq x y) Q a w =
 JNp (fun j=>gx C x (Cj (fun a' w'=>j (jo (An a' l)) w') Q) a w) (fun s d w=>qC (C.bj (Fi x)) (fr a (wr x) l s d) fun a=>gx C y Q a w):=by simp only[gx,h,b,c];rfl
def avZ{l:List Nat}(h:C.join (Fi x)=O l)(b:nd x=G)(c:C.sum (Fi x)=G):gx C (.seq x y) Q a w =
 JSp (fun j=>gx C x (Cj (fun a' w'=>j (jo (An a' l)) w') Q) a w) (fun s d w=>qC (C.bj (Fi x)) (fr a (wr x) l s d) fun a=>gx C y Q a w):=by simp only[gx,h,b,c];rfl
def av0:gx C .skip Q a w=Q .normal a w:=rfl
def av4{l:List Oper}{id:Nat}:gx C (.region id l.toArray ae) Q a w=xM C l.toArray Q l a w:=rfl
def av5{id:Nat}(h:C.held id=V)(b:Xc ops (C.tail id)=G):gx C (.region id ops G) Q a w =
 Bk C ops w.drew (fun a'=>xM C ops Q (ops.toList.drop (C.tail id)) a' w.drew) (ops.toList.take (C.tail id)) a:=by simp only[gx,h,b]
def av7{id m:Nat}{l:List Nat}(h:C.held id=O (m::l))(b:(l.length == ops.size && Region.noSelect ops)=G):gx C (.region id ops G) Q a w =
 HDp fun S=>S w.drew/\mV C ops Q S (syn m) l (Array.replicate ops.size ae) a w.drew:=by simp only[gx,h,b];rfl
def av8{d:Operand}(h:Xd C d=G):gx C (.cond d x y) Q a w=Tk (a.eval d) (gx C x Q a w) (gx C y Q a w):=by simp only[gx,h];rfl
def av9{d:Operand}(h:Xd C d=ae)(b:a.eval d = .bool G):gx C (.cond d x y) Q a w=gx C x Q a w:=by simp only[gx,h,b]
def awa{d:Operand}(h:Xd C d=ae)(b:a.eval d = .bool ae):gx C (.cond d x y) Q a w=gx C y Q a w:=by simp only[gx,h,b]
def awb{id:Nat}:gx C (.block id c) Q a w=gx C c (GI id Q) a w:=rfl
def awc{id:Nat}:gx C (.exit id) Q a w=Q (.exit id) a w:=rfl
def awd:gx C .ret Q a w=Q .ret a w:=rfl
def awe{l:Nat}:gx C (.label l) Q a w=Q .normal a w:=rfl
def awf:gx C (.scope c) Q a w=gx C c (PW Q) a w:=rfl
def awg(h:nd c=G):gx C (.loop c) Q a w=akB (fun rec s d w=>qC (C.bl (II c)) (fr a (wr c) (C.live (II c)) s d) fun a=>gx C c (Cj (fun a' w'=>rec (jo (An a' (C.live (II c)))) w') Q) a w)
 (jo (An a (C.live (II c)))) w:=by simp only[gx,h];rfl
def awh:Cj next Q .normal a w=next a w:=rfl
def awi:Cj next Q (.exit i) a w=Q (.exit i) a w:=rfl
def awj:Cj next Q .ret a w=Q .ret a w:=rfl
def awk{l:List PanicEntry}:Cj next Q (.panic l) a w=Q (.panic l) a w:=rfl
def awl:Cj next Q (.goto i) a w=Q (.goto i) a w:=rfl
def awm:GI i Q .normal a w=Q .normal a w:=rfl
def awn(h:a5N j i=G):GI i Q (.exit j) a w=Q .normal a w:=by simp only[GI,h,akt,cond]
def awo(h:a5N j i=ae):GI i Q (.exit j) a w=Q (.exit j) a w:=by simp only[GI,h,akt,cond]
def awp:GI i Q .ret a w=Q .ret a w:=rfl
def awq{l:List PanicEntry}:GI i Q (.panic l) a w=Q (.panic l) a w:=rfl
def awr:PW Q .normal a w=Q .normal a w:=rfl
def aws:PW Q (.exit i) a w=Q (.exit i) a w:=rfl
def awt:PW Q .ret a w=Q .ret a w:=rfl
def awu{l:List PanicEntry}:PW Q (.panic l) a w=Q (.panic l) a w:=rfl
def awv{d:List Nat}:NP d Q .normal a w=Q .normal a w:=rfl
def aww{d:List Nat}{l:List PanicEntry}:NP d Q (.panic l) a w=∀ f:Nat->Y,Q (.panic l) { a with f:=fun t=>cond (rN t d) (f t) (a.f t) } w:=rfl
def awx(b:LL=[]):xM C ops Q LL a w=Q .normal a w:=by rw[b];rfl
def awy(b:LL=o::rest)(h:a4M o (yR ops a)=G):xM C ops Q LL a w=mf C o a w (xM C ops Q rest) Q:=by simp only[b,xM,h]
def awz(b:LL=o::rest)(h:a4M o (yR ops a)=ae):xM C ops Q LL a w=xM C ops Q rest (a.put o.dst undef) w:=by simp only[b,xM,h]
def awA{q:Env->Prop}(b:LL=[]):Bk C ops w q LL a=q a:=by rw[b];rfl
def awB{q:Env->Prop}(b:LL=o::rest)(h:a4M o (yR ops a)=G):Bk C ops w q LL a=sQ C o a w (Bk C ops w q rest):=by simp only[b,Bk,h]
def awC{q:Env->Prop}(b:LL=o::rest)(h:a4M o (yR ops a)=ae):Bk C ops w q LL a=Bk C ops w q rest (a.put o.dst undef):=by simp only[b,Bk,h]
def awD{K:Env->Prop}:qC [] a K=K a:=rfl
def awE{K:Env->Prop}:qC (i::r) a K=Tk (a.f i) (qC r (a.put (O i) (.bool G)) K) (qC r (a.put (O i) (.bool ae)) K):=rfl
def awF(h:(C.B o.type && early C o)=G):pU C o K v=Tk v (K (.bool G)) (K (.bool ae)):=by simp only[pU,h];rfl
def awG(h:(C.B o.type && early C o)=ae):pU C o K v=K v:=by simp only[pU,h]
variable{d:Option Nat}{t n:Nat}{pos:String}{af:Array Edge}{g:Option (Nat×Bool)}{u v z:Operand}{args:Array Operand}{DR:Array Nat}{k:FuncId}{s:Sem Y}
def spec(o:Oper):Bool:=match o.op with
 | .move _ | .assign _ | .pick _ _ _ | .nilCheck _ | .defer _ | .binOp _ _ _ _ _=>G
 | .call { callee:=.value _,.. } | .call { callee:=.invoke _ _,.. }=>G
 | _=>ae
def Xx:Operand->Bool
 | .func _=>G
 | _=>ae
def awH(h:o.op = .move u):mf C o a w next Q=next (a.put o.dst (a.eval u)) w:=by simp only[mf,h]
def awI(h:o.op = .assign u):mf C o a w next Q=next (a.put o.dst (a.eval u)) w:=by simp only[mf,h]
def awJ(h:o.op = .pick z u v)(b:a.eval z = .bool G):mf C o a w next Q=next (a.put o.dst (a.eval u)) w:=by simp only[mf,h,b]
def awK(h:o.op = .pick z u v)(b:a.eval z = .bool ae):mf C o a w next Q=next (a.put o.dst (a.eval v)) w:=by simp only[mf,h,b]
def awL(h:o.op = .nilCheck u):mf C o a w next Q=Xv (a.eval u) fun v=>next (a.put o.dst v) w:=by simp only[mf,h];rfl
def awM(h:o.op = .defer ⟨.value (.func k),args,DR⟩):mf C o a w next Q=next ({ a with defers:={ target:=.fn (.func k) #[],args:=j5 a args }::a.defers }.put o.dst undef) w:=by simp only[mf,h]
def awN(h:o.op = .defer ⟨.value u,args,DR⟩)(b:Xx u=ae):mf C o a w next Q=DFp (a.eval u) fun fn x y=>next ({ a with defers:={ target:=.fn fn y,args:=x++j5 a args }::a.defers }.put o.dst undef) w:=by
 cases u<;>first | (simp [Xx] at b;done) | (simp only[mf,h];rfl)
def awO(h:o.op = .call ⟨.value (.func k),args,DR⟩)(b:C.calls k=G):mf C o a w next Q=CAp C.P k (j5 a args) w (fun v w'=>pU C o (fun v=>next (a.put o.dst v) w') v) (fun c w'=>Q (.panic c) a w'):=by simp only[mf,h,b];rfl
def awP(h:o.op = .call ⟨.value u,args,DR⟩)(b:Xx u=ae):mf C o a w next Q=CVp C.P (a.eval u) (j5 a args) w (fun v w'=>pU C o (fun v=>next (a.put o.dst v) w') v) (fun c w'=>Q (.panic c) a w'):=by
 cases u<;>first | (simp [Xx] at b;done) | (simp only[mf,h];rfl)
def awQ{nm:String}(h:o.op = .call ⟨.invoke u nm,args,DR⟩):mf C o a w next Q=CIp C.P (a.eval u) nm (j5 a args) w (fun v w'=>pU C o (fun v=>next (a.put o.dst v) w') v) (fun b w'=>Q (.panic b) a w'):=by simp only[mf,h];rfl
def awR(h:spec o=ae)(b:Am a o=O s):mf C o a w next Q=Qe C.P s w (fun v=>pU C o (fun v=>next (a.put o.dst v) w) v) (fun v w'=>Q (.panic [{ v,recovered:=false }]) a w'):=by
 unfold mf;unfold spec at h;split at h<;>first | cases h | skip
 simp_all;rfl
def awS{p:BinOp}{b:_}(h:o.op = .binOp p t u v b):mf C o a w next Q=Qe C.P (bo p t u v (a.eval u) (a.eval v)) w (fun v=>pU C o (fun v=>next (a.put o.dst v) w) v) (fun v w'=>Q (.panic [{ v,recovered:=false }]) a w'):=by simp only[mf,h,Am];rfl
def awT(h:spec o=ae)(b:Am a o=V)(c:writing a o=O s):mf C o a w next Q=WRp C.P s w (fun v w'=>next (a.put o.dst v) w') (fun v w'=>Q (.panic [{ v,recovered:=false }]) a w'):=by
 unfold mf;unfold spec at h;split at h<;>first | cases h | skip
 simp_all;rfl
def awU{s:Sem Unit}(h:spec o=ae)(b:Am a o=V)(c:writing a o=V)(d:W8 a o=O s):mf C o a w next Q=WUp C.P s w (fun w'=>next (a.put o.dst undef) w') (fun v w'=>Q (.panic [{ v,recovered:=false }]) a w'):=by
 unfold mf;unfold spec at h;split at h<;>first | cases h | skip
 simp_all;rfl
def awV(h:o.op = .move u):sQ C o a w nB=nB (a.put o.dst (a.eval u)):=by simp only[sQ,h]
def awW(h:o.op = .assign u):sQ C o a w nB=nB (a.put o.dst (a.eval u)):=by simp only[sQ,h]
def awX(h:o.op = .pick z u v)(b:a.eval z = .bool G):sQ C o a w nB=nB (a.put o.dst (a.eval u)):=by simp only[sQ,h,b]
def awY(h:o.op = .pick z u v)(b:a.eval z = .bool ae):sQ C o a w nB=nB (a.put o.dst (a.eval v)):=by simp only[sQ,h,b]
def awZ(h:o.op = .nilCheck u):sQ C o a w nB=Xv (a.eval u) fun v=>nB (a.put o.dst v):=by simp only[sQ,h];rfl
def aw0(h:o.op = .call ⟨.value (.func k),args,DR⟩)(b:C.calls k=G):sQ C o a w nB=CQp C.P k (j5 a args) w (fun v=>pU C o (fun v=>nB (a.put o.dst v)) v):=by simp only[sQ,h,b];rfl
def aw1(h:spec o=ae)(b:Am a o=O s):sQ C o a w nB=Qe C.P s w (fun v=>pU C o (fun v=>nB (a.put o.dst v)) v) NX:=by
 unfold sQ;unfold spec at h;split at h<;>first | cases h | skip
 simp_all;rfl
def aw2{p:BinOp}{b:_}(h:o.op = .binOp p t u v b):sQ C o a w nB=Qe C.P (bo p t u v (a.eval u) (a.eval v)) w (fun v=>pU C o (fun v=>nB (a.put o.dst v)) v) NX:=by simp only[sQ,h,Am];rfl
def aw3(h:o.op = .move u):sS C o a S nB=nB (a.put o.dst (a.eval u)):=by simp only[sS,h]
def aw4(h:o.op = .assign u):sS C o a S nB=nB (a.put o.dst (a.eval u)):=by simp only[sS,h]
def aw5(h:o.op = .pick z u v)(b:a.eval z = .bool G):sS C o a S nB=nB (a.put o.dst (a.eval u)):=by simp only[sS,h,b]
def aw6(h:o.op = .pick z u v)(b:a.eval z = .bool ae):sS C o a S nB=nB (a.put o.dst (a.eval v)):=by simp only[sS,h,b]
def aw7(h:o.op = .nilCheck u):sS C o a S nB=Xv (a.eval u) fun v=>nB (a.put o.dst v):=by simp only[sS,h];rfl
def aw8(h:spec o=ae)(b:Am a o=O s):sS C o a S nB=Xw C.P s S (fun v=>pU C o (fun v=>nB (a.put o.dst v)) v):=by
 unfold sS;unfold spec at h;split at h<;>first | cases h | skip
 simp_all;rfl
def aw9(h:spec o=ae)(b:Am a o=V)(c:W7 a o=O s):sS C o a S nB=Xw C.P s S (fun v=>nB (a.put o.dst v)):=by
 unfold sS;unfold spec at h;split at h<;>first | cases h | skip
 simp_all;rfl
def axa{p:BinOp}{b:_}(h:o.op = .binOp p t u v b):sS C o a S nB=Xw C.P (bo p t u v (a.eval u) (a.eval v)) S (fun v=>pU C o (fun v=>nB (a.put o.dst v)) v):=by simp only[sS,h,Am];rfl
def Qg:∀ {l:Array Oper} {i:Nat} {o:Oper},Ku l.toList i=O o->l[i]?=O o:=by
 intro l i o h;rw[<- Array.getElem?_toList];generalize l.toList=L at h;induction L generalizing i with
 | nil=>cases h
 | cons a r ih=>cases i with
  | zero=>exact h
  | succ i=>rw[a5b];exact ih h
def axb(h:a4J .any ops L=[]):mV C ops Q S m [] L a w=Q .normal a w:=by simp only[mV,h]
def axc(b:Ku ops.toList i=O o)(c:(a4J .any ops L == [i])=G)(d:a4M o (yR ops a)=ae) :
 mV C ops Q S m (i::r) L a w=mV C ops Q S m r (L.setIfInBounds i G) (a.put o.dst undef) w:=by have h:=Qg b;simp only[mV,h,c,d]
def axd(b:Ku ops.toList i=O o)(c:(a4J .any ops L == [i])=G)(d:a4M o (yR ops a)=G)(e:W9 a o=G) :
 mV C ops Q S m (i::r) L a w=sQ C o a w (fun a'=>mV C ops Q S m r (L.setIfInBounds i G) a' w):=by have h:=Qg b;simp only[mV,h,c,d,e]
def axe(b:Ku ops.toList i=O o)(c:(a4J .any ops L == [i])=G)(d:a4M o (yR ops a)=G)(e:W9 a o=ae)(f:uF m (L.setIfInBounds i G)=G) :
 mV C ops Q S m (i::r) L a w=mf C o a w (fun a' w'=>S w'/\mV C ops Q S m r (L.setIfInBounds i G) a' w') (NP (rh ops.toList) Q):=by have h:=Qg b;simp only[mV,h,c,d,e,f]
def axf(b:Ku ops.toList i=O o)(c:(a4J .any ops L == [i])=G)(d:a4M o (yR ops a)=G)(e:W9 a o=ae)(f:uF m (L.setIfInBounds i G)=ae) :
 mV C ops Q S m (i::r) L a w=mf C o a w (fun a' w'=>mV C ops Q S m r (L.setIfInBounds i G) a' w') (NP (rh ops.toList) Q):=by have h:=Qg b;simp only[mV,h,c,d,e,f]
def axg(b:Ku ops.toList i=O o)(c:(a4J .any ops L == [i])=ae)(d:((a4J .any ops L).contains i && Region.free .any ops L i && SQ .any ops L m i)=G)(e:a4M o (yR ops a)=ae) :
 mV C ops Q S m (i::r) L a w=mV C ops Q S m r (L.setIfInBounds i G) (a.put o.dst undef) w:=by have h:=Qg b;simp only[mV,h,c,e,d]
def axh(b:Ku ops.toList i=O o)(c:(a4J .any ops L == [i])=ae)(d:((a4J .any ops L).contains i && Region.free .any ops L i && SQ .any ops L m i)=G)(e:a4M o (yR ops a)=G) :
 mV C ops Q S m (i::r) L a w=sS C o a S (fun a'=>mV C ops Q S m r (L.setIfInBounds i G) a' w):=by have h:=Qg b;simp only[mV,h,c,e,d]
variable{x1 x2:Y}{f:Nat->Y}{j:Nat}{vs lv:List Nat}{sf df:Nat->Y}{al:List Operand}{ds:List Deferred}{pl:List (Nat×Operand)}
def axi:a.eval (.tmp i)=a.f i:=rfl
def axj{k:IntKind}{n:Int}:a.eval (.const (.int k n)) = .int k n:=rfl
def axk{b:Bool}:a.eval (.const (.bool b)) = .bool b:=rfl
def axl{l:List UInt8}:a.eval (.const (.string ⟨l.toArray⟩)) = aW l:=rfl
def axm:a.eval (.const aj) = aj:=rfl
def axn{p:Option Addr}:a.eval (.const (.pointer p)) = .pointer p:=rfl
def axo{p:Option Addr}{n c:Nat}:a.eval (.const (.slice p n c)) = .slice p n c:=rfl
def axp{r:Option Nat}:a.eval (.const (.map r)) = .map r:=rfl
def axq{t:TypeId}{v:Y}:a.eval (.const (ak t v)) = ak t v:=rfl
def axr{l:Array Y}:a.eval (.const (aq l)) = aq l:=rfl
def axs:a.eval (.global i) = au (O ⟨i,0,V⟩):=rfl
def axt:a.eval (.func i) = .func (.func i) #[] #[]:=rfl
def axu:(a.put V x1)=a:=rfl
def axv(h:a5N i j=G):(a.put (O j) x1).f i=x1:=by simp only[Env.put,Kk,h,cond]
def axw(h:a5N i j=ae):(a.put (O j) x1).f i=a.f i:=by simp only[Env.put,Kk,h,cond]
def axx{d:Option Nat}:(a.put d x1).defers=a.defers:=by cases d<;>rfl
def axy(h:rN j lv=G):(fr a vs lv sf df).f j=sf j:=by simp only[fr,SR,h,cond]
def axz(h:rN j lv=ae)(b:rN j vs=G):(fr a vs lv sf df).f j=df j:=by simp only[fr,SR,h,b,cond]
def axA(h:rN j lv=ae)(b:rN j vs=ae):(fr a vs lv sf df).f j=a.f j:=by simp only[fr,SR,h,b,cond]
def axB:(fr a vs lv sf df).defers=a.defers:=rfl
def axC:(wT []).f i=undef:=rfl
def axD{l:List Y}:(wT (x1::l)).f 0=x1:=rfl
def axE{l:List Y}:(wT (x1::l)).f (i+1)=(wT l).f i:=rfl
def axF{l:List Y}:(wT l).defers=[]:=rfl
def axG{α:Type}{c:Bool}{x y:α}(h:c=G):cond c x y=x:=by rw[h];rfl
def axH{α:Type}{c:Bool}{x y:α}(h:c=ae):cond c x y=y:=by rw[h];rfl
def axI:j5 a al.toArray=(al.map a.eval).toArray:=rfl
def axJ:SO a pl.toArray=(pl.map fun x=>(x.1,a.eval x.2)).toArray:=rfl
def axK:M5 a V=none:=rfl
def axL:M5 a (O u)=O (a.eval u):=rfl
def axM(h:lv=[]):An a lv=[]:=by rw[h];rfl
def axN(h:lv=j::r):An a lv=(j,a.f j)::An a r:=by rw[h];rfl
def axO{K:Env->Prop}(h:lv=[]):qC lv a K=K a:=by rw[h];rfl
def axP{K:Env->Prop}(h:lv=i::r):qC lv a K=Tk (a.f i) (qC r (a.put (O i) (.bool G)) K) (qC r (a.put (O i) (.bool ae)) K):=by rw[h];rfl
variable{fn:Func}{R:Ending->Z->Prop}{K1:List Y->Prop}{l:List Y}{rs Xy:List ResultVar}
def axQ(h:rs=[]):vu P rs f w l K1=K1 l:=by rw[h];rfl
def axR(h:rs = .tmp t::Xy):vu P rs f w l K1=vu P Xy f w (l++[f t]) K1:=by rw[h];rfl
def axS(h:rs = .cell j t::Xy):vu P rs f w l K1=Qe P (Instr.loadAt t (f j)) w (fun v=>vu P Xy f w (l++[v]) K1) NX:=by rw[h];rfl
def axT:Kr P fn R .normal a w=vu P fn.results.toList a.f w [] fun l=>R (ai (one l)) w:=rfl
def axU:Kr P fn R .ret a w=vu P fn.results.toList a.f w [] fun l=>R (ai (one l)) w:=rfl
def axV{l:List PanicEntry}:Kr P fn R (.panic l) a w=R (.panicked l) w:=rfl
def axW:Nk P fn R .normal a w=LV P (fun w=>vu P fn.results.toList a.f w [] fun l=>R (ai (one l)) w) R a.defers .returning w:=rfl
def axX:Nk P fn R .ret a w=LV P (fun w=>vu P fn.results.toList a.f w [] fun l=>R (ai (one l)) w) R a.defers .returning w:=rfl
def axY{l:List PanicEntry}:Nk P fn R (.panic l) a w=LV P (fun w=>vu P fn.results.toList a.f w [] fun l=>R (ai (one l)) w) R a.defers (.panicking l) w:=rfl
def axZ:one [] = aq #[]:=rfl
def ax0:one [x1]=x1:=rfl
def ax1:one (x1::x2::l) = aq (x1::x2::l).toArray:=rfl
def ax2:Qe P s w K X=RD P s w K X:=rfl
def ax3{K:Y->Z->Prop}:WRp P s w K X=WR P s w K X:=rfl
def ax4{s:Sem Unit}{K:Z->Prop}:WUp P s w K X=WU P s w K X:=rfl
def ax5{args:Array Y}{K:Y->Z->Prop}{X:List PanicEntry->Z->Prop}:CAp P k args w K X=CA P k args w K X:=rfl
def ax6{args:Array Y}:CQp P k args w K=CQ P k args w K:=rfl
def ax7{args:Array Y}{K:Y->Z->Prop}{X:List PanicEntry->Z->Prop}:CVp P x1 args w K X=CV P x1 args w K X:=rfl
def ax8{nm:String}{args:Array Y}{K:Y->Z->Prop}{X:List PanicEntry->Z->Prop}:CIp P x1 nm args w K X=CI P x1 nm args w K X:=rfl
def ax9{A B:Prop}:Tk x1 A B=BS x1 A B:=rfl
def aya{K:Fn->Array Y->Array Y->Prop}:DFp x1 K=DF x1 K:=rfl
def ayb:Xv x1 K=NC x1 K:=rfl
def ayc{F:((Nat->Y)->Z->Prop)->(Nat->Y)->(Nat->Y)->Z->Prop}:akB F sf w=PU F sf w:=rfl
def ayd{F:((Nat->Y)->Z->Prop)->Prop}{R:(Nat->Y)->(Nat->Y)->Z->Prop}:JNp F R=JN F R:=rfl
def aye{F:((Nat->Y)->Z->Prop)->Prop}{R:(Nat->Y)->(Nat->Y)->Z->Prop}:JSp F R=JS F R:=rfl
def ayf:Xw P s S K=vq P s S K:=rfl
def ayg{F:(Z->Prop)->Prop}:HDp F=HD F:=rfl
def ayh:(fun v w'=>R (.panicked [{ v,recovered:=false }]) w')=PX R:=rfl
def ayi:(fun v w'=>∀ _:Nat->Y,R (.panicked [{ v,recovered:=false }]) w')=PXA R:=rfl
def ayj:(fun a w'=>∀ _:Nat->Y,R (.panicked a) w')=M1 R:=rfl
def ayk:(fun a w'=>R (.panicked a) w')=PC R:=rfl
end
def cqD{C:mO}(b:Good C){f:FuncId}{c:Code}{args:List Y}{S:Prop}(d:C.P.funcs[f]?=O fn)(e:fn.body=O c)
  (hk:(((wr c).all fun i=>decide (i<fn.ntmps)) && Nat.ble args.length fn.ntmps)=G) (he:qC [] (wT args) (fun a=>gx C c (Nk C.P fn R) a w)=S) (h:S):Calls C.P f args.toArray w R:=by
 simp only[Bool.and_eq_true] at hk;exact avK b d e hk.1 (Nat.le_of_ble_eq_true hk.2) [] he h
end Sx
def zX:=(a3K @avX (a3K @avY (a3K @avZ (a3K @av0 (a3K @av4 (a3K @av5 (a3K @av7 (a3K @av8 (a3K @av9 (a3K @awa (a3K @awb (a3K @awc (a3K @awd (a3K @awe (a3K @awf (a3K @awg (a3K @awh (a3K @awi (a3K @awj (a3K @awk (a3K @awl (a3K @awm (a3K @awn (a3K @awo (a3K @awp (a3K @awq (a3K @awr (a3K @aws (a3K @awt (a3K @awu (a3K @awv (a3K @aww (a3K @awx (a3K @awy (a3K @awz (a3K @awA (a3K @awB (a3K @awC (a3K @awD (a3K @awE (a3K @awF (a3K @awG (a3K @awH (a3K @awI (a3K @awJ (a3K @awK (a3K @awL (a3K @awM (a3K @awN (a3K @awO (a3K @awP (a3K @awQ (a3K @awR (a3K @awS (a3K @awT (a3K @awU (a3K @awV (a3K @awW (a3K @awX (a3K @awY (a3K @awZ (a3K @aw0 (a3K @aw1 (a3K @aw2 (a3K @aw3 (a3K @aw4 (a3K @aw5 (a3K @aw6 (a3K @aw7 (a3K @aw8 (a3K @aw9 (a3K @axa (a3K @axb (a3K @axc (a3K @axd (a3K @axe (a3K @axf (a3K @axg (a3K @axh (a3K @axi (a3K @axj (a3K @axk (a3K @axl (a3K @axm (a3K @axn (a3K @axo (a3K @axp (a3K @axq (a3K @axr (a3K @axs (a3K @axt (a3K @axu (a3K @axv (a3K @axw (a3K @axx (a3K @axy (a3K @axz (a3K @axA (a3K @axB (a3K @axC (a3K @axD (a3K @axE (a3K @axF (a3K @axG (a3K @axH (a3K @axI (a3K @axJ (a3K @axK (a3K @axL (a3K @axM (a3K @axN (a3K @axO (a3K @axP (a3K @axQ (a3K @axR (a3K @axS (a3K @axT (a3K @axU (a3K @axV (a3K @axW (a3K @axX (a3K @axY (a3K @axZ (a3K @ax0 @ax1))))))))))))))))))))))))))))))))))))))))))))))))))))))))))))))))))))))))))))))))))))))))))))))))))))))))))))))))))))))))))))
def zY:=(a3K @ax2 (a3K @ax3 (a3K @ax4 (a3K @ax5 (a3K @ax6 (a3K @ax7 (a3K @ax8 (a3K @ax9 (a3K @aya (a3K @ayb (a3K @ayc (a3K @ayd (a3K @aye (a3K @ayf (a3K @ayg (a3K @ayh (a3K @ayi (a3K @ayj @ayk))))))))))))))))))
def zn{A B:Prop}(h:A=B:=by(simp (maxSteps:=10000000) (disch:=(refine id ?_;with_unfolding_all rfl)) only[↓zX,zY,List.map,List.nil_append,List.cons_append,List.toList_toArray,List.append_toArray];try rfl)):A=B:=h
abbrev kN(p:Prop):Prop:=p
def ge l j t h b c s y:=Fu (zL l) (zO j) (zN t) (zO h) (zL b) (zL c) (zT s) (zT y)
def gd l j t h b c y:=Fu (zL l) (zO j) (zN t) (zO h) (zL b) (zL c) (fun _=>G) (zT y)
def gc l j y:=gd l j [] [] [] [] y
def cz {C:mO} (w:World) (R:Ending->World->Prop) (args:List Value) (b:Sx.Good C) {f:FuncId} {c:Code} {S:Prop} (d:C.P.funcs[f]?=some fn) (e:fn.body=some c:=by rfl)
  (hk:(nd c && ((wr c).all fun i=>decide (i<fn.ntmps)) && Nat.ble args.length fn.ntmps)=true:=by kernel_rfl) (he:qC [] (wT args) (fun a=>gx C c (Kr C.P fn R) a w)=S:=by exact zn) (h:kN S):Calls C.P f args.toArray w R:=
 cq b d e hk he h
def cy {C:mO} (w:World) (R:Ending->World->Prop) (args:List Value) (b:Sx.Good C) {f:FuncId} {c:Code} {S:Prop} (d:C.P.funcs[f]?=some fn) (e:fn.body=some c:=by rfl)
  (hk:(((wr c).all fun i=>decide (i<fn.ntmps)) && Nat.ble args.length fn.ntmps)=true:=by kernel_rfl) (he:qC [] (wT args) (fun a=>gx C c (Nk C.P fn R) a w)=S:=by exact zn) (h:kN S):Calls C.P f args.toArray w R:=
 cqD b d e hk he h
end Go.Proofs.YtoegidfbnkaabaaGreatDoor
namespace Go.Proofs.YtoegidfbnkaabaaGreatDoor
open Go.Proofs.YtoegidfbnkaabaaGreatDoor.Sx
variable{cs:Array Y}{n:Nat}{v:Y}
section
variable{p0 p1 p2 p3 p4 p5 p6 p7:Y}{w:Z}{R:Ending->Z->Prop}
def ayo:=cz w R [p0] (gc [(4,[2,3]),(11,[6]),(19,[2,3,88])] [(2001,[]),(6000,[25]),(7001,[3]),(12001,[6]),(15000,[79]),(17002,[2,3])] [11,16,24,25,31,42,43,77,78,79,89,95]) Tryz.func84
def ayp:=cz w R [p0,p1,p2] (gc [] [(2000,[25]),(3008,[])] [23,24,25,29,30,33,37,38,41]) Tryz.func112
def ayq:=cz w R [p0] (gc [(1,[2])] [(4001,[]),(8001,[]),(13002,[]),(14000,[72]),(15001,[]),(17001,[])] [13,23,37,55,71,72,76]) Tryz.func46
def ayr:=cz w R [p0] (gc [] [] []) Tryz.func28
def ays:=cz w R [p0,p1] (gc [] [] []) Tryz.func47
def acI:=cz w R [p0] (gd [] [] [(6,10)] [] [] [] [6,8,9,12,21,24]) Tryz.func23
end
namespace Sx
open Go
def GW(P:Program)(t:TypeId):Bool:=match P.underlying t with | some (.pointer _)=>G | _=>ae
def Xz(P:Program)(t:TypeId):Bool:=match P.underlying t with | some (.slice _)=>G | _=>ae
def acJ(P:Program)(t:TypeId):Bool:=match P.underlying t with | some (.map _ _)=>G | _=>ae
def yS(P:Program)(t:TypeId):Bool:=match P.underlying t with | some (.interface _)=>G | _=>ae
section
variable{P:Program}{t:TypeId}{x y:Operand}{w:Z}{K:Y->Prop}{X:Y->Z->Prop}
def akH(h:GW P t=G)(p:Option Addr):(Op.equal t (.pointer p) (au V)).run P w = .ok p.isNone w:=by
 grind [GW,run_equal_pointer_nil,Program.pointee]
def akI(h:Xz P t=G)(a:Option Addr)(n c:Nat):(Op.equal t (.slice a n c) bW).run P w = .ok a.isNone w:=by
 grind [Xz,run_equal_slice_nil]
def ayt(h:acJ P t=G)(r:Option Nat):(Op.equal t (.map r) (.map V)).run P w = .ok r.isNone w:=by
 grind [acJ,run_equal_map_nil]
def Nq(h:GW P t=G)(p:Option Addr):RD P (bo .eql t x y (.pointer p) (au V)) w K X=K (.bool p.isNone):=
 gR (by simp [bo,eqGuard,binOp,a3X,akH h])
def acK(h:GW P t=G)(p:Option Addr):RD P (bo .neq t x y (.pointer p) (au V)) w K X=K (.bool !p.isNone):=
 gR (by simp [bo,eqGuard,binOp,a3X,akH h])
def akJ(h:Xz P t=G)(p:Option Addr)(n c:Nat):RD P (bo .eql t x y (.slice p n c) bW) w K X=K (.bool p.isNone):=
 gR (by simp [bo,eqGuard,binOp,a3X,akI h])
def ayu(h:Xz P t=G)(p:Option Addr)(n c:Nat):RD P (bo .neq t x y (.slice p n c) bW) w K X=K (.bool !p.isNone):=
 gR (by simp [bo,eqGuard,binOp,a3X,akI h])
def ayv(h:acJ P t=G)(p:Option Nat):RD P (bo .eql t x y (.map p) (.map V)) w K X=K (.bool p.isNone):=
 gR (by simp [bo,eqGuard,binOp,a3X,ayt h])
def GX(h:yS P t=G):P.underlying t=O (.interface (P.methodsAt t)):=by
 grind [yS,Program.methodsAt]
def akK(h:yS P t=G)(u:TypeId)(v:Y):RD P (bo .eql t x y (ak u v) aj) w K X=K (.bool ae):=
 gR (by simp [bo,eqGuard,binOp,a3X,run_equal_held_nil w t u v (GX h)])
def ayw(h:yS P t=G)(u:TypeId)(v:Y):RD P (bo .neq t x y (ak u v) aj) w K X=K (.bool G):=
 gR (by simp [bo,eqGuard,binOp,a3X,run_equal_held_nil w t u v (GX h)])
def akL(h:yS P t=G)(c:Y):RD P (bo .eql t x (.const c) aj aj) w K X=K (.bool G):=
 gR (by simp [bo,eqGuard,binOp,a3X,run_equal_nil_nil w t (GX h)])
def ayx(h:yS P t=G)(c:Y):RD P (bo .neq t x (.const c) aj aj) w K X=K (.bool ae):=
 gR (by simp [bo,eqGuard,binOp,a3X,run_equal_nil_nil w t (GX h)])
def akM(P:Program)(T:TypeId):Option (Nat×TypeId):=match P.underlying T with | some (.array n e)=>O (n,e) | _=>V
def Tl(cs:Array Y)(i:Int)(K:Y->Prop)(D:Prop):RT (K,D):=match cs[i.toNat]? with | some v=>K v | none=>D
def acL{i:Int}{K:Y->Prop}{D:Prop}(h:cs[i.toNat]?=O v):Tl cs i K D=K v:=by grind [Tl]
def ayy{T e:TypeId}{k:IntKind}{i:Int}(h:akM P T=O (n,e))(he:(Tf P e && sized P e 1)=G)(a:0<=i)(b:i<n) :
  RD P (a5v T (.agg cs) (.int k i)) w K X=Tl cs i K (GR P (a5v T (.agg cs) (.int k i)) w K X):=by
 unfold Tl;split
 .rename_i v hv;refine gR ?_;unfold akM at h;split at h
  .rename_i c e' hu;simp only[a3I,a4b] at h;obtain⟨rfl,rfl⟩:=h;simp only[Bool.and_eq_true] at he;simp only[a5v,a3X,asIntOf,a4y,a3W,run_underlying hu,zip (a3K a b),Fo he.2,Nat.mul_one];unfold part;simp only[a3X,abW he.1,a3W,hv];simp
  grind
 .rfl
end
def zG1:=a3K @ab8 (a3K @jI (a3K @abG (a3K @abH (a3K @P8 (a3K @P9 (a3K @GS (a3K @GU (a3K @abJ (a3K @abK (a3K @abL (a3K @abM (a3K @abN (a3K @abO (a3K @abP (a3K @abQ (a3K @abR (a3K @abU (a3K @abV (a3K @abS (a3K @abT (a3K @ab0 (a3K @ab1 (a3K @ab2 (a3K @ab5 (a3K @Xu (a3K @abY (a3K @ab9 (a3K @aca (a3K @acL (a3K @acb (a3K @acd (a3K @ace (a3K @acf (a3K @Nn (a3K @tW (a3K @qI (a3K @jg (a3K @Te (a3K @Cq (a3K @vy (a3K @size_alloc (a3K @Tj (a3K @acm (a3K @acg (a3K @ach (a3K @aci (a3K @acj (a3K @ack (a3K @acn (a3K @aco (a3K @acp (a3K @acq (a3K @acr (a3K @acu (a3K @acv (a3K @acw (a3K @acx (a3K @acy (a3K @acz (a3K @acA (a3K @acB (a3K @acC (a3K @acD (a3K @acE (a3K @acF (a3K @acG (a3K @Qc (a3K @u8w (a3K @Xo (a3K @abD (@abE)))))))))))))))))))))))))))))))))))))))))))))))))))))))))))))))))))))))
def zG2:=a3K @Int.toNat_natCast (a3K @Option.isNone_none.{0} (a3K @Option.isNone_some.{0} (a3K @a5P.{0} (a3K @a5a.{0} (a3K @a5b.{0} (a3K @List.setIfInBounds_toArray.{0} (a3K @List.set_cons_zero.{0} (a3K @List.set_cons_succ.{0} (a3K @List.size_toArray.{0} (a3K @List.length_cons.{0} (a3K @List.length_nil.{0} (a3K @List.drop_zero.{0} (a3K @List.drop_succ_cons.{0} (a3K @List.take_succ_cons.{0} (a3K @List.take_zero.{0} (a3K @List.take_nil.{0} (a3K @List.drop_nil.{0} (a3K @List.all_cons.{0} (a3K @List.all_nil.{0} (a3K @Bool.and_true (a3K @Bool.true_and (a3K @Nat.zero_add (a3K @Nat.add_zero (a3K @Nat.mul_one (a3K @and_self (a3K @and_true (a3K @true_and (a3K @decide_true (a3K @decide_false (a3K @Bool.not_true (a3K @Bool.not_false (a3K @not_true_eq_false (@not_false_eq_true)))))))))))))))))))))))))))))))))
def zA {p q : Prop} (a : p) (b : q) : p /\ q := ⟨a, b⟩
def zS := (zA @size_alloc (zA @Cq (zA @vy (zA @List.size_toArray.{0} (zA @List.length_cons.{0} @List.length_nil.{0})))))
def zq {p:Prop}(h:p:=by first|assumption|omega|simp only[zS]<;>omega|decide):p:=h
def zH := (zA @Nn (zA @tW (zA @qI (zA @jg (zA @Te (zA @Cq (zA @vy @size_alloc)))))))
def zG0 := (zA @Pr.eq_1 (zA @PX.eq_1 (zA @PC.eq_1 (zA @NX.eq_1 (zA @ends.eq_1 (zA @ends.eq_2 (zA @ends.eq_3 (zA @Ft.eq_1 (zA @Ft.eq_2 (zA @pF.eq_1 (zA @pF.eq_2 (zA @jo.eq_1 (zA @jo.eq_2 (zA @forall_const.{0} (zA @forall_const.{1} (zA @eq_self.{1} (zA zG1 zG2)))))))))))))))))
end Sx
