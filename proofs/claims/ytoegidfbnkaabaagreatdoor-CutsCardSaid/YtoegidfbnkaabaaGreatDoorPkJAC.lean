/- A part of one proof (SxM, ShG, SxP, ShS1, SxN). -/
import Derived.Test.YtoegidfbnkaabaaGreatDoorPkJAB
import Derived.WalkSpells
import Derived.Test.YtoegidfbnkaabaaGreatDoorProg
import Derived.Laws.Pointers
import Derived.Laws.Cover3
import Derived.WideLaws
set_option linter.all false
set_option maxRecDepth 100000
set_option maxHeartbeats 8000000
open Option renaming some → O, none → V
open Go renaming Value → Y, World → Z
open Bool renaming true → A, false → G
open Go.Obj renaming cells → ae
open Go.Ending renaming returned → ah
open Go.Value renaming nilIface → ai, iface → aj, tuple → ak, pointer → aq
open Option.some renaming injEq → aZG
open And renaming intro → aZI
open Go.Result renaming andThen_ok → aZR
open Go.Sem renaming run_bind → aZS, run_pure → a0u
open Go.Value renaming string → aZ1, pointer → a0s
open Prod.mk renaming injEq → aZ6
open Go.Instr renaming sliceAt → a0v, buildSlice → a0D, index → a1g, extract → a2t, fill → a33
open Go.Region renaming ready → a0C, wanted → a0E
open List renaming getElem?_cons_zero → a01, getElem?_cons_succ → a02, getElem?_toArray → a1z
open Go.Builtin renaming len_ → a1e
open ByteArray renaming size → a1w
open Nat renaming beq → a1x
namespace Go.Proofs.YtoegidfbnkaabaaGreatDoor
variable{A0:Prop}{K:Y->Prop}{R:Ending->Z->Prop}{X:Y->Z->Prop}{b c cap e i j n o pb:Nat}{cs:Array Y}{fn:Func}{l:Int}{u v:Y}{El:IntKind}{w:Z}
namespace Sx
open Go
section
variable{P:Program}{T:TypeId}{b o:Nat}{w:Z}{K:Y->Prop}{X:Y->Z->Prop}
def ah5(P:Program)(s:TypeId)(i:Nat):Option Nat:=
 match P.underlying s with
 | some (.struct fs)=>match fs[i]? with
  | some f=>match P.info? f.type with
   | some t=>if t.size=0 then V else O f.offset
   | none=>V
  | none=>V
 | _=>V
theorem addr_add(b o n:Nat):(⟨b,o,V⟩:Addr).add n=⟨b,o+n,V⟩:=by
 unfold Addr.add;split<;>simp_all
def fB(h:ah5 P T i=O n):RD P (Instr.fieldAt T (aq (O ⟨b,o,V⟩)) i) w K X=K (aq (O ⟨b,o+n,V⟩)):=by
 refine gU ?_;unfold ah5 at h;split at h
 .rename_i fs hu;split at h
  .rename_i f a;split at h
   .rename_i t ht;split at h
    .grind
    .rename_i c;cases h;have d:(sizeOf f.type).run P w = .ok t.size w:=(by grind [FN,sized]);simp only[Instr.fieldAt,aZS,run_underlying hu,aZR,a,Instr.sureAddr,a0u,fieldPlace,d,bZ c,addr_add]
   grind
  grind
 grind
def Rr(P:Program)(T:TypeId):Option Nat:=
 match P.underlying T with
 | some (.slice e)=>(P.info? e).map (·.size)
 | _=>V
def Z2(h:Rr P T=O n):∃ e,P.underlying T=O (.slice e)/\sized P e n=true:=by
 grind [Rr,sized]
theorem Hk{e:TypeId}(h:P.underlying T=O (.slice e)):P.elem T=e:=by grind [Program.elem]
def zt(h:Rr P T=O n){k:IntKind}{i:Int}(a:0<=i)(c:i<pb) :
  RD P (Instr.indexAt T (.slice (O ⟨b,o,V⟩) pb cap) (.int k i)) w K X=K (aq (O ⟨b,o+i.toNat*n,V⟩)):=by
 obtain⟨e,he,d⟩:=Z2 h;refine gU ?_;rw[run_indexAt_slice w T _ _ _ _ _ (by rw[Hk he];exact he),zip ⟨a,c⟩,Hk he,FN d];grind [aZR,addr_add]
def AE{t:TypeId}{e:TypeId}(h:P.underlying t=O (.slice e)){a:Option Addr} :
  RD P (a1e #[t] T #[.slice a n c]) w K X=K (.int .i64 n):=
 gU (run_len_slice w t T a n c (by grind [Hk]))
def as4{t:TypeId}(h:P.underlying t=O .string){l:List UInt8} :
  RD P (a1e #[t] T #[.string (bs l)]) w K X=K (.int .i64 l.length):=by
 refine gU ?_;have e:(bs l).size=l.length:=by simp [a1w]
 simp only[a1e,a1z,a01,aZS,run_underlying h,aZR,a0u,goInt,e]
def as5{t:TypeId}(h:P.underlying t=O .string){l:List UInt8}{k:IntKind}{i:Int}(b:0<=i)(c:i<l.length) :
  RD P (a1g t (.string (bs l)) (.int k i)) w K X=K (.int .u8 ((l.getD i.toNat 0).toNat)):=by
 refine gU ?_;have e:(bs l)[i.toNat]?=O (l.getD i.toNat 0):=by
  have d:i.toNat<l.length:=zo;have a:i.toNat<(bs l).size:=by grind [a1w]
  rw[getElem?_pos (bs l) i.toNat a]
  congr 1
  show l.toArray[i.toNat]=_;grind
 simp only[a1g,aZS,asIntOf,a0u,aZR,run_underlying h,zip b,e]
def Z3{vs:Array Y}(h:vs[i]?=O v):RD P (a2t (ak vs) i) w K X=K v:=by
 refine gU ?_;simp only[a2t,h];rfl
def Z4{l:List Y}:RD P (a2t (ak (v::l).toArray) 0) w K X=K v:=Z3 zs
def Z5{l:List Y}:RD P (a2t (ak (u::v::l).toArray) 1) w K X=K v:=Z3 zs
def Z6{x:Y}{l:List Y}:RD P (a2t (ak (u::x::v::l).toArray) 2) w K X=K v:=Z3 zs
def Z7{t:TypeId}:RD P (Instr.panic (aj t v)) w K X=X (aj t v) w:=as0 J
def Ou(h:Rr P T=O n){k:IntKind}(b:0<=l)(c:l<=pb){a:Option Addr} :
  RD P (a0v T (.slice a pb cap) (O (.int k l)) V V) w K X=K (sliced a l.toNat pb cap n):=by
 obtain⟨e,he,d⟩:=Z2 h;refine gU ?_;rw[run_sliceAt_slice w T _ _ _ _ (by rw[Hk he];exact he),run_slice_l w T a pb cap (by rw[Hk he];exact he) k l b c,Hk he,FN d];rfl
def Rs(h:Rr P T=O n){k:IntKind}(b:0<=l)(c:l<=cap){a:Option Addr} :
  RD P (a0v T (.slice a pb cap) V (O (.int k l)) V) w K X=K (sliced a 0 l.toNat cap n):=by
 obtain⟨e,he,d⟩:=Z2 h;refine gU ?_;rw[run_sliceAt_slice w T _ _ _ _ (by rw[Hk he];exact he),run_slice_h w T a pb cap (by rw[Hk he];exact he) k l b c,Hk he,FN d];rfl
def ah6(l:List UInt8)(i j:Nat):(bs l).extract i j=bs ((l.take j).drop i):=by
 apply ByteArray.ext;grind [ByteArray.data_extract,Array.ext',Array.toList_extract,List.drop_take]
def as7{t:TypeId}(h:P.underlying t=O .string){s:List UInt8}{k:IntKind}(a:0<=l)(b:l<=s.length) :
  RD P (a0v t (.string (bs s)) (O (.int k l)) V V) w K X=K (.string (bs (s.drop l.toNat))):=by
 refine gU ?_;have e:(bs s).size=s.length:=by simp [a1w]
 simp only[a0v,Instr.slice,aZS,run_underlying h,aZR,Option.isSome,Bool.false_eq_true,if_false,Instr.sliceBounds,a0u,
  run_sliceBound w k l s.length _ a b,ah6,e,List.take_length]
def as8{t:TypeId}(h:P.underlying t=O .string){s:List UInt8}{k:IntKind}{m:Int}(a:0<=l)(b:l<=m)(c:m<=s.length) :
  RD P (a0v t (.string (bs s)) (O (.int k l)) (O (.int El m)) V) w K X=K (.string (bs ((s.take m.toNat).drop l.toNat))):=by
 refine gU ?_;have e:(bs s).size=s.length:=by simp [a1w]
 simp only[a0v,Instr.slice,aZS,run_underlying h,aZR,Option.isSome,Bool.false_eq_true,if_false,Instr.sliceBounds,a0u,
  run_sliceBound w El m (bs s).size _ zo zo,run_sliceBound w k l m.toNat _ a zo,ah6]
def Em(pl:List (Nat×Nat))(cells:Array Y):List (Nat×Y)->Option (Array Y)
 | []=>O cells
 | (i,v)::r=>match pl[i]? with
  | none=>V
  | some (off,size)=>if v.cells.toList.length=size/\off+size<=cells.size then Em pl (oF cells off v.cells.toList) r else V
def ah7(off:Nat):∀ (l:List Y) (k:Nat) (cs:Array Y),(l.zipIdx k).foldl (fun cs (c,j)=>cs.setIfInBounds (off+j) c) cs=oF cs (off+k) l
 | [],_,_=>rfl
 | v::r,k,cs=>by
  simp only[List.zipIdx_cons,List.foldl_cons,oF];rw[ah7 off r (k+1)];rfl
theorem Z8{place:Nat->Option (Nat×Nat)}{pl:List (Nat×Nat)}(a:∀ i x,pl[i]?=O x->place i=O x):∀ (l:List (Nat×Y)) (cs:Array Y) (r:Array Y),Em pl cs l=O r->a33 place cs l=O r
 | [],cs,r,h=>h
 | (i,v)::l,cs,r,h=>by
  unfold Em at h;unfold a33;cases b:pl[i]? with
  | none=>grind
  | some x=>
   obtain⟨off,size⟩:=x;rw[b] at h;dsimp only at h;rw[a i _ b];dsimp only;split at h
   .rename_i f;have c:v.cells.size=size:=zg;rw[bZ (by rw[c];simp;omega)];have e:=ah7 off v.cells.toList 0 cs;rw[Nat.add_zero] at e;have d:(v.cells.zipIdx.foldl (fun cs (x:Y×Nat)=>cs.setIfInBounds (off+x.2) x.1) cs)=oF cs off v.cells.toList:=by
     grind [Array.toList_zipIdx]
    rw[d];exact Z8 a l _ r h
   grind
def places(P:Program):List Field->Option (List (Nat×Nat))
 | []=>O []
 | f::r=>match P.info? f.type,places P r with
  | some i,O l=>O ((f.offset,i.size)::l)
  | _,_=>V
def ah8(P:Program)(T:TypeId):Option (Array Y×List (Nat×Nat)):=
 match zm P T,P.underlying T with
 | some z,O (.struct fs)=>(places P fs.toList).map fun l=>(z.cells,l)
 | _,_=>V
def ah9{w:Z}:∀ (l:List Field) (r:List (Nat×Nat)),places P l=O r->(l.mapM fun(f:Field)=>(do pure (f.offset,<- sizeOf f.type):Sem (Nat×Nat))).run P w = .ok r w
 | [],r,h=>by simp only[places,aZG] at h;subst h;rfl
 | f::l,r,h=>by
  unfold places at h;split at h
  .rename_i i q c a;cases h;have ih:=ah9 (w:=w) l q a;have b:(sizeOf f.type).run P w = .ok i.size w:=(by grind [FN,sized]);rw[List.mapM_cons];simp only[aZS,b,aZR,a0u,ih]
  grind
def Vv(x:Option (Array Y))(K:Y->Prop)(D:Prop):RT (K,D):=
 match x with
 | some cs=>K (.agg cs)
 | none=>D
def rL{z:Array Y}{pl:List (Nat×Nat)}(h:ah8 P T=O (z,pl)){parts:Array (Nat×Y)} :
  RD P (Instr.build T parts) w K X=Vv (Em pl z parts.toList) K (FK P (Instr.build T parts) w K X):=by
 unfold Vv;split
 .rename_i cs f;refine gU ?_;unfold ah8 at h;split at h
  .rename_i b fs c hu;cases a:places P fs.toList with
   | none=>grind
   | some l=>
    rw[a] at h;simp only[Option.map_some,aZG,aZ6] at h;obtain⟨rfl,rfl⟩:=h;have d:=ah9 (w:=w) fs.toList l a;have e:a33 (l.toArray[·]?) b.cells parts.toList=O cs:=(by grind [Z8]);simp only[Instr.build,aZS,Ek c,aZR,run_underlying hu];rw[Array.mapM_eq_mapM_toList];simp only[Sem.run_map,d,aZR,e];rfl
  grind
 .rfl
def aia(P:Program)(T n:Nat):Option (TypeId×Array Y×List (Nat×Nat)):=
 match P.underlying T with
 | some (.slice e)=>match P.info? e,zm P e with
  | some i,O z=>if n*i.size=0\/n*i.size > 2 ^ 24 then V else O (e,(Array.range (n*i.size)).map (z.cells[· % z.cells.size]!),(List.range n).map fun j=>(j*i.size,i.size))
  | _,_=>V
 | _=>V
def Vw(x:Option (Array Y))(e n:Nat)(w:Z)(K:Y->Z->Prop)(D:Prop):RT (K,D):=
 match x with
 | some cs=>K (.slice (O ⟨w.heap.size,0,V⟩) n n) (w.alloc (ae cs e))
 | none=>D
def wX{e:TypeId}{z:Array Y}{pl:List (Nat×Nat)}(h:aia P T n=O (e,z,pl)){parts:Array (Nat×Y)}{K:Y->Z->Prop} :
  WR P (a0D T n parts) w K X=Vw (Em pl z parts.toList) e n w K (WR0 P (a0D T n parts) w K X):=by
 unfold Vw;split
 .rename_i cs k;refine wU ?_;unfold aia at h;split at h
  .rename_i e' hu;split at h
   .rename_i i a l b;split at h
    .grind
    .rename_i m;simp only[aZG,aZ6] at h;obtain⟨rfl,rfl,rfl⟩:=h;have c:(sizeOf e').run P w = .ok i.size w:=(by grind [FN,sized]);have d:a33 (fun j=>O (j*i.size,i.size)) ((Array.range (n*i.size)).map (a.cells[· % a.cells.size]!)) parts.toList=O cs:=
      (by grind [Z8,List.range,List.getElem?_eq_some_iff])
     have f:¬ (n*i.size > 2 ^ 24):=zo;have g:¬ (n*i.size=0):=zo;simp only[a0D,aZS,run_underlying hu,aZR,c,bZ f,bZ g,a0u,Ek b,d];simp only[newRow,newObj,aZS,Sem.run,aZR,a0u];rfl
   exact yH
  exact yH
 .rfl
def Js(P:Program)(T:TypeId):Bool:=
 match P.underlying T with
 | some (.interface _)=>G
 | some _=>A
 | none=>G
def CZ(h:Js P T=A){K:Y->Z->Prop}:WR P (Instr.makeInterface T v) w K X=K (aj T v) w:=by
 refine wU ?_;unfold Js at h;unfold Instr.makeInterface underlying;simp only[aZS,program,Sem.run,aZR];grind [a0u,aZR]
def Vx{fn:Fn}{x y:Array Y}{K:Y->Z->Prop}:WR P (Instr.makeFunc fn x y) w K X=K (.func fn x y) w:=wU J
end
def as9{P:Program}{src dst:TypeId}{kd:IntKind}(a:(P.underlying src).isSome=A)(b:P.underlying dst=O (.int kd)){k:IntKind}{n:Int}{K:Y->Z->Prop} :
  WR P (convert src dst (.int k n)) w K X=K (.int kd (kd.wrap n)) w:=by
 have e:P.intKind dst=kd:=by grind [Program.intKind]
 refine wU ?_;grind [run_convert_int]
def Z9{x:Int}(a:0<=x)(b:x<=255):IntKind.u8.wrap x=x:=by
 unfold IntKind.wrap;have c:(2 ^ IntKind.u8.bits:Int)=256:=zd;have d:IntKind.u8.signed=false:=rfl;grind
def cO{P:Program}{s:Sem Y}{S:Z->Prop}(v:Y)(h:∀ w',S w'->RD P s w' (fun u=>u=v) NX)(hk:K v):uy P s S K:=by
 refine⟨v,fun w' b=>?_,hk⟩;have a:=h w' b;unfold RD at a;cases hr:s.run P w' with
 | ok u c=>grind
 | halt x c=>rw[hr] at a;cases x<;>exact a.elim
def Pr(p:Prop):Prop:=p
def toPr{p:Prop}(h:Pr p):p:=h
def ldV(x:Option Y)(K:Y->Prop)(D:Prop):RT (K,D):=
 match x with | some v=>K v | none=>D
theorem Rt{x y:Obj}:bO (bO w b x) b y=bO w b y:=by unfold bO;simp
def aaa{F:((Nat->Y)->Z->Prop)->Prop}{R:(Nat->Y)->(Nat->Y)->Z->Prop}:JN F R=F (fun s w=>∀ d,R s d w):=rfl
def aab{U:TypeId}{z:Nat×Nat}{D:Prop}:Vu (O (ae cs U z)) o K D=ldV (cs[o]?) K D:=rfl
def aac{D:Prop}:ldV (O v) K D=K v:=rfl
def aad{U:TypeId}{z:Nat×Nat}{D:Prop}(h:o+n<=cs.size):LR (O (ae cs U z)) o n K D=K (.agg ((cs.toList.drop o).take n).toArray):=by
 unfold LR;grind
def aae{U:TypeId}{K:Z->Prop}{D:Prop}(h:o+n<=cs.size) :
  Rq (O (ae cs U (0,0))) w b o n v K D=if v.cells.toList.length=n/\(v.cells.toList.all Value.oneCell')=A then K (bO w b (ae (oF cs o v.cells.toList) U (0,0))) else D:=by
 simp [Rq,h]
def aaf{D:Prop}:Vv (O cs) K D=K (.agg cs):=rfl
def aag{K:Y->Z->Prop}{D:Prop}:Vw (O cs) e n w K D=K (.slice (O ⟨w.heap.size,0,V⟩) n n) (w.alloc (ae cs e)):=rfl
def aah(a:Array Y):(Value.agg a).cells=a:=rfl
def aai(s:ByteArray):(aZ1 s).cells=#[.string s]:=rfl
def aaj(k:IntKind)(n:Int):(Value.int k n).cells=#[.int k n]:=rfl
def aak(a:Option Addr)(n c:Nat):(Value.slice a n c).cells=#[.slice a n c]:=rfl
def aal(a:Option Addr):(a0s a).cells=#[.pointer a]:=rfl
def aam(l:List Y):(Value.agg l.toArray).cells.toList=l:=rfl
def aan(k:IntKind)(n:Int):(Value.int k n).cells.toList=[.int k n]:=rfl
def aao(b:Bool):(Value.bool b).cells.toList=[.bool b]:=rfl
def aap(s:ByteArray):(aZ1 s).cells.toList=[.string s]:=rfl
def aaq(a:Option Addr)(n c:Nat):(Value.slice a n c).cells.toList=[.slice a n c]:=rfl
def aar(a:Option Addr):(a0s a).cells.toList=[.pointer a]:=rfl
def aas(t:TypeId)(v:Y):(Value.iface t v).cells.toList=[aj t v]:=rfl
def aat:Value.nilIface.cells.toList=[ai]:=rfl
def aau(f:Fn)(x y:Array Y):(Value.func f x y).cells.toList=[.func f x y]:=rfl
def aav(r:Option Nat):(Value.map r).cells.toList=[.map r]:=rfl
def aaw(k:IntKind)(n:Int):(Value.int k n).oneCell'=true:=rfl
def aax(b:Bool):(Value.bool b).oneCell'=true:=rfl
def aay(s:ByteArray):(aZ1 s).oneCell'=true:=rfl
def aaz(a:Option Addr)(n c:Nat):(Value.slice a n c).oneCell'=true:=rfl
def aaA(a:Option Addr):(a0s a).oneCell'=true:=rfl
def aaB(t:TypeId)(v:Y):(Value.iface t v).oneCell'=true:=rfl
def aaC:Value.nilIface.oneCell'=true:=rfl
def aaD(f:Fn)(x y:Array Y):(Value.func f x y).oneCell'=true:=rfl
def aaE(r:Option Nat):(Value.map r).oneCell'=true:=rfl
theorem Ov{x:Int}(a:-9223372036854775808<=x)(b:x<=9223372036854775807):IntKind.i64.wrap x=x:=by
 unfold IntKind.wrap;have c:(2 ^ IntKind.i64.bits:Int)=18446744073709551616:=zd;have d:(2 ^ (IntKind.i64.bits-1):Int)=9223372036854775808:=zd;have e:IntKind.i64.signed=true:=rfl;grind
end Sx
open Go.Proofs.YtoegidfbnkaabaaGreatDoor.Sx
def _root_.Go.Proofs.YtoegidfbnkaabaaGreatDoor.Sx.ata:Tryz.prog.follows .mixedOrders=true:=zk
def aic(k:Nat):Bool:=[2,3,4,5,6,7,8,9,10,11,12,13,14,15,16,17,18,19,20,21,22,23,24,25,26,27,28,29,30,31,32,33,34,35,36,37,38,39,40,41,42,43,44,45,46,47,48,49,50,51,52,53,57,58,59,60,61,62,63,64,65,66,67,68,69,70,71,72,73,74,75,76,77,78,79,80,81,82,83,84,85,86,90,91,92,93,94,95,96,97,98,99,100,101,102,103,104,105,106,107,108,109,111,112,113,114,115,116,117,118,119,120,121,122,123,124,125,126,127,128,129,130,131,132,133,134,135,136,137,138,139,140,141,142,143,144,145,146,147,148,149,151,152,153,154,155,156,157,158,159,160,161,162,163,164,165,166,168,169,170,171,172,173,174,175,177,178,179,180,181,202,205,206,207,208,209,210,211,212,213,214,215,216,217,218,219,220,221,222,223,224,225,226,227,228,248,264].contains k
def atb:([2,3,4,5,6,7,8,9,10,11,12,13,14,15,16,17,18,19,20,21,22,23,24,25,26,27,28,29,30,31,32,33,34,35,36,37,38,39,40,41,42,43,44,45,46,47,48,49,50,51,52,53,57,58,59,60,61,62,63,64,65,66,67,68,69,70,71,72,73,74,75,76,77,78,79,80,81,82,83,84,85,86,90,91,92,93,94,95,96,97,98,99,100,101,102,103,104,105,106,107,108,109,111,112,113,114,115,116,117,118,119,120,121,122,123,124,125,126,127,128,129,130,131,132,133,134,135,136,137,138,139,140,141,142,143,144,145,146,147,148,149,151,152,153,154,155,156,157,158,159,160,161,162,163,164,165,166,168,169,170,171,172,173,174,175,177,178,179,180,181,202,205,206,207,208,209,210,211,212,213,214,215,216,217,218,219,220,221,222,223,224,225,226,227,228,248,264].all (zb Tryz.prog))=true:=zk
def Eo(l:Nat->List Nat)(j:Nat->Option (List Nat))(t:Nat->Nat)(a:Nat->Option (List Nat))(bl bj:Nat->List Nat)(sm sy:Nat->Bool):Sx.Good { P:=Tryz.prog,B:=fun t=>t == 4,calls:=aic,live:=l,join:=j,tail:=t,held:=a,bl:=bl,bj:=bj,sum:=sm,sy:=sy }:=
 ⟨ata,fun k hk=>List.all_eq_true.1 atb k (by simpa [aic] using hk)⟩
abbrev aT (x : List UInt8) : Y := .string (bs x)
abbrev aM (x : Array Y) (T : Nat) : Option Obj := O (ae x T)
abbrev cR (b n c : Nat) : Y := .slice (O ⟨b, 0, V⟩) n c
abbrev bV : Y := .slice V 0 0
abbrev pp (b : Nat) : Y := aq (O ⟨b, 0, V⟩)
abbrev pq (b o : Nat) : Y := aq (O ⟨b, o, V⟩)
abbrev zi (n : Int) : Y := .int .i64 n
def zT (l : List Nat) (n : Nat) : Bool := match l with
 | [] => G
 | a :: r => cond (a1x a n) A (zT r n)
def zL (l : List (Nat × List Nat)) (n : Nat) : List Nat := match l with
 | [] => []
 | (a, b) :: r => cond (a1x a n) b (zL r n)
def zN (l : List (Nat × Nat)) (n : Nat) : Nat := match l with
 | [] => 0
 | (a, b) :: r => cond (a1x a n) b (zN r n)
def zO (l : List (Nat × List Nat)) (n : Nat) : Option (List Nat) := match l with
 | [] => V
 | (a, b) :: r => cond (a1x a n) (O b) (zO r n)
open Go
namespace Sx
def zr{p:Prop}(h:p:=by with_unfolding_all rfl):p:=h
def aid{α:Type}(x:α):tid x=x:=rfl
def Ox(P:Program)(s:Sem Y)(w:Z)(K:Y->Prop)(X:Y->Z->Prop):Prop:=RD P s w K X
def WRp(P:Program)(s:Sem Y)(w:Z)(K:Y->Z->Prop)(X:Y->Z->Prop):Prop:=WR P s w K X
def WUp(P:Program)(s:Sem Unit)(w:Z)(K:Z->Prop)(X:Y->Z->Prop):Prop:=WU P s w K X
def CAp(P:Program)(k:FuncId)(args:Array Y)(w:Z)(K:Y->Z->Prop)(X:List PanicEntry->Z->Prop):Prop:=CA P k args w K X
def CQp(P:Program)(k:FuncId)(args:Array Y)(w:Z)(K:Y->Prop):Prop:=CQ P k args w K
def CVp(P:Program)(f:Y)(args:Array Y)(w:Z)(K:Y->Z->Prop)(X:List PanicEntry->Z->Prop):Prop:=CV P f args w K X
def CIp(P:Program)(v:Y)(name:String)(args:Array Y)(w:Z)(K:Y->Z->Prop)(X:List PanicEntry->Z->Prop):Prop:=CI P v name args w K X
def Ru(v:Y)(a B:Prop):Prop:=BS v a B
def DFp(v:Y)(K:Fn->Array Y->Array Y->Prop):Prop:=DF v K
def Vy(v:Y)(K:Y->Prop):Prop:=NC v K
def aim(F:((Nat->Y)->Z->Prop)->(Nat->Y)->(Nat->Y)->Z->Prop)(s0:Nat->Y)(w0:Z):Prop:=Oc F s0 w0
def JNp(F:((Nat->Y)->Z->Prop)->Prop)(R:(Nat->Y)->(Nat->Y)->Z->Prop):Prop:=JN F R
def JSp(F:((Nat->Y)->Z->Prop)->Prop)(R:(Nat->Y)->(Nat->Y)->Z->Prop):Prop:=JS F R
def Vz(P:Program)(s:Sem Y)(S:Z->Prop)(K:Y->Prop):Prop:=uy P s S K
def HDp(F:(Z->Prop)->Prop):Prop:=HD F
section
variable{LL:List Oper}{C:lZ}{P:Program}{o:Oper}{ops:Array Oper}{rest:List Oper}{a:Env}{w:Z}{next:Env->Z->Prop}{mL:Env->Prop}{Q:Exit->Env->Z->Prop}{c x y:Code}{K:Y->Prop}{S:Z->Prop}{m:Option Nat}{r:List Nat}{L:Array Bool}{i:Nat}
def Jt:List Oper->Nat->Option Oper
 | [],_=>V
 | o::_,0=>O o
 | _::r,i+1=>Jt r i
def atc(h:C.join (Eg x)=V):gm C (.seq x y) Q a w=gm C x (BA (gm C y Q) Q) a w:=by simp only[gm,h]
def atd{l:List Nat}(h:C.join (Eg x)=O l)(b:nd x=A)(c:C.sum (Eg x)=G):gm C (.seq x y) Q a w =
 JNp (fun j=>gm C x (BA (fun a' w'=>j (jd (ze a' l)) w') Q) a w) (fun s d w=>pM (C.bj (Eg x)) (fr a (wr x) l s d) fun a=>gm C y Q a w):=by simp only[gm,h,b,c];rfl
def ate{l:List Nat}(h:C.join (Eg x)=O l)(b:nd x=A)(c:C.sum (Eg x)=A):gm C (.seq x y) Q a w =
 JSp (fun j=>gm C x (BA (fun a' w'=>j (jd (ze a' l)) w') Q) a w) (fun s d w=>pM (C.bj (Eg x)) (fr a (wr x) l s d) fun a=>gm C y Q a w):=by simp only[gm,h,b,c];rfl
def atf:gm C .skip Q a w=Q .normal a w:=rfl
def atg{l:List Oper}{id:Nat}:gm C (.region id l.toArray G) Q a w=wQ C l.toArray Q l a w:=rfl
def ath{id:Nat}(h:C.held id=V)(b:Vf ops (C.tail id)=A):gm C (.region id ops A) Q a w =
 Ax C ops w.drew (fun a'=>wQ C ops Q (ops.toList.drop (C.tail id)) a' w.drew) (ops.toList.take (C.tail id)) a:=by simp only[gm,h,b]
def ati{id m:Nat}{l:List Nat}(h:C.held id=O (m::l))(b:(l.length == ops.size && Region.noSelect ops)=A):gm C (.region id ops A) Q a w =
 HDp fun S=>S w.drew/\mj C ops Q S (Zi m) l (Array.replicate ops.size G) a w.drew:=by simp only[gm,h,b];rfl
def atj{d:Operand}(h:Vg C d=A):gm C (.cond d x y) Q a w=Ru (a.eval d) (gm C x Q a w) (gm C y Q a w):=by simp only[gm,h];rfl
def atk{d:Operand}(h:Vg C d=G)(b:a.eval d = .bool A):gm C (.cond d x y) Q a w=gm C x Q a w:=by simp only[gm,h,b]
def atl{d:Operand}(h:Vg C d=G)(b:a.eval d = .bool G):gm C (.cond d x y) Q a w=gm C y Q a w:=by simp only[gm,h,b]
def atm{id:Nat}:gm C (.block id c) Q a w=gm C c (FE id Q) a w:=rfl
def atn{id:Nat}:gm C (.exit id) Q a w=Q (.exit id) a w:=rfl
def ato:gm C .ret Q a w=Q .ret a w:=rfl
def atp{l:Nat}:gm C (.label l) Q a w=Q .normal a w:=rfl
def atq:gm C (.scope c) Q a w=gm C c (Oe Q) a w:=rfl
def atr(h:nd c=A):gm C (.loop c) Q a w=aim (fun rec s d w=>pM (C.bl (Hg c)) (fr a (wr c) (C.live (Hg c)) s d) fun a=>gm C c (BA (fun a' w'=>rec (jd (ze a' (C.live (Hg c)))) w') Q) a w)
 (jd (ze a (C.live (Hg c)))) w:=by simp only[gm,h];rfl
def att:BA next Q .normal a w=next a w:=rfl
def atu:BA next Q (.exit i) a w=Q (.exit i) a w:=rfl
def atv:BA next Q .ret a w=Q .ret a w:=rfl
def atw{l:List PanicEntry}:BA next Q (.panic l) a w=Q (.panic l) a w:=rfl
def atx:BA next Q (.goto i) a w=Q (.goto i) a w:=rfl
def aty:FE i Q .normal a w=Q .normal a w:=rfl
def atz(h:a1x j i=A):FE i Q (.exit j) a w=Q .normal a w:=by simp only[FE,h,aid,cond]
def atA(h:a1x j i=G):FE i Q (.exit j) a w=Q (.exit j) a w:=by simp only[FE,h,aid,cond]
def atB:FE i Q .ret a w=Q .ret a w:=rfl
def atC{l:List PanicEntry}:FE i Q (.panic l) a w=Q (.panic l) a w:=rfl
def atD:Oe Q .normal a w=Q .normal a w:=rfl
def atE:Oe Q (.exit i) a w=Q (.exit i) a w:=rfl
def atF:Oe Q .ret a w=Q .ret a w:=rfl
def atG{l:List PanicEntry}:Oe Q (.panic l) a w=Q (.panic l) a w:=rfl
def atH{d:List Nat}:NP d Q .normal a w=Q .normal a w:=rfl
def atI{d:List Nat}{l:List PanicEntry}:NP d Q (.panic l) a w=∀ f:Nat->Y,Q (.panic l) { a with f:=fun t=>cond (qU t d) (f t) (a.f t) } w:=rfl
def atJ(b:LL=[]):wQ C ops Q LL a w=Q .normal a w:=by rw[b];rfl
def atL(b:LL=o::rest)(h:a0E o (x8 ops a)=A):wQ C ops Q LL a w=lB C o a w (wQ C ops Q rest) Q:=by simp only[b,wQ,h]
def atM(b:LL=o::rest)(h:a0E o (x8 ops a)=G):wQ C ops Q LL a w=wQ C ops Q rest (a.put o.dst undef) w:=by simp only[b,wQ,h]
def atN{q:Env->Prop}(b:LL=[]):Ax C ops w q LL a=q a:=by rw[b];rfl
def atO{q:Env->Prop}(b:LL=o::rest)(h:a0E o (x8 ops a)=A):Ax C ops w q LL a=rH C o a w (Ax C ops w q rest):=by simp only[b,Ax,h]
def atP{q:Env->Prop}(b:LL=o::rest)(h:a0E o (x8 ops a)=G):Ax C ops w q LL a=Ax C ops w q rest (a.put o.dst undef):=by simp only[b,Ax,h]
def atQ{K:Env->Prop}:pM [] a K=K a:=rfl
def atS{K:Env->Prop}:pM (i::r) a K=Ru (a.f i) (pM r (a.put (O i) (.bool A)) K) (pM r (a.put (O i) (.bool G)) K):=rfl
def atT(h:(C.B o.type && early C o)=A):oV C o K v=Ru v (K (.bool A)) (K (.bool G)):=by simp only[oV,h];rfl
def atU(h:(C.B o.type && early C o)=G):oV C o K v=K v:=by simp only[oV,h]
variable{d:Option Nat}{t n:Nat}{pos:String}{af:Array Edge}{g:Option (Nat×Bool)}{u v z:Operand}{args:Array Operand}{CS:Array Nat}{k:FuncId}{s:Sem Y}
def spec(o:Oper):Bool:=match o.op with
 | .move _ | .assign _ | .pick _ _ _ | .nilCheck _ | .defer _ | .binOp _ _ _ _ _=>A
 | .call { callee:=.value _,.. } | .call { callee:=.invoke _ _,.. }=>A
 | _=>G
def VA:Operand->Bool
 | .func _=>A
 | _=>G
def atV(h:o.op = .move u):lB C o a w next Q=next (a.put o.dst (a.eval u)) w:=by simp only[lB,h]
def atW(h:o.op = .assign u):lB C o a w next Q=next (a.put o.dst (a.eval u)) w:=by simp only[lB,h]
def atX(h:o.op = .pick z u v)(b:a.eval z = .bool A):lB C o a w next Q=next (a.put o.dst (a.eval u)) w:=by simp only[lB,h,b]
def atY(h:o.op = .pick z u v)(b:a.eval z = .bool G):lB C o a w next Q=next (a.put o.dst (a.eval v)) w:=by simp only[lB,h,b]
def atZ(h:o.op = .nilCheck u):lB C o a w next Q=Vy (a.eval u) fun v=>next (a.put o.dst v) w:=by simp only[lB,h];rfl
def at0(h:o.op = .defer ⟨.value (.func k),args,CS⟩):lB C o a w next Q=next ({ a with defers:={ target:=.fn (.func k) #[],args:=jM a args }::a.defers }.put o.dst undef) w:=by simp only[lB,h]
def at1(h:o.op = .defer ⟨.value u,args,CS⟩)(b:VA u=G):lB C o a w next Q=DFp (a.eval u) fun fn x y=>next ({ a with defers:={ target:=.fn fn y,args:=x++jM a args }::a.defers }.put o.dst undef) w:=by
 cases u<;>first | (simp [VA] at b;done) | (simp only[lB,h];rfl)
def at5(h:o.op = .call ⟨.value (.func k),args,CS⟩)(b:C.calls k=A):lB C o a w next Q=CAp C.P k (jM a args) w (fun v w'=>oV C o (fun v=>next (a.put o.dst v) w') v) (fun c w'=>Q (.panic c) a w'):=by simp only[lB,h,b];rfl
def at6(h:o.op = .call ⟨.value u,args,CS⟩)(b:VA u=G):lB C o a w next Q=CVp C.P (a.eval u) (jM a args) w (fun v w'=>oV C o (fun v=>next (a.put o.dst v) w') v) (fun c w'=>Q (.panic c) a w'):=by
 cases u<;>first | (simp [VA] at b;done) | (simp only[lB,h];rfl)
def at7{nm:String}(h:o.op = .call ⟨.invoke u nm,args,CS⟩):lB C o a w next Q=CIp C.P (a.eval u) nm (jM a args) w (fun v w'=>oV C o (fun v=>next (a.put o.dst v) w') v) (fun b w'=>Q (.panic b) a w'):=by simp only[lB,h];rfl
def aua(h:spec o=G)(b:zc a o=O s):lB C o a w next Q=Ox C.P s w (fun v=>oV C o (fun v=>next (a.put o.dst v) w) v) (fun v w'=>Q (.panic [{ v,recovered:=false }]) a w'):=by
 unfold lB;unfold spec at h;split at h<;>first | cases h | skip
 simp_all;rfl
def aub{p:BinOp}{b:_}(h:o.op = .binOp p t u v b):lB C o a w next Q=Ox C.P (bo p t u v (a.eval u) (a.eval v)) w (fun v=>oV C o (fun v=>next (a.put o.dst v) w) v) (fun v w'=>Q (.panic [{ v,recovered:=false }]) a w'):=by simp only[lB,h,zc];rfl
def auc(h:spec o=G)(b:zc a o=V)(c:writing a o=O s):lB C o a w next Q=WRp C.P s w (fun v w'=>next (a.put o.dst v) w') (fun v w'=>Q (.panic [{ v,recovered:=false }]) a w'):=by
 unfold lB;unfold spec at h;split at h<;>first | cases h | skip
 simp_all;rfl
def aud{s:Sem Unit}(h:spec o=G)(b:zc a o=V)(c:writing a o=V)(d:Vc a o=O s):lB C o a w next Q=WUp C.P s w (fun w'=>next (a.put o.dst undef) w') (fun v w'=>Q (.panic [{ v,recovered:=false }]) a w'):=by
 unfold lB;unfold spec at h;split at h<;>first | cases h | skip
 simp_all;rfl
def aue(h:o.op = .move u):rH C o a w mL=mL (a.put o.dst (a.eval u)):=by simp only[rH,h]
def auf(h:o.op = .assign u):rH C o a w mL=mL (a.put o.dst (a.eval u)):=by simp only[rH,h]
def aug(h:o.op = .pick z u v)(b:a.eval z = .bool A):rH C o a w mL=mL (a.put o.dst (a.eval u)):=by simp only[rH,h,b]
def auh(h:o.op = .pick z u v)(b:a.eval z = .bool G):rH C o a w mL=mL (a.put o.dst (a.eval v)):=by simp only[rH,h,b]
def aui(h:o.op = .nilCheck u):rH C o a w mL=Vy (a.eval u) fun v=>mL (a.put o.dst v):=by simp only[rH,h];rfl
def auj(h:o.op = .call ⟨.value (.func k),args,CS⟩)(b:C.calls k=A):rH C o a w mL=CQp C.P k (jM a args) w (fun v=>oV C o (fun v=>mL (a.put o.dst v)) v):=by simp only[rH,h,b];rfl
def auk(h:spec o=G)(b:zc a o=O s):rH C o a w mL=Ox C.P s w (fun v=>oV C o (fun v=>mL (a.put o.dst v)) v) NX:=by
 unfold rH;unfold spec at h;split at h<;>first | cases h | skip
 simp_all;rfl
def aul{p:BinOp}{b:_}(h:o.op = .binOp p t u v b):rH C o a w mL=Ox C.P (bo p t u v (a.eval u) (a.eval v)) w (fun v=>oV C o (fun v=>mL (a.put o.dst v)) v) NX:=by simp only[rH,h,zc];rfl
def aum(h:o.op = .move u):rI C o a S mL=mL (a.put o.dst (a.eval u)):=by simp only[rI,h]
def aun(h:o.op = .assign u):rI C o a S mL=mL (a.put o.dst (a.eval u)):=by simp only[rI,h]
def auo(h:o.op = .pick z u v)(b:a.eval z = .bool A):rI C o a S mL=mL (a.put o.dst (a.eval u)):=by simp only[rI,h,b]
def aup(h:o.op = .pick z u v)(b:a.eval z = .bool G):rI C o a S mL=mL (a.put o.dst (a.eval v)):=by simp only[rI,h,b]
def auq(h:o.op = .nilCheck u):rI C o a S mL=Vy (a.eval u) fun v=>mL (a.put o.dst v):=by simp only[rI,h];rfl
def aur(h:spec o=G)(b:zc a o=O s):rI C o a S mL=Vz C.P s S (fun v=>oV C o (fun v=>mL (a.put o.dst v)) v):=by
 unfold rI;unfold spec at h;split at h<;>first | cases h | skip
 simp_all;rfl
def aus(h:spec o=G)(b:zc a o=V)(c:Vb a o=O s):rI C o a S mL=Vz C.P s S (fun v=>mL (a.put o.dst v)):=by
 unfold rI;unfold spec at h;split at h<;>first | cases h | skip
 simp_all;rfl
def aut{p:BinOp}{b:_}(h:o.op = .binOp p t u v b):rI C o a S mL=Vz C.P (bo p t u v (a.eval u) (a.eval v)) S (fun v=>oV C o (fun v=>mL (a.put o.dst v)) v):=by simp only[rI,h,zc];rfl
def Oz:∀ {l:Array Oper} {i:Nat} {o:Oper},Jt l.toList i=O o->l[i]?=O o:=by
 intro l i o h;rw[<- Array.getElem?_toList];generalize l.toList=L at h;induction L generalizing i with
 | nil=>cases h
 | cons a r ih=>cases i with
  | zero=>exact h
  | succ i=>rw[a02];exact ih h
def auu(h:a0C .any ops L=[]):mj C ops Q S m [] L a w=Q .normal a w:=by simp only[mj,h]
def auv(b:Jt ops.toList i=O o)(c:(a0C .any ops L == [i])=A)(d:a0E o (x8 ops a)=G) :
 mj C ops Q S m (i::r) L a w=mj C ops Q S m r (L.setIfInBounds i A) (a.put o.dst undef) w:=by have h:=Oz b;simp only[mj,h,c,d]
def auw(b:Jt ops.toList i=O o)(c:(a0C .any ops L == [i])=A)(d:a0E o (x8 ops a)=A)(e:Vd a o=A) :
 mj C ops Q S m (i::r) L a w=rH C o a w (fun a'=>mj C ops Q S m r (L.setIfInBounds i A) a' w):=by have h:=Oz b;simp only[mj,h,c,d,e]
def auy(b:Jt ops.toList i=O o)(c:(a0C .any ops L == [i])=A)(d:a0E o (x8 ops a)=A)(e:Vd a o=G)(f:tH m (L.setIfInBounds i A)=A) :
 mj C ops Q S m (i::r) L a w=lB C o a w (fun a' w'=>S w'/\mj C ops Q S m r (L.setIfInBounds i A) a' w') (NP (qu ops.toList) Q):=by have h:=Oz b;simp only[mj,h,c,d,e,f]
def auz(b:Jt ops.toList i=O o)(c:(a0C .any ops L == [i])=A)(d:a0E o (x8 ops a)=A)(e:Vd a o=G)(f:tH m (L.setIfInBounds i A)=G) :
 mj C ops Q S m (i::r) L a w=lB C o a w (fun a' w'=>mj C ops Q S m r (L.setIfInBounds i A) a' w') (NP (qu ops.toList) Q):=by have h:=Oz b;simp only[mj,h,c,d,e,f]
def auA(b:Jt ops.toList i=O o)(c:(a0C .any ops L == [i])=G)(d:((a0C .any ops L).contains i && Region.free .any ops L i && Q1 .any ops L m i)=A)(e:a0E o (x8 ops a)=G) :
 mj C ops Q S m (i::r) L a w=mj C ops Q S m r (L.setIfInBounds i A) (a.put o.dst undef) w:=by have h:=Oz b;simp only[mj,h,c,e,d]
def auB(b:Jt ops.toList i=O o)(c:(a0C .any ops L == [i])=G)(d:((a0C .any ops L).contains i && Region.free .any ops L i && Q1 .any ops L m i)=A)(e:a0E o (x8 ops a)=A) :
 mj C ops Q S m (i::r) L a w=rI C o a S (fun a'=>mj C ops Q S m r (L.setIfInBounds i A) a' w):=by have h:=Oz b;simp only[mj,h,c,e,d]
variable{x1 x2:Y}{f:Nat->Y}{j:Nat}{vs lv:List Nat}{sf df:Nat->Y}{al:List Operand}{ds:List Deferred}{pl:List (Nat×Operand)}
def auC:a.eval (.tmp i)=a.f i:=rfl
def auD{k:IntKind}{n:Int}:a.eval (.const (.int k n)) = .int k n:=rfl
def auE{b:Bool}:a.eval (.const (.bool b)) = .bool b:=rfl
def auF{l:List UInt8}:a.eval (.const (.string ⟨l.toArray⟩)) = aT l:=rfl
def auG:a.eval (.const ai) = ai:=rfl
def auH{p:Option Addr}:a.eval (.const (.pointer p)) = .pointer p:=rfl
def auI{p:Option Addr}{n c:Nat}:a.eval (.const (.slice p n c)) = .slice p n c:=rfl
def auJ{r:Option Nat}:a.eval (.const (.map r)) = .map r:=rfl
def auK{t:TypeId}{v:Y}:a.eval (.const (aj t v)) = aj t v:=rfl
def auL{l:Array Y}:a.eval (.const (ak l)) = ak l:=rfl
def auM:a.eval (.global i) = aq (O ⟨i,0,V⟩):=rfl
def auN:a.eval (.func i) = .func (.func i) #[] #[]:=rfl
def auO:(a.put V x1)=a:=rfl
def auP(h:a1x i j=A):(a.put (O j) x1).f i=x1:=by simp only[Env.put,Jk,h,cond]
def auQ(h:a1x i j=G):(a.put (O j) x1).f i=a.f i:=by simp only[Env.put,Jk,h,cond]
def auR{d:Option Nat}:(a.put d x1).defers=a.defers:=by cases d<;>rfl
def auS(h:qU j lv=A):(fr a vs lv sf df).f j=sf j:=by simp only[fr,Q2,h,cond]
def auT(h:qU j lv=G)(b:qU j vs=A):(fr a vs lv sf df).f j=df j:=by simp only[fr,Q2,h,b,cond]
def auU(h:qU j lv=G)(b:qU j vs=G):(fr a vs lv sf df).f j=a.f j:=by simp only[fr,Q2,h,b,cond]
def auV:(fr a vs lv sf df).defers=a.defers:=rfl
def auW:(vC []).f i=undef:=rfl
def auX{l:List Y}:(vC (x1::l)).f 0=x1:=rfl
def auY{l:List Y}:(vC (x1::l)).f (i+1)=(vC l).f i:=rfl
def auZ{l:List Y}:(vC l).defers=[]:=rfl
def au0{α:Type}{c:Bool}{x y:α}(h:c=A):cond c x y=x:=by rw[h];rfl
def au1{α:Type}{c:Bool}{x y:α}(h:c=G):cond c x y=y:=by rw[h];rfl
def au2:jM a al.toArray=(al.map a.eval).toArray:=rfl
def au3:Q0 a pl.toArray=(pl.map fun x=>(x.1,a.eval x.2)).toArray:=rfl
def au4:Ly a V=none:=rfl
def au5:Ly a (O u)=O (a.eval u):=rfl
def au6(h:lv=[]):ze a lv=[]:=by rw[h];rfl
def au7(h:lv=j::r):ze a lv=(j,a.f j)::ze a r:=by rw[h];rfl
def au8{K:Env->Prop}(h:lv=[]):pM lv a K=K a:=by rw[h];rfl
def au9{K:Env->Prop}(h:lv=i::r):pM lv a K=Ru (a.f i) (pM r (a.put (O i) (.bool A)) K) (pM r (a.put (O i) (.bool G)) K):=by rw[h];rfl
variable{fn:Func}{R:Ending->Z->Prop}{K1:List Y->Prop}{l:List Y}{rs VB:List ResultVar}
def avc(h:rs=[]):uB P rs f w l K1=K1 l:=by rw[h];rfl
def avd(h:rs = .tmp t::VB):uB P rs f w l K1=uB P VB f w (l++[f t]) K1:=by rw[h];rfl
def ave(h:rs = .cell j t::VB):uB P rs f w l K1=Ox P (Instr.loadAt t (f j)) w (fun v=>uB P VB f w (l++[v]) K1) NX:=by rw[h];rfl
def avf:Jq P fn R .normal a w=uB P fn.results.toList a.f w [] fun l=>R (ah (one l)) w:=rfl
def avg:Jq P fn R .ret a w=uB P fn.results.toList a.f w [] fun l=>R (ah (one l)) w:=rfl
def avh{l:List PanicEntry}:Jq P fn R (.panic l) a w=R (.panicked l) w:=rfl
def avi:LP P fn R .normal a w=LV P (fun w=>uB P fn.results.toList a.f w [] fun l=>R (ah (one l)) w) R a.defers .returning w:=rfl
def avk:LP P fn R .ret a w=LV P (fun w=>uB P fn.results.toList a.f w [] fun l=>R (ah (one l)) w) R a.defers .returning w:=rfl
def avl{l:List PanicEntry}:LP P fn R (.panic l) a w=LV P (fun w=>uB P fn.results.toList a.f w [] fun l=>R (ah (one l)) w) R a.defers (.panicking l) w:=rfl
def avm:one [] = ak #[]:=rfl
def avn:one [x1]=x1:=rfl
def avo:one (x1::x2::l) = ak (x1::x2::l).toArray:=rfl
def avp:Ox P s w K X=RD P s w K X:=rfl
def avq{K:Y->Z->Prop}:WRp P s w K X=WR P s w K X:=rfl
def avr{s:Sem Unit}{K:Z->Prop}:WUp P s w K X=WU P s w K X:=rfl
def avt{args:Array Y}{K:Y->Z->Prop}{X:List PanicEntry->Z->Prop}:CAp P k args w K X=CA P k args w K X:=rfl
def avu{args:Array Y}:CQp P k args w K=CQ P k args w K:=rfl
def avv{args:Array Y}{K:Y->Z->Prop}{X:List PanicEntry->Z->Prop}:CVp P x1 args w K X=CV P x1 args w K X:=rfl
def avw{nm:String}{args:Array Y}{K:Y->Z->Prop}{X:List PanicEntry->Z->Prop}:CIp P x1 nm args w K X=CI P x1 nm args w K X:=rfl
def avx{B:Prop}:Ru x1 A0 B=BS x1 A0 B:=rfl
def avy{K:Fn->Array Y->Array Y->Prop}:DFp x1 K=DF x1 K:=rfl
def avz:Vy x1 K=NC x1 K:=rfl
def avA{F:((Nat->Y)->Z->Prop)->(Nat->Y)->(Nat->Y)->Z->Prop}:aim F sf w=Oc F sf w:=rfl
def avB{F:((Nat->Y)->Z->Prop)->Prop}{R:(Nat->Y)->(Nat->Y)->Z->Prop}:JNp F R=JN F R:=rfl
def avC{F:((Nat->Y)->Z->Prop)->Prop}{R:(Nat->Y)->(Nat->Y)->Z->Prop}:JSp F R=JS F R:=rfl
def avD:Vz P s S K=uy P s S K:=rfl
def avE{F:(Z->Prop)->Prop}:HDp F=HD F:=rfl
def avF:(fun v w'=>R (.panicked [{ v,recovered:=false }]) w')=PX R:=rfl
def avG:(fun v w'=>∀ _:Nat->Y,R (.panicked [{ v,recovered:=false }]) w')=PXA R:=rfl
def avH:(fun a w'=>∀ _:Nat->Y,R (.panicked a) w')=Lv R:=rfl
def avI:(fun a w'=>R (.panicked a) w')=PC R:=rfl
end
def cqD{C:lZ}(b:Good C){f:FuncId}{c:Code}{args:List Y}{S:Prop}(d:C.P.funcs[f]?=O fn)(e:fn.body=O c)
  (hk:(((wr c).all fun i=>decide (i<fn.ntmps)) && Nat.ble args.length fn.ntmps)=A) (he:pM [] (vC args) (fun a=>gm C c (LP C.P fn R) a w)=S) (h:S):Calls C.P f args.toArray w R:=by
 simp only[Bool.and_eq_true] at hk;exact asY b d e hk.1 (Nat.le_of_ble_eq_true hk.2) [] he h
end Sx
def zX:=(aZI @atc (aZI @atd (aZI @ate (aZI @atf (aZI @atg (aZI @ath (aZI @ati (aZI @atj (aZI @atk (aZI @atl (aZI @atm (aZI @atn (aZI @ato (aZI @atp (aZI @atq (aZI @atr (aZI @att (aZI @atu (aZI @atv (aZI @atw (aZI @atx (aZI @aty (aZI @atz (aZI @atA (aZI @atB (aZI @atC (aZI @atD (aZI @atE (aZI @atF (aZI @atG (aZI @atH (aZI @atI (aZI @atJ (aZI @atL (aZI @atM (aZI @atN (aZI @atO (aZI @atP (aZI @atQ (aZI @atS (aZI @atT (aZI @atU (aZI @atV (aZI @atW (aZI @atX (aZI @atY (aZI @atZ (aZI @at0 (aZI @at1 (aZI @at5 (aZI @at6 (aZI @at7 (aZI @aua (aZI @aub (aZI @auc (aZI @aud (aZI @aue (aZI @auf (aZI @aug (aZI @auh (aZI @aui (aZI @auj (aZI @auk (aZI @aul (aZI @aum (aZI @aun (aZI @auo (aZI @aup (aZI @auq (aZI @aur (aZI @aus (aZI @aut (aZI @auu (aZI @auv (aZI @auw (aZI @auy (aZI @auz (aZI @auA (aZI @auB (aZI @auC (aZI @auD (aZI @auE (aZI @auF (aZI @auG (aZI @auH (aZI @auI (aZI @auJ (aZI @auK (aZI @auL (aZI @auM (aZI @auN (aZI @auO (aZI @auP (aZI @auQ (aZI @auR (aZI @auS (aZI @auT (aZI @auU (aZI @auV (aZI @auW (aZI @auX (aZI @auY (aZI @auZ (aZI @au0 (aZI @au1 (aZI @au2 (aZI @au3 (aZI @au4 (aZI @au5 (aZI @au6 (aZI @au7 (aZI @au8 (aZI @au9 (aZI @avc (aZI @avd (aZI @ave (aZI @avf (aZI @avg (aZI @avh (aZI @avi (aZI @avk (aZI @avl (aZI @avm (aZI @avn @avo))))))))))))))))))))))))))))))))))))))))))))))))))))))))))))))))))))))))))))))))))))))))))))))))))))))))))))))))))))))))))))
def zY:=(aZI @avp (aZI @avq (aZI @avr (aZI @avt (aZI @avu (aZI @avv (aZI @avw (aZI @avx (aZI @avy (aZI @avz (aZI @avA (aZI @avB (aZI @avC (aZI @avD (aZI @avE (aZI @avF (aZI @avG (aZI @avH @avI))))))))))))))))))
def zn{B:Prop}(h:A0=B:=by(simp (maxSteps:=10000000) (disch:=(refine id ?_;with_unfolding_all rfl)) only[↓zX,zY,List.map,List.nil_append,List.cons_append,List.toList_toArray,List.append_toArray];try rfl)):A0=B:=h
abbrev kJ(p:Prop):Prop:=p
def ge l j t h b c s y:=Eo (zL l) (zO j) (zN t) (zO h) (zL b) (zL c) (zT s) (zT y)
def gd l j t h b c y:=Eo (zL l) (zO j) (zN t) (zO h) (zL b) (zL c) (fun _=>A) (zT y)
def gc l j y:=gd l j [] [] [] [] y
def cz {C:lZ} (w:World) (R:Ending->World->Prop) (args:List Value) (b:Sx.Good C) {f:FuncId} {c:Code} {S:Prop} (d:C.P.funcs[f]?=some fn) (e:fn.body=some c:=by rfl)
  (hk:(nd c && ((wr c).all fun i=>decide (i<fn.ntmps)) && Nat.ble args.length fn.ntmps)=true:=by kernel_rfl) (he:pM [] (vC args) (fun a=>gm C c (Jq C.P fn R) a w)=S:=by exact zn) (h:kJ S):Calls C.P f args.toArray w R:=
 cq b d e hk he h
def cy {C:lZ} (w:World) (R:Ending->World->Prop) (args:List Value) (b:Sx.Good C) {f:FuncId} {c:Code} {S:Prop} (d:C.P.funcs[f]?=some fn) (e:fn.body=some c:=by rfl)
  (hk:(((wr c).all fun i=>decide (i<fn.ntmps)) && Nat.ble args.length fn.ntmps)=true:=by kernel_rfl) (he:pM [] (vC args) (fun a=>gm C c (LP C.P fn R) a w)=S:=by exact zn) (h:kJ S):Calls C.P f args.toArray w R:=
 cqD b d e hk he h
end Go.Proofs.YtoegidfbnkaabaaGreatDoor
namespace Go.Proofs.YtoegidfbnkaabaaGreatDoor
open Go.Proofs.YtoegidfbnkaabaaGreatDoor.Sx
variable{cs:Array Y}{n:Nat}{v:Y}
section
variable{p0 p1 p2 p3 p4 p5 p6 p7:Y}{w:Z}{R:Ending->Z->Prop}
def avM:=cz w R [p0] (gc [(4,[2,3]),(11,[6]),(19,[2,3,88])] [(2001,[]),(6000,[25]),(7001,[3]),(12001,[6]),(15000,[79]),(17002,[2,3])] [11,16,24,25,31,42,43,77,78,79,89,95]) Tryz.func84
def avN:=cz w R [p0,p1,p2] (gc [] [(2000,[25]),(3008,[])] [23,24,25,29,30,33,37,38,41]) Tryz.func112
def avO:=cz w R [p0] (gc [(1,[2])] [(4001,[]),(8001,[]),(13002,[]),(14000,[72]),(15001,[]),(17001,[])] [13,23,37,55,71,72,76]) Tryz.func46
def avP:=cz w R [p0] (gc [] [] []) Tryz.func28
def avQ:=cz w R [p0,p1] (gc [] [] []) Tryz.func47
def aaG:=cz w R [p0] (gd [] [] [(6,10)] [] [] [] [6,8,9,12,21,24]) Tryz.func23
end
namespace Sx
open Go
def FP(P:Program)(t:TypeId):Bool:=match P.underlying t with | some (.pointer _)=>A | _=>G
def VC(P:Program)(t:TypeId):Bool:=match P.underlying t with | some (.slice _)=>A | _=>G
def aaH(P:Program)(t:TypeId):Bool:=match P.underlying t with | some (.map _ _)=>A | _=>G
def yd(P:Program)(t:TypeId):Bool:=match P.underlying t with | some (.interface _)=>A | _=>G
section
variable{P:Program}{t:TypeId}{x y:Operand}{w:Z}{K:Y->Prop}{X:Y->Z->Prop}
def ais(h:FP P t=A)(p:Option Addr):(Op.equal t (.pointer p) (aq V)).run P w = .ok p.isNone w:=by
 grind [FP,run_equal_pointer_nil,Program.pointee]
def ait(h:VC P t=A)(a:Option Addr)(n c:Nat):(Op.equal t (.slice a n c) bV).run P w = .ok a.isNone w:=by
 grind [VC,run_equal_slice_nil]
def avR(h:aaH P t=A)(r:Option Nat):(Op.equal t (.map r) (.map V)).run P w = .ok r.isNone w:=by
 grind [aaH,run_equal_map_nil]
def LU(h:FP P t=A)(p:Option Addr):RD P (bo .eql t x y (.pointer p) (aq V)) w K X=K (.bool p.isNone):=
 gU (by simp [bo,eqGuard,binOp,aZS,ais h])
def aaI(h:FP P t=A)(p:Option Addr):RD P (bo .neq t x y (.pointer p) (aq V)) w K X=K (.bool !p.isNone):=
 gU (by simp [bo,eqGuard,binOp,aZS,ais h])
def aiu(h:VC P t=A)(p:Option Addr)(n c:Nat):RD P (bo .eql t x y (.slice p n c) bV) w K X=K (.bool p.isNone):=
 gU (by simp [bo,eqGuard,binOp,aZS,ait h])
def avS(h:VC P t=A)(p:Option Addr)(n c:Nat):RD P (bo .neq t x y (.slice p n c) bV) w K X=K (.bool !p.isNone):=
 gU (by simp [bo,eqGuard,binOp,aZS,ait h])
def avT(h:aaH P t=A)(p:Option Nat):RD P (bo .eql t x y (.map p) (.map V)) w K X=K (.bool p.isNone):=
 gU (by simp [bo,eqGuard,binOp,aZS,avR h])
def FQ(h:yd P t=A):P.underlying t=O (.interface (P.methodsAt t)):=by
 grind [yd,Program.methodsAt]
def aiv(h:yd P t=A)(u:TypeId)(v:Y):RD P (bo .eql t x y (aj u v) ai) w K X=K (.bool G):=
 gU (by simp [bo,eqGuard,binOp,aZS,run_equal_held_nil w t u v (FQ h)])
def avU(h:yd P t=A)(u:TypeId)(v:Y):RD P (bo .neq t x y (aj u v) ai) w K X=K (.bool A):=
 gU (by simp [bo,eqGuard,binOp,aZS,run_equal_held_nil w t u v (FQ h)])
def aiw(h:yd P t=A)(c:Y):RD P (bo .eql t x (.const c) ai ai) w K X=K (.bool A):=
 gU (by simp [bo,eqGuard,binOp,aZS,run_equal_nil_nil w t (FQ h)])
def avV(h:yd P t=A)(c:Y):RD P (bo .neq t x (.const c) ai ai) w K X=K (.bool G):=
 gU (by simp [bo,eqGuard,binOp,aZS,run_equal_nil_nil w t (FQ h)])
def aix(P:Program)(T:TypeId):Option (Nat×TypeId):=match P.underlying T with | some (.array n e)=>O (n,e) | _=>V
def Rv(cs:Array Y)(i:Int)(K:Y->Prop)(D:Prop):RT (K,D):=match cs[i.toNat]? with | some v=>K v | none=>D
def aaJ{i:Int}{K:Y->Prop}{D:Prop}(h:cs[i.toNat]?=O v):Rv cs i K D=K v:=by grind [Rv]
def avW{T e:TypeId}{k:IntKind}{i:Int}(h:aix P T=O (n,e))(he:(Vt P e && sized P e 1)=A)(a:0<=i)(b:i<n) :
  RD P (a1g T (.agg cs) (.int k i)) w K X=Rv cs i K (FK P (a1g T (.agg cs) (.int k i)) w K X):=by
 unfold Rv;split
 .rename_i v hv;refine gU ?_;unfold aix at h;split at h
  .rename_i c e' hu;simp only[aZG,aZ6] at h;obtain⟨rfl,rfl⟩:=h;simp only[Bool.and_eq_true] at he;simp only[a1g,aZS,asIntOf,a0u,aZR,run_underlying hu,zip (aZI a b),FN he.2,Nat.mul_one];unfold part;simp only[aZS,ah3 he.1,aZR,hv];simp
  grind
 .rfl
end
def zG1:=aZI @aaa (aZI @ju (aZI @ZK (aZI @ZL (aZI @Oq (aZI @Ot (aZI @FL (aZI @FM (aZI @ZN (aZI @ZO (aZI @ZP (aZI @ZQ (aZI @ZR (aZI @ZS (aZI @ZT (aZI @ZU (aZI @ZV (aZI @ZY (aZI @ZZ (aZI @ZW (aZI @ZX (aZI @Z4 (aZI @Z5 (aZI @Z6 (aZI @Z7 (aZI @Vx (aZI @Z1 (aZI @aab (aZI @aac (aZI @aaJ (aZI @aad (aZI @aae (aZI @aaf (aZI @aag (aZI @LQ (aZI @sx (aZI @pS (aZI @iY (aZI @Ro (aZI @BE (aZI @uC (aZI @size_alloc (aZI @Rt (aZI @aam (aZI @aah (aZI @aai (aZI @aaj (aZI @aak (aZI @aal (aZI @aan (aZI @aao (aZI @aap (aZI @aaq (aZI @aar (aZI @aas (aZI @aat (aZI @aau (aZI @aav (aZI @aaw (aZI @aax (aZI @aay (aZI @aaz (aZI @aaA (aZI @aaB (aZI @aaC (aZI @aaD (aZI @aaE (aZI @Ov (aZI @Z9 (aZI @Vs (aZI @ZH (@ZI)))))))))))))))))))))))))))))))))))))))))))))))))))))))))))))))))))))))
def zG2:=aZI @Int.toNat_natCast (aZI @Option.isNone_none.{0} (aZI @Option.isNone_some.{0} (aZI @a1z.{0} (aZI @a01.{0} (aZI @a02.{0} (aZI @List.setIfInBounds_toArray.{0} (aZI @List.set_cons_zero.{0} (aZI @List.set_cons_succ.{0} (aZI @List.size_toArray.{0} (aZI @List.length_cons.{0} (aZI @List.length_nil.{0} (aZI @List.drop_zero.{0} (aZI @List.drop_succ_cons.{0} (aZI @List.take_succ_cons.{0} (aZI @List.take_zero.{0} (aZI @List.take_nil.{0} (aZI @List.drop_nil.{0} (aZI @List.all_cons.{0} (aZI @List.all_nil.{0} (aZI @Bool.and_true (aZI @Bool.true_and (aZI @Nat.zero_add (aZI @Nat.add_zero (aZI @Nat.mul_one (aZI @and_self (aZI @and_true (aZI @true_and (aZI @decide_true (aZI @decide_false (aZI @Bool.not_true (aZI @Bool.not_false (aZI @not_true_eq_false (@not_false_eq_true)))))))))))))))))))))))))))))))))
def zA {p q : Prop} (a : p) (b : q) : p /\ q := ⟨a, b⟩
def zS := (zA @size_alloc (zA @BE (zA @uC (zA @List.size_toArray.{0} (zA @List.length_cons.{0} @List.length_nil.{0})))))
def zq {p:Prop}(h:p:=by first|assumption|omega|simp only[zS]<;>omega|decide):p:=h
def zH := (zA @LQ (zA @sx (zA @pS (zA @iY (zA @Ro (zA @BE (zA @uC @size_alloc)))))))
def zG0 := (zA @Pr.eq_1 (zA @PX.eq_1 (zA @PC.eq_1 (zA @NX.eq_1 (zA @ends.eq_1 (zA @ends.eq_2 (zA @ends.eq_3 (zA @Em.eq_1 (zA @Em.eq_2 (zA @oF.eq_1 (zA @oF.eq_2 (zA @jd.eq_1 (zA @jd.eq_2 (zA @forall_const.{0} (zA @forall_const.{1} (zA @eq_self.{1} (zA zG1 zG2)))))))))))))))))
end Sx
