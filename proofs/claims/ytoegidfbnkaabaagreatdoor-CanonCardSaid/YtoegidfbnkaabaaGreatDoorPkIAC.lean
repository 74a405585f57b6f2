/- A part of one proof (SxM, ShG, SxP, ShS1, SxN). -/
import Derived.Test.YtoegidfbnkaabaaGreatDoorPkIAB
import Derived.WalkSpells
import Derived.Test.YtoegidfbnkaabaaGreatDoorProg
import Derived.Laws.Pointers
import Derived.Laws.Cover3
import Derived.WideLaws
set_option linter.all false
set_option maxRecDepth 100000
set_option maxHeartbeats 8000000
open Option renaming some → O, none → V
open Go renaming Value → Y, World → Z
open Bool renaming true → A, false → G
open Go.Obj renaming cells → ae
open Go.Ending renaming returned → ah
open Go.Value renaming nilIface → ai, iface → aj, tuple → ak, pointer → aq
open Option.some renaming injEq → a07
open And renaming intro → a09
open Go.Result renaming andThen_ok → a1k
open Go.Sem renaming run_bind → a1m, run_pure → a1V
open Go.Value renaming string → a1u, pointer → a1T
open Prod.mk renaming injEq → a1z
open Go.Instr renaming sliceAt → a1X, buildSlice → a2a, index → a2P, extract → a36, fill → a5G
open Go.Region renaming ready → a19, wanted → a2b
open List renaming getElem?_cons_zero → a2w, getElem?_cons_succ → a2x, getElem?_toArray → a3d
open Go.Builtin renaming len_ → a2O
open ByteArray renaming size → a3a
open Nat renaming beq → a3b
namespace Go.Proofs.YtoegidfbnkaabaaGreatDoor
variable{A0:Prop}{K:Y->Prop}{R:Ending->Z->Prop}{X:Y->Z->Prop}{b c cap e i j n o pb:Nat}{cs:Array Y}{fn:Func}{l:Int}{u v:Y}{Fb:IntKind}
namespace Sx
open Go
section
variable{P:Program}{T:TypeId}{b o:Nat}{w:Z}{K:Y->Prop}{X:Y->Z->Prop}
def ajd(P:Program)(s:TypeId)(i:Nat):Option Nat:=
 match P.underlying s with
 | some (.struct fs)=>match fs[i]? with
  | some f=>match P.info? f.type with
   | some t=>if t.size=0 then V else O f.offset
   | none=>V
  | none=>V
 | _=>V
theorem addr_add(b o n:Nat):(⟨b,o,V⟩:Addr).add n=⟨b,o+n,V⟩:=by
 unfold Addr.add;split<;>simp_all
def fH(h:ajd P T i=O n):RD P (Instr.fieldAt T (aq (O ⟨b,o,V⟩)) i) w K X=K (aq (O ⟨b,o+n,V⟩)):=by
 refine ij ?_;unfold ajd at h;split at h
 .rename_i fs hu;split at h
  .rename_i f a;split at h
   .rename_i t ht;split at h
    .grind
    .rename_i c;cases h;have d:(sizeOf f.type).run P w = .ok t.size w:=(by grind [GD,sized]);simp only[Instr.fieldAt,a1m,run_underlying hu,a1k,a,Instr.sureAddr,a1V,fieldPlace,d,bI c,addr_add]
   grind
  grind
 grind
def Su(P:Program)(T:TypeId):Option Nat:=
 match P.underlying T with
 | some (.slice e)=>(P.info? e).map (·.size)
 | _=>V
def aa1(h:Su P T=O n):∃ e,P.underlying T=O (.slice e)/\sized P e n=true:=by
 grind [Su,sized]
theorem ID{e:TypeId}(h:P.underlying T=O (.slice e)):P.elem T=e:=by grind [Program.elem]
def Aq(h:Su P T=O n){k:IntKind}{i:Int}(a:0<=i)(c:i<pb) :
  RD P (Instr.indexAt T (.slice (O ⟨b,o,V⟩) pb cap) (.int k i)) w K X=K (aq (O ⟨b,o+i.toNat*n,V⟩)):=by
 obtain⟨e,he,d⟩:=aa1 h;refine ij ?_;rw[run_indexAt_slice w T _ _ _ _ _ (by rw[ID he];exact he),zip ⟨a,c⟩,ID he,GD d];grind [a1k,addr_add]
def Bn{t:TypeId}{e:TypeId}(h:P.underlying t=O (.slice e)){a:Option Addr} :
  RD P (a2O #[t] T #[.slice a n c]) w K X=K (.int .i64 n):=
 ij (run_len_slice w t T a n c (by grind [ID]))
def auo{t:TypeId}(h:P.underlying t=O .string){l:List UInt8} :
  RD P (a2O #[t] T #[.string (bs l)]) w K X=K (.int .i64 l.length):=by
 refine ij ?_;have e:(bs l).size=l.length:=by simp [a3a]
 simp only[a2O,a3d,a2w,a1m,run_underlying h,a1k,a1V,goInt,e]
def aup{t:TypeId}(h:P.underlying t=O .string){l:List UInt8}{k:IntKind}{i:Int}(b:0<=i)(c:i<l.length) :
  RD P (a2P t (.string (bs l)) (.int k i)) w K X=K (.int .u8 ((l.getD i.toNat 0).toNat)):=by
 refine ij ?_;have e:(bs l)[i.toNat]?=O (l.getD i.toNat 0):=by
  have d:i.toNat<l.length:=zo;have a:i.toNat<(bs l).size:=by grind [a3a]
  rw[getElem?_pos (bs l) i.toNat a]
  congr 1
  show l.toArray[i.toNat]=_;grind
 simp only[a2P,a1m,asIntOf,a1V,a1k,run_underlying h,zip b,e]
def aa2{vs:Array Y}(h:vs[i]?=O v):RD P (a36 (ak vs) i) w K X=K v:=by
 refine ij ?_;simp only[a36,h];rfl
def aa3{l:List Y}:RD P (a36 (ak (v::l).toArray) 0) w K X=K v:=aa2 zs
def aa4{l:List Y}:RD P (a36 (ak (u::v::l).toArray) 1) w K X=K v:=aa2 zs
def aa5{x:Y}{l:List Y}:RD P (a36 (ak (u::x::v::l).toArray) 2) w K X=K v:=aa2 zs
def aa6{t:TypeId}:RD P (Instr.panic (aj t v)) w K X=X (aj t v) w:=aul J
def PG(h:Su P T=O n){k:IntKind}(b:0<=l)(c:l<=pb){a:Option Addr} :
  RD P (a1X T (.slice a pb cap) (O (.int k l)) V V) w K X=K (sliced a l.toNat pb cap n):=by
 obtain⟨e,he,d⟩:=aa1 h;refine ij ?_;rw[run_sliceAt_slice w T _ _ _ _ (by rw[ID he];exact he),run_slice_l w T a pb cap (by rw[ID he];exact he) k l b c,ID he,GD d];rfl
def Sv(h:Su P T=O n){k:IntKind}(b:0<=l)(c:l<=cap){a:Option Addr} :
  RD P (a1X T (.slice a pb cap) V (O (.int k l)) V) w K X=K (sliced a 0 l.toNat cap n):=by
 obtain⟨e,he,d⟩:=aa1 h;refine ij ?_;rw[run_sliceAt_slice w T _ _ _ _ (by rw[ID he];exact he),run_slice_h w T a pb cap (by rw[ID he];exact he) k l b c,ID he,GD d];rfl
def aje(l:List UInt8)(i j:Nat):(bs l).extract i j=bs ((l.take j).drop i):=by
 apply ByteArray.ext;grind [ByteArray.data_extract,Array.ext',Array.toList_extract,List.drop_take]
def aur{t:TypeId}(h:P.underlying t=O .string){s:List UInt8}{k:IntKind}(a:0<=l)(b:l<=s.length) :
  RD P (a1X t (.string (bs s)) (O (.int k l)) V V) w K X=K (.string (bs (s.drop l.toNat))):=by
 refine ij ?_;have e:(bs s).size=s.length:=by simp [a3a]
 simp only[a1X,Instr.slice,a1m,run_underlying h,a1k,Option.isSome,Bool.false_eq_true,if_false,Instr.sliceBounds,a1V,
  run_sliceBound w k l s.length _ a b,aje,e,List.take_length]
def aus{t:TypeId}(h:P.underlying t=O .string){s:List UInt8}{k:IntKind}{m:Int}(a:0<=l)(b:l<=m)(c:m<=s.length) :
  RD P (a1X t (.string (bs s)) (O (.int k l)) (O (.int Fb m)) V) w K X=K (.string (bs ((s.take m.toNat).drop l.toNat))):=by
 refine ij ?_;have e:(bs s).size=s.length:=by simp [a3a]
 simp only[a1X,Instr.slice,a1m,run_underlying h,a1k,Option.isSome,Bool.false_eq_true,if_false,Instr.sliceBounds,a1V,
  run_sliceBound w Fb m (bs s).size _ zo zo,run_sliceBound w k l m.toNat _ a zo,aje]
def Fc(pl:List (Nat×Nat))(cells:Array Y):List (Nat×Y)->Option (Array Y)
 | []=>O cells
 | (i,v)::r=>match pl[i]? with
  | none=>V
  | some (off,size)=>if v.cells.toList.length=size/\off+size<=cells.size then Fc pl (pD cells off v.cells.toList) r else V
def ajf(off:Nat):∀ (l:List Y) (k:Nat) (cs:Array Y),(l.zipIdx k).foldl (fun cs (c,j)=>cs.setIfInBounds (off+j) c) cs=pD cs (off+k) l
 | [],_,_=>rfl
 | v::r,k,cs=>by
  simp only[List.zipIdx_cons,List.foldl_cons,pD];rw[ajf off r (k+1)];rfl
theorem aa7{place:Nat->Option (Nat×Nat)}{pl:List (Nat×Nat)}(a:∀ i x,pl[i]?=O x->place i=O x):∀ (l:List (Nat×Y)) (cs:Array Y) (r:Array Y),Fc pl cs l=O r->a5G place cs l=O r
 | [],cs,r,h=>h
 | (i,v)::l,cs,r,h=>by
  unfold Fc at h;unfold a5G;cases b:pl[i]? with
  | none=>grind
  | some x=>
   obtain⟨off,size⟩:=x;rw[b] at h;dsimp only at h;rw[a i _ b];dsimp only;split at h
   .rename_i f;have c:v.cells.size=size:=zg;rw[bI (by rw[c];simp;omega)];have e:=ajf off v.cells.toList 0 cs;rw[Nat.add_zero] at e;have d:(v.cells.zipIdx.foldl (fun cs (x:Y×Nat)=>cs.setIfInBounds (off+x.2) x.1) cs)=pD cs off v.cells.toList:=by
     grind [Array.toList_zipIdx]
    rw[d];exact aa7 a l _ r h
   grind
def places(P:Program):List Field->Option (List (Nat×Nat))
 | []=>O []
 | f::r=>match P.info? f.type,places P r with
  | some i,O l=>O ((f.offset,i.size)::l)
  | _,_=>V
def ajg(P:Program)(T:TypeId):Option (Array Y×List (Nat×Nat)):=
 match Ao P T,P.underlying T with
 | some z,O (.struct fs)=>(places P fs.toList).map fun l=>(z.cells,l)
 | _,_=>V
def ajh{w:Z}:∀ (l:List Field) (r:List (Nat×Nat)),places P l=O r->(l.mapM fun(f:Field)=>(do pure (f.offset,<- sizeOf f.type):Sem (Nat×Nat))).run P w = .ok r w
 | [],r,h=>by simp only[places,a07] at h;subst h;rfl
 | f::l,r,h=>by
  unfold places at h;split at h
  .rename_i i q c a;cases h;have ih:=ajh (w:=w) l q a;have b:(sizeOf f.type).run P w = .ok i.size w:=(by grind [GD,sized]);rw[List.mapM_cons];simp only[a1m,b,a1k,a1V,ih]
  grind
def Ww(x:Option (Array Y))(K:Y->Prop)(D:Prop):RT (K,D):=
 match x with
 | some cs=>K (.agg cs)
 | none=>D
def sW{z:Array Y}{pl:List (Nat×Nat)}(h:ajg P T=O (z,pl)){parts:Array (Nat×Y)} :
  RD P (Instr.build T parts) w K X=Ww (Fc pl z parts.toList) K (GA P (Instr.build T parts) w K X):=by
 unfold Ww;split
 .rename_i cs f;refine ij ?_;unfold ajg at h;split at h
  .rename_i b fs c hu;cases a:places P fs.toList with
   | none=>grind
   | some l=>
    rw[a] at h;simp only[Option.map_some,a07,a1z] at h;obtain⟨rfl,rfl⟩:=h;have d:=ajh (w:=w) fs.toList l a;have e:a5G (l.toArray[·]?) b.cells parts.toList=O cs:=(by grind [aa7]);simp only[Instr.build,a1m,Fa c,a1k,run_underlying hu];rw[Array.mapM_eq_mapM_toList];simp only[Sem.run_map,d,a1k,e];rfl
  grind
 .rfl
def aji(P:Program)(T n:Nat):Option (TypeId×Array Y×List (Nat×Nat)):=
 match P.underlying T with
 | some (.slice e)=>match P.info? e,Ao P e with
  | some i,O z=>if n*i.size=0\/n*i.size > 2 ^ 24 then V else O (e,(Array.range (n*i.size)).map (z.cells[· % z.cells.size]!),(List.range n).map fun j=>(j*i.size,i.size))
  | _,_=>V
 | _=>V
def Wx(x:Option (Array Y))(e n:Nat)(w:Z)(K:Y->Z->Prop)(D:Prop):RT (K,D):=
 match x with
 | some cs=>K (.slice (O ⟨w.heap.size,0,V⟩) n n) (w.alloc (ae cs e))
 | none=>D
def wU{e:TypeId}{z:Array Y}{pl:List (Nat×Nat)}(h:aji P T n=O (e,z,pl)){parts:Array (Nat×Y)}{K:Y->Z->Prop} :
  WR P (a2a T n parts) w K X=Wx (Fc pl z parts.toList) e n w K (WR0 P (a2a T n parts) w K X):=by
 unfold Wx;split
 .rename_i cs k;refine xR ?_;unfold aji at h;split at h
  .rename_i e' hu;split at h
   .rename_i i a l b;split at h
    .grind
    .rename_i m;simp only[a07,a1z] at h;obtain⟨rfl,rfl,rfl⟩:=h;have c:(sizeOf e').run P w = .ok i.size w:=(by grind [GD,sized]);have d:a5G (fun j=>O (j*i.size,i.size)) ((Array.range (n*i.size)).map (a.cells[· % a.cells.size]!)) parts.toList=O cs:=
      (by grind [aa7,List.range,List.getElem?_eq_some_iff])
     have f:¬ (n*i.size > 2 ^ 24):=zo;have g:¬ (n*i.size=0):=zo;simp only[a2a,a1m,run_underlying hu,a1k,c,bI f,bI g,a1V,Fa b,d];simp only[newRow,newObj,a1m,Sem.run,a1k,a1V];rfl
   exact yH
  exact yH
 .rfl
def Kp(P:Program)(T:TypeId):Bool:=
 match P.underlying T with
 | some (.interface _)=>G
 | some _=>A
 | none=>G
def DM(h:Kp P T=A){K:Y->Z->Prop}:WR P (Instr.makeInterface T v) w K X=K (aj T v) w:=by
 refine xR ?_;unfold Kp at h;unfold Instr.makeInterface underlying;simp only[a1m,program,Sem.run,a1k];grind [a1V,a1k]
def Wy{fn:Fn}{x y:Array Y}{K:Y->Z->Prop}:WR P (Instr.makeFunc fn x y) w K X=K (.func fn x y) w:=xR J
end
def aut{P:Program}{src dst:TypeId}{kd:IntKind}(a:(P.underlying src).isSome=A)(b:P.underlying dst=O (.int kd)){k:IntKind}{n:Int}{w:Z}{K:Y->Z->Prop} :
  WR P (convert src dst (.int k n)) w K X=K (.int kd (kd.wrap n)) w:=by
 have e:P.intKind dst=kd:=by grind [Program.intKind]
 refine xR ?_;grind [run_convert_int]
def u8w{x:Int}(a:0<=x)(b:x<=255):IntKind.u8.wrap x=x:=by
 unfold IntKind.wrap;have c:(2 ^ IntKind.u8.bits:Int)=256:=zd;have d:IntKind.u8.signed=false:=rfl;grind
def cS{P:Program}{s:Sem Y}{S:Z->Prop}(v:Y)(h:∀ w',S w'->RD P s w' (fun u=>u=v) NX)(hk:K v):vi P s S K:=by
 refine⟨v,fun w' b=>?_,hk⟩;have a:=h w' b;unfold RD at a;cases hr:s.run P w' with
 | ok u c=>grind
 | halt x c=>rw[hr] at a;cases x<;>exact a.elim
def Pr(p:Prop):Prop:=p
def toPr{p:Prop}(h:Pr p):p:=h
def ldV(x:Option Y)(K:Y->Prop)(D:Prop):RT (K,D):=
 match x with | some v=>K v | none=>D
theorem Sw{w:Z}{x y:Obj}:bS (bS w b x) b y=bS w b y:=by unfold bS;simp
def aa9{F:((Nat->Y)->Z->Prop)->Prop}{R:(Nat->Y)->(Nat->Y)->Z->Prop}:JN F R=F (fun s w=>∀ d,R s d w):=rfl
def aba{U:TypeId}{z:Nat×Nat}{D:Prop}:Wv (O (ae cs U z)) o K D=ldV (cs[o]?) K D:=rfl
def abb{D:Prop}:ldV (O v) K D=K v:=rfl
def abc{U:TypeId}{z:Nat×Nat}{D:Prop}(h:o+n<=cs.size):Na (O (ae cs U z)) o n K D=K (.agg ((cs.toList.drop o).take n).toArray):=by
 unfold Na;grind
def abd{U:TypeId}{w:Z}{K:Z->Prop}{D:Prop}(h:o+n<=cs.size) :
  Ss (O (ae cs U (0,0))) w b o n v K D=if v.cells.toList.length=n/\(v.cells.toList.all Value.oneCell')=A then K (bS w b (ae (pD cs o v.cells.toList) U (0,0))) else D:=by
 simp [Ss,h]
def abe{D:Prop}:Ww (O cs) K D=K (.agg cs):=rfl
def abf{w:Z}{K:Y->Z->Prop}{D:Prop}:Wx (O cs) e n w K D=K (.slice (O ⟨w.heap.size,0,V⟩) n n) (w.alloc (ae cs e)):=rfl
def abg(a:Array Y):(Value.agg a).cells=a:=rfl
def abh(s:ByteArray):(a1u s).cells=#[.string s]:=rfl
def abi(k:IntKind)(n:Int):(Value.int k n).cells=#[.int k n]:=rfl
def abj(a:Option Addr)(n c:Nat):(Value.slice a n c).cells=#[.slice a n c]:=rfl
def abk(a:Option Addr):(a1T a).cells=#[.pointer a]:=rfl
def abl(l:List Y):(Value.agg l.toArray).cells.toList=l:=rfl
def abm(k:IntKind)(n:Int):(Value.int k n).cells.toList=[.int k n]:=rfl
def abn(b:Bool):(Value.bool b).cells.toList=[.bool b]:=rfl
def abo(s:ByteArray):(a1u s).cells.toList=[.string s]:=rfl
def abp(a:Option Addr)(n c:Nat):(Value.slice a n c).cells.toList=[.slice a n c]:=rfl
def abq(a:Option Addr):(a1T a).cells.toList=[.pointer a]:=rfl
def abr(t:TypeId)(v:Y):(Value.iface t v).cells.toList=[aj t v]:=rfl
def abt:Value.nilIface.cells.toList=[ai]:=rfl
def abu(f:Fn)(x y:Array Y):(Value.func f x y).cells.toList=[.func f x y]:=rfl
def abv(r:Option Nat):(Value.map r).cells.toList=[.map r]:=rfl
def abw(k:IntKind)(n:Int):(Value.int k n).oneCell'=true:=rfl
def abx(b:Bool):(Value.bool b).oneCell'=true:=rfl
def aby(s:ByteArray):(a1u s).oneCell'=true:=rfl
def abz(a:Option Addr)(n c:Nat):(Value.slice a n c).oneCell'=true:=rfl
def abA(a:Option Addr):(a1T a).oneCell'=true:=rfl
def abB(t:TypeId)(v:Y):(Value.iface t v).oneCell'=true:=rfl
def abC:Value.nilIface.oneCell'=true:=rfl
def abD(f:Fn)(x y:Array Y):(Value.func f x y).oneCell'=true:=rfl
def abE(r:Option Nat):(Value.map r).oneCell'=true:=rfl
theorem Wz{x:Int}(a:-9223372036854775808<=x)(b:x<=9223372036854775807):IntKind.i64.wrap x=x:=by
 unfold IntKind.wrap;have c:(2 ^ IntKind.i64.bits:Int)=18446744073709551616:=zd;have d:(2 ^ (IntKind.i64.bits-1):Int)=9223372036854775808:=zd;have e:IntKind.i64.signed=true:=rfl;grind
end Sx
open Go.Proofs.YtoegidfbnkaabaaGreatDoor.Sx
def _root_.Go.Proofs.YtoegidfbnkaabaaGreatDoor.Sx.auu:Tryz.prog.follows .mixedOrders=true:=zk
def ajk(k:Nat):Bool:=[2,3,4,5,6,7,8,9,10,11,12,13,14,15,16,17,18,19,20,21,22,23,24,25,26,27,28,29,30,31,32,33,34,35,36,37,38,39,40,41,42,43,44,45,46,47,48,49,50,51,52,53,57,58,59,60,61,62,63,64,65,66,67,68,69,70,71,72,73,74,75,76,77,78,79,80,81,82,83,84,85,86,90,91,92,93,94,95,96,97,98,99,100,101,102,103,104,105,106,107,108,109,111,112,113,114,115,116,117,118,119,120,121,122,123,124,125,126,127,128,129,130,131,132,133,134,135,136,137,138,139,140,141,142,143,144,145,146,147,148,149,151,152,153,154,155,156,157,158,159,160,161,162,163,164,165,166,168,169,170,171,172,173,174,175,177,178,179,180,181,202,205,206,207,208,209,210,211,212,213,214,215,216,217,218,219,220,221,222,223,224,225,226,227,228,248,264].contains k
def auv:([2,3,4,5,6,7,8,9,10,11,12,13,14,15,16,17,18,19,20,21,22,23,24,25,26,27,28,29,30,31,32,33,34,35,36,37,38,39,40,41,42,43,44,45,46,47,48,49,50,51,52,53,57,58,59,60,61,62,63,64,65,66,67,68,69,70,71,72,73,74,75,76,77,78,79,80,81,82,83,84,85,86,90,91,92,93,94,95,96,97,98,99,100,101,102,103,104,105,106,107,108,109,111,112,113,114,115,116,117,118,119,120,121,122,123,124,125,126,127,128,129,130,131,132,133,134,135,136,137,138,139,140,141,142,143,144,145,146,147,148,149,151,152,153,154,155,156,157,158,159,160,161,162,163,164,165,166,168,169,170,171,172,173,174,175,177,178,179,180,181,202,205,206,207,208,209,210,211,212,213,214,215,216,217,218,219,220,221,222,223,224,225,226,227,228,248,264].all (Ai Tryz.prog))=true:=zk
def Fe(l:Nat->List Nat)(j:Nat->Option (List Nat))(t:Nat->Nat)(a:Nat->Option (List Nat))(bl bj:Nat->List Nat)(sm sy:Nat->Bool):Sx.Good { P:=Tryz.prog,B:=fun t=>t == 4,calls:=ajk,live:=l,join:=j,tail:=t,held:=a,bl:=bl,bj:=bj,sum:=sm,sy:=sy }:=
 ⟨auu,fun k hk=>List.all_eq_true.1 auv k (by simpa [ajk] using hk)⟩
abbrev aT (x : List UInt8) : Y := .string (bs x)
abbrev aN (x : Array Y) (T : Nat) : Option Obj := O (ae x T)
abbrev cV (b n c : Nat) : Y := .slice (O ⟨b, 0, V⟩) n c
abbrev bX : Y := .slice V 0 0
abbrev pp (b : Nat) : Y := aq (O ⟨b, 0, V⟩)
abbrev pq (b o : Nat) : Y := aq (O ⟨b, o, V⟩)
abbrev zi (n : Int) : Y := .int .i64 n
def zT (l : List Nat) (n : Nat) : Bool := match l with
 | [] => G
 | a :: r => cond (a3b a n) A (zT r n)
def zL (l : List (Nat × List Nat)) (n : Nat) : List Nat := match l with
 | [] => []
 | (a, b) :: r => cond (a3b a n) b (zL r n)
def zN (l : List (Nat × Nat)) (n : Nat) : Nat := match l with
 | [] => 0
 | (a, b) :: r => cond (a3b a n) b (zN r n)
def zO (l : List (Nat × List Nat)) (n : Nat) : Option (List Nat) := match l with
 | [] => V
 | (a, b) :: r => cond (a3b a n) (O b) (zO r n)
open Go
namespace Sx
def zr{p:Prop}(h:p:=by with_unfolding_all rfl):p:=h
def ajl{α:Type}(x:α):tid x=x:=rfl
def PI(P:Program)(s:Sem Y)(w:Z)(K:Y->Prop)(X:Y->Z->Prop):Prop:=RD P s w K X
def WRp(P:Program)(s:Sem Y)(w:Z)(K:Y->Z->Prop)(X:Y->Z->Prop):Prop:=WR P s w K X
def WUp(P:Program)(s:Sem Unit)(w:Z)(K:Z->Prop)(X:Y->Z->Prop):Prop:=WU P s w K X
def CAp(P:Program)(k:FuncId)(args:Array Y)(w:Z)(K:Y->Z->Prop)(X:List PanicEntry->Z->Prop):Prop:=CA P k args w K X
def CQp(P:Program)(k:FuncId)(args:Array Y)(w:Z)(K:Y->Prop):Prop:=CQ P k args w K
def CVp(P:Program)(f:Y)(args:Array Y)(w:Z)(K:Y->Z->Prop)(X:List PanicEntry->Z->Prop):Prop:=CV P f args w K X
def CIp(P:Program)(v:Y)(name:String)(args:Array Y)(w:Z)(K:Y->Z->Prop)(X:List PanicEntry->Z->Prop):Prop:=CI P v name args w K X
def Sy(v:Y)(a B:Prop):Prop:=BS v a B
def DFp(v:Y)(K:Fn->Array Y->Array Y->Prop):Prop:=DF v K
def WA(v:Y)(K:Y->Prop):Prop:=NC v K
def ajt(F:((Nat->Y)->Z->Prop)->(Nat->Y)->(Nat->Y)->Z->Prop)(s0:Nat->Y)(w0:Z):Prop:=Pm F s0 w0
def JNp(F:((Nat->Y)->Z->Prop)->Prop)(R:(Nat->Y)->(Nat->Y)->Z->Prop):Prop:=JN F R
def JSp(F:((Nat->Y)->Z->Prop)->Prop)(R:(Nat->Y)->(Nat->Y)->Z->Prop):Prop:=JS F R
def WB(P:Program)(s:Sem Y)(S:Z->Prop)(K:Y->Prop):Prop:=vi P s S K
def HDp(F:(Z->Prop)->Prop):Prop:=HD F
section
variable{LL:List Oper}{C:mD}{P:Program}{o:Oper}{ops:Array Oper}{rest:List Oper}{a:Env}{w:Z}{next:Env->Z->Prop}{ny:Env->Prop}{Q:Exit->Env->Z->Prop}{c x y:Code}{K:Y->Prop}{S:Z->Prop}{m:Option Nat}{r:List Nat}{L:Array Bool}{i:Nat}
def Kq:List Oper->Nat->Option Oper
 | [],_=>V
 | o::_,0=>O o
 | _::r,i+1=>Kq r i
def auw(h:C.join (E6 x)=V):gD C (.seq x y) Q a w=gD C x (Cg (gD C y Q) Q) a w:=by simp only[gD,h]
def auy{l:List Nat}(h:C.join (E6 x)=O l)(b:nd x=A)(c:C.sum (E6 x)=G):gD C (.seq x y) Q a w =
 JNp (fun j=>gD C x (Cg (fun a' w'=>j (jv (Ak a' l)) w') Q) a w) (fun s d w=>qE (C.bj (E6 x)) (fr a (wr x) l s d) fun a=>gD C y Q a w):=by simp only[gD,h,b,c];rfl
def auz{l:List Nat}(h:C.join (E6 x)=O l)(b:nd x=A)(c:C.sum (E6 x)=A):gD C (.seq x y) Q a w =
 JSp (fun j=>gD C x (Cg (fun a' w'=>j (jv (Ak a' l)) w') Q) a w) (fun s d w=>qE (C.bj (E6 x)) (fr a (wr x) l s d) fun a=>gD C y Q a w):=by simp only[gD,h,b,c];rfl
def auA:gD C .skip Q a w=Q .normal a w:=rfl
def auB{l:List Oper}{id:Nat}:gD C (.region id l.toArray G) Q a w=xO C l.toArray Q l a w:=rfl
def auC{id:Nat}(h:C.held id=V)(b:Wg ops (C.tail id)=A):gD C (.region id ops A) Q a w =
 Bi C ops w.drew (fun a'=>xO C ops Q (ops.toList.drop (C.tail id)) a' w.drew) (ops.toList.take (C.tail id)) a:=by simp only[gD,h,b]
def auD{id m:Nat}{l:List Nat}(h:C.held id=O (m::l))(b:(l.length == ops.size && Region.noSelect ops)=A):gD C (.region id ops A) Q a w =
 HDp fun S=>S w.drew/\mQ C ops Q S (syn m) l (Array.replicate ops.size G) a w.drew:=by simp only[gD,h,b];rfl
def auE{d:Operand}(h:Wh C d=A):gD C (.cond d x y) Q a w=Sy (a.eval d) (gD C x Q a w) (gD C y Q a w):=by simp only[gD,h];rfl
def auF{d:Operand}(h:Wh C d=G)(b:a.eval d = .bool A):gD C (.cond d x y) Q a w=gD C x Q a w:=by simp only[gD,h,b]
def auG{d:Operand}(h:Wh C d=G)(b:a.eval d = .bool G):gD C (.cond d x y) Q a w=gD C y Q a w:=by simp only[gD,h,b]
def auH{id:Nat}:gD C (.block id c) Q a w=gD C c (Gu id Q) a w:=rfl
def auI{id:Nat}:gD C (.exit id) Q a w=Q (.exit id) a w:=rfl
def auJ:gD C .ret Q a w=Q .ret a w:=rfl
def auK{l:Nat}:gD C (.label l) Q a w=Q .normal a w:=rfl
def auL:gD C (.scope c) Q a w=gD C c (Pp Q) a w:=rfl
def auM(h:nd c=A):gD C (.loop c) Q a w=ajt (fun rec s d w=>qE (C.bl (Iy c)) (fr a (wr c) (C.live (Iy c)) s d) fun a=>gD C c (Cg (fun a' w'=>rec (jv (Ak a' (C.live (Iy c)))) w') Q) a w)
 (jv (Ak a (C.live (Iy c)))) w:=by simp only[gD,h];rfl
def auN:Cg next Q .normal a w=next a w:=rfl
def auO:Cg next Q (.exit i) a w=Q (.exit i) a w:=rfl
def auP:Cg next Q .ret a w=Q .ret a w:=rfl
def auQ{l:List PanicEntry}:Cg next Q (.panic l) a w=Q (.panic l) a w:=rfl
def auR:Cg next Q (.goto i) a w=Q (.goto i) a w:=rfl
def auS:Gu i Q .normal a w=Q .normal a w:=rfl
def auT(h:a3b j i=A):Gu i Q (.exit j) a w=Q .normal a w:=by simp only[Gu,h,ajl,cond]
def auU(h:a3b j i=G):Gu i Q (.exit j) a w=Q (.exit j) a w:=by simp only[Gu,h,ajl,cond]
def auV:Gu i Q .ret a w=Q .ret a w:=rfl
def auW{l:List PanicEntry}:Gu i Q (.panic l) a w=Q (.panic l) a w:=rfl
def auX:Pp Q .normal a w=Q .normal a w:=rfl
def auY:Pp Q (.exit i) a w=Q (.exit i) a w:=rfl
def auZ:Pp Q .ret a w=Q .ret a w:=rfl
def au0{l:List PanicEntry}:Pp Q (.panic l) a w=Q (.panic l) a w:=rfl
def au1{d:List Nat}:NP d Q .normal a w=Q .normal a w:=rfl
def au2{d:List Nat}{l:List PanicEntry}:NP d Q (.panic l) a w=∀ f:Nat->Y,Q (.panic l) { a with f:=fun t=>cond (rP t d) (f t) (a.f t) } w:=rfl
def au3(b:LL=[]):xO C ops Q LL a w=Q .normal a w:=by rw[b];rfl
def au4(b:LL=o::rest)(h:a2b o (yS ops a)=A):xO C ops Q LL a w=lY C o a w (xO C ops Q rest) Q:=by simp only[b,xO,h]
def au5(b:LL=o::rest)(h:a2b o (yS ops a)=G):xO C ops Q LL a w=xO C ops Q rest (a.put o.dst undef) w:=by simp only[b,xO,h]
def au6{q:Env->Prop}(b:LL=[]):Bi C ops w q LL a=q a:=by rw[b];rfl
def au7{q:Env->Prop}(b:LL=o::rest)(h:a2b o (yS ops a)=A):Bi C ops w q LL a=sT C o a w (Bi C ops w q rest):=by simp only[b,Bi,h]
def au8{q:Env->Prop}(b:LL=o::rest)(h:a2b o (yS ops a)=G):Bi C ops w q LL a=Bi C ops w q rest (a.put o.dst undef):=by simp only[b,Bi,h]
def au9{K:Env->Prop}:qE [] a K=K a:=rfl
def avc{K:Env->Prop}:qE (i::r) a K=Sy (a.f i) (qE r (a.put (O i) (.bool A)) K) (qE r (a.put (O i) (.bool G)) K):=rfl
def avd(h:(C.B o.type && early C o)=A):pX C o K v=Sy v (K (.bool A)) (K (.bool G)):=by simp only[pX,h];rfl
def ave(h:(C.B o.type && early C o)=G):pX C o K v=K v:=by simp only[pX,h]
variable{d:Option Nat}{t n:Nat}{pos:String}{af:Array Edge}{g:Option (Nat×Bool)}{u v z:Operand}{args:Array Operand}{DI:Array Nat}{k:FuncId}{s:Sem Y}
def spec(o:Oper):Bool:=match o.op with
 | .move _ | .assign _ | .pick _ _ _ | .nilCheck _ | .defer _ | .binOp _ _ _ _ _=>A
 | .call { callee:=.value _,.. } | .call { callee:=.invoke _ _,.. }=>A
 | _=>G
def WC:Operand->Bool
 | .func _=>A
 | _=>G
def avf(h:o.op = .move u):lY C o a w next Q=next (a.put o.dst (a.eval u)) w:=by simp only[lY,h]
def avg(h:o.op = .assign u):lY C o a w next Q=next (a.put o.dst (a.eval u)) w:=by simp only[lY,h]
def avh(h:o.op = .pick z u v)(b:a.eval z = .bool A):lY C o a w next Q=next (a.put o.dst (a.eval u)) w:=by simp only[lY,h,b]
def avi(h:o.op = .pick z u v)(b:a.eval z = .bool G):lY C o a w next Q=next (a.put o.dst (a.eval v)) w:=by simp only[lY,h,b]
def avk(h:o.op = .nilCheck u):lY C o a w next Q=WA (a.eval u) fun v=>next (a.put o.dst v) w:=by simp only[lY,h];rfl
def avl(h:o.op = .defer ⟨.value (.func k),args,DI⟩):lY C o a w next Q=next ({ a with defers:={ target:=.fn (.func k) #[],args:=j7 a args }::a.defers }.put o.dst undef) w:=by simp only[lY,h]
def avm(h:o.op = .defer ⟨.value u,args,DI⟩)(b:WC u=G):lY C o a w next Q=DFp (a.eval u) fun fn x y=>next ({ a with defers:={ target:=.fn fn y,args:=x++j7 a args }::a.defers }.put o.dst undef) w:=by
 cases u<;>first | (simp [WC] at b;done) | (simp only[lY,h];rfl)
def avn(h:o.op = .call ⟨.value (.func k),args,DI⟩)(b:C.calls k=A):lY C o a w next Q=CAp C.P k (j7 a args) w (fun v w'=>pX C o (fun v=>next (a.put o.dst v) w') v) (fun c w'=>Q (.panic c) a w'):=by simp only[lY,h,b];rfl
def avo(h:o.op = .call ⟨.value u,args,DI⟩)(b:WC u=G):lY C o a w next Q=CVp C.P (a.eval u) (j7 a args) w (fun v w'=>pX C o (fun v=>next (a.put o.dst v) w') v) (fun c w'=>Q (.panic c) a w'):=by
 cases u<;>first | (simp [WC] at b;done) | (simp only[lY,h];rfl)
def avp{nm:String}(h:o.op = .call ⟨.invoke u nm,args,DI⟩):lY C o a w next Q=CIp C.P (a.eval u) nm (j7 a args) w (fun v w'=>pX C o (fun v=>next (a.put o.dst v) w') v) (fun b w'=>Q (.panic b) a w'):=by simp only[lY,h];rfl
def avq(h:spec o=G)(b:Aj a o=O s):lY C o a w next Q=PI C.P s w (fun v=>pX C o (fun v=>next (a.put o.dst v) w) v) (fun v w'=>Q (.panic [{ v,recovered:=false }]) a w'):=by
 unfold lY;unfold spec at h;split at h<;>first | cases h | skip
 simp_all;rfl
def avr{p:BinOp}{b:_}(h:o.op = .binOp p t u v b):lY C o a w next Q=PI C.P (bo p t u v (a.eval u) (a.eval v)) w (fun v=>pX C o (fun v=>next (a.put o.dst v) w) v) (fun v w'=>Q (.panic [{ v,recovered:=false }]) a w'):=by simp only[lY,h,Aj];rfl
def avt(h:spec o=G)(b:Aj a o=V)(c:writing a o=O s):lY C o a w next Q=WRp C.P s w (fun v w'=>next (a.put o.dst v) w') (fun v w'=>Q (.panic [{ v,recovered:=false }]) a w'):=by
 unfold lY;unfold spec at h;split at h<;>first | cases h | skip
 simp_all;rfl
def avu{s:Sem Unit}(h:spec o=G)(b:Aj a o=V)(c:writing a o=V)(d:Wd a o=O s):lY C o a w next Q=WUp C.P s w (fun w'=>next (a.put o.dst undef) w') (fun v w'=>Q (.panic [{ v,recovered:=false }]) a w'):=by
 unfold lY;unfold spec at h;split at h<;>first | cases h | skip
 simp_all;rfl
def avv(h:o.op = .move u):sT C o a w ny=ny (a.put o.dst (a.eval u)):=by simp only[sT,h]
def avw(h:o.op = .assign u):sT C o a w ny=ny (a.put o.dst (a.eval u)):=by simp only[sT,h]
def avx(h:o.op = .pick z u v)(b:a.eval z = .bool A):sT C o a w ny=ny (a.put o.dst (a.eval u)):=by simp only[sT,h,b]
def avy(h:o.op = .pick z u v)(b:a.eval z = .bool G):sT C o a w ny=ny (a.put o.dst (a.eval v)):=by simp only[sT,h,b]
def avz(h:o.op = .nilCheck u):sT C o a w ny=WA (a.eval u) fun v=>ny (a.put o.dst v):=by simp only[sT,h];rfl
def avA(h:o.op = .call ⟨.value (.func k),args,DI⟩)(b:C.calls k=A):sT C o a w ny=CQp C.P k (j7 a args) w (fun v=>pX C o (fun v=>ny (a.put o.dst v)) v):=by simp only[sT,h,b];rfl
def avB(h:spec o=G)(b:Aj a o=O s):sT C o a w ny=PI C.P s w (fun v=>pX C o (fun v=>ny (a.put o.dst v)) v) NX:=by
 unfold sT;unfold spec at h;split at h<;>first | cases h | skip
 simp_all;rfl
def avC{p:BinOp}{b:_}(h:o.op = .binOp p t u v b):sT C o a w ny=PI C.P (bo p t u v (a.eval u) (a.eval v)) w (fun v=>pX C o (fun v=>ny (a.put o.dst v)) v) NX:=by simp only[sT,h,Aj];rfl
def avD(h:o.op = .move u):sU C o a S ny=ny (a.put o.dst (a.eval u)):=by simp only[sU,h]
def avE(h:o.op = .assign u):sU C o a S ny=ny (a.put o.dst (a.eval u)):=by simp only[sU,h]
def avF(h:o.op = .pick z u v)(b:a.eval z = .bool A):sU C o a S ny=ny (a.put o.dst (a.eval u)):=by simp only[sU,h,b]
def avG(h:o.op = .pick z u v)(b:a.eval z = .bool G):sU C o a S ny=ny (a.put o.dst (a.eval v)):=by simp only[sU,h,b]
def avH(h:o.op = .nilCheck u):sU C o a S ny=WA (a.eval u) fun v=>ny (a.put o.dst v):=by simp only[sU,h];rfl
def avI(h:spec o=G)(b:Aj a o=O s):sU C o a S ny=WB C.P s S (fun v=>pX C o (fun v=>ny (a.put o.dst v)) v):=by
 unfold sU;unfold spec at h;split at h<;>first | cases h | skip
 simp_all;rfl
def avJ(h:spec o=G)(b:Aj a o=V)(c:Wc a o=O s):sU C o a S ny=WB C.P s S (fun v=>ny (a.put o.dst v)):=by
 unfold sU;unfold spec at h;split at h<;>first | cases h | skip
 simp_all;rfl
def avK{p:BinOp}{b:_}(h:o.op = .binOp p t u v b):sU C o a S ny=WB C.P (bo p t u v (a.eval u) (a.eval v)) S (fun v=>pX C o (fun v=>ny (a.put o.dst v)) v):=by simp only[sU,h,Aj];rfl
def PK:∀ {l:Array Oper} {i:Nat} {o:Oper},Kq l.toList i=O o->l[i]?=O o:=by
 intro l i o h;rw[<- Array.getElem?_toList];generalize l.toList=L at h;induction L generalizing i with
 | nil=>cases h
 | cons a r ih=>cases i with
  | zero=>exact h
  | succ i=>rw[a2x];exact ih h
def avL(h:a19 .any ops L=[]):mQ C ops Q S m [] L a w=Q .normal a w:=by simp only[mQ,h]
def avM(b:Kq ops.toList i=O o)(c:(a19 .any ops L == [i])=A)(d:a2b o (yS ops a)=G) :
 mQ C ops Q S m (i::r) L a w=mQ C ops Q S m r (L.setIfInBounds i A) (a.put o.dst undef) w:=by have h:=PK b;simp only[mQ,h,c,d]
def avN(b:Kq ops.toList i=O o)(c:(a19 .any ops L == [i])=A)(d:a2b o (yS ops a)=A)(e:We a o=A) :
 mQ C ops Q S m (i::r) L a w=sT C o a w (fun a'=>mQ C ops Q S m r (L.setIfInBounds i A) a' w):=by have h:=PK b;simp only[mQ,h,c,d,e]
def avO(b:Kq ops.toList i=O o)(c:(a19 .any ops L == [i])=A)(d:a2b o (yS ops a)=A)(e:We a o=G)(f:uz m (L.setIfInBounds i A)=A) :
 mQ C ops Q S m (i::r) L a w=lY C o a w (fun a' w'=>S w'/\mQ C ops Q S m r (L.setIfInBounds i A) a' w') (NP (rj ops.toList) Q):=by have h:=PK b;simp only[mQ,h,c,d,e,f]
def avP(b:Kq ops.toList i=O o)(c:(a19 .any ops L == [i])=A)(d:a2b o (yS ops a)=A)(e:We a o=G)(f:uz m (L.setIfInBounds i A)=G) :
 mQ C ops Q S m (i::r) L a w=lY C o a w (fun a' w'=>mQ C ops Q S m r (L.setIfInBounds i A) a' w') (NP (rj ops.toList) Q):=by have h:=PK b;simp only[mQ,h,c,d,e,f]
def avQ(b:Kq ops.toList i=O o)(c:(a19 .any ops L == [i])=G)(d:((a19 .any ops L).contains i && Region.free .any ops L i && R2 .any ops L m i)=A)(e:a2b o (yS ops a)=G) :
 mQ C ops Q S m (i::r) L a w=mQ C ops Q S m r (L.setIfInBounds i A) (a.put o.dst undef) w:=by have h:=PK b;simp only[mQ,h,c,e,d]
def avR(b:Kq ops.toList i=O o)(c:(a19 .any ops L == [i])=G)(d:((a19 .any ops L).contains i && Region.free .any ops L i && R2 .any ops L m i)=A)(e:a2b o (yS ops a)=A) :
 mQ C ops Q S m (i::r) L a w=sU C o a S (fun a'=>mQ C ops Q S m r (L.setIfInBounds i A) a' w):=by have h:=PK b;simp only[mQ,h,c,e,d]
variable{x1 x2:Y}{f:Nat->Y}{j:Nat}{vs lv:List Nat}{sf df:Nat->Y}{al:List Operand}{ds:List Deferred}{pl:List (Nat×Operand)}
def avS:a.eval (.tmp i)=a.f i:=rfl
def avT{k:IntKind}{n:Int}:a.eval (.const (.int k n)) = .int k n:=rfl
def avU{b:Bool}:a.eval (.const (.bool b)) = .bool b:=rfl
def avV{l:List UInt8}:a.eval (.const (.string ⟨l.toArray⟩)) = aT l:=rfl
def avW:a.eval (.const ai) = ai:=rfl
def avX{p:Option Addr}:a.eval (.const (.pointer p)) = .pointer p:=rfl
def avY{p:Option Addr}{n c:Nat}:a.eval (.const (.slice p n c)) = .slice p n c:=rfl
def avZ{r:Option Nat}:a.eval (.const (.map r)) = .map r:=rfl
def av0{t:TypeId}{v:Y}:a.eval (.const (aj t v)) = aj t v:=rfl
def av4{l:Array Y}:a.eval (.const (ak l)) = ak l:=rfl
def av5:a.eval (.global i) = aq (O ⟨i,0,V⟩):=rfl
def av7:a.eval (.func i) = .func (.func i) #[] #[]:=rfl
def av8:(a.put V x1)=a:=rfl
def av9(h:a3b i j=A):(a.put (O j) x1).f i=x1:=by simp only[Env.put,Kg,h,cond]
def awa(h:a3b i j=G):(a.put (O j) x1).f i=a.f i:=by simp only[Env.put,Kg,h,cond]
def awb{d:Option Nat}:(a.put d x1).defers=a.defers:=by cases d<;>rfl
def awc(h:rP j lv=A):(fr a vs lv sf df).f j=sf j:=by simp only[fr,R3,h,cond]
def awd(h:rP j lv=G)(b:rP j vs=A):(fr a vs lv sf df).f j=df j:=by simp only[fr,R3,h,b,cond]
def awe(h:rP j lv=G)(b:rP j vs=G):(fr a vs lv sf df).f j=a.f j:=by simp only[fr,R3,h,b,cond]
def awf:(fr a vs lv sf df).defers=a.defers:=rfl
def awg:(wT []).f i=undef:=rfl
def awh{l:List Y}:(wT (x1::l)).f 0=x1:=rfl
def awi{l:List Y}:(wT (x1::l)).f (i+1)=(wT l).f i:=rfl
def awj{l:List Y}:(wT l).defers=[]:=rfl
def awk{α:Type}{c:Bool}{x y:α}(h:c=A):cond c x y=x:=by rw[h];rfl
def awl{α:Type}{c:Bool}{x y:α}(h:c=G):cond c x y=y:=by rw[h];rfl
def awm:j7 a al.toArray=(al.map a.eval).toArray:=rfl
def awn:R1 a pl.toArray=(pl.map fun x=>(x.1,a.eval x.2)).toArray:=rfl
def awo:MR a V=none:=rfl
def awp:MR a (O u)=O (a.eval u):=rfl
def awq(h:lv=[]):Ak a lv=[]:=by rw[h];rfl
def awr(h:lv=j::r):Ak a lv=(j,a.f j)::Ak a r:=by rw[h];rfl
def aws{K:Env->Prop}(h:lv=[]):qE lv a K=K a:=by rw[h];rfl
def awt{K:Env->Prop}(h:lv=i::r):qE lv a K=Sy (a.f i) (qE r (a.put (O i) (.bool A)) K) (qE r (a.put (O i) (.bool G)) K):=by rw[h];rfl
variable{fn:Func}{R:Ending->Z->Prop}{K1:List Y->Prop}{l:List Y}{rs WD:List ResultVar}
def awu(h:rs=[]):vo P rs f w l K1=K1 l:=by rw[h];rfl
def awv(h:rs = .tmp t::WD):vo P rs f w l K1=vo P WD f w (l++[f t]) K1:=by rw[h];rfl
def aww(h:rs = .cell j t::WD):vo P rs f w l K1=PI P (Instr.loadAt t (f j)) w (fun v=>vo P WD f w (l++[v]) K1) NX:=by rw[h];rfl
def awx:Km P fn R .normal a w=vo P fn.results.toList a.f w [] fun l=>R (ah (one l)) w:=rfl
def awy:Km P fn R .ret a w=vo P fn.results.toList a.f w [] fun l=>R (ah (one l)) w:=rfl
def awz{l:List PanicEntry}:Km P fn R (.panic l) a w=R (.panicked l) w:=rfl
def awA:M7 P fn R .normal a w=LV P (fun w=>vo P fn.results.toList a.f w [] fun l=>R (ah (one l)) w) R a.defers .returning w:=rfl
def awB:M7 P fn R .ret a w=LV P (fun w=>vo P fn.results.toList a.f w [] fun l=>R (ah (one l)) w) R a.defers .returning w:=rfl
def awC{l:List PanicEntry}:M7 P fn R (.panic l) a w=LV P (fun w=>vo P fn.results.toList a.f w [] fun l=>R (ah (one l)) w) R a.defers (.panicking l) w:=rfl
def awD:one [] = ak #[]:=rfl
def awE:one [x1]=x1:=rfl
def awF:one (x1::x2::l) = ak (x1::x2::l).toArray:=rfl
def awG:PI P s w K X=RD P s w K X:=rfl
def awH{K:Y->Z->Prop}:WRp P s w K X=WR P s w K X:=rfl
def awI{s:Sem Unit}{K:Z->Prop}:WUp P s w K X=WU P s w K X:=rfl
def awJ{args:Array Y}{K:Y->Z->Prop}{X:List PanicEntry->Z->Prop}:CAp P k args w K X=CA P k args w K X:=rfl
def awK{args:Array Y}:CQp P k args w K=CQ P k args w K:=rfl
def awL{args:Array Y}{K:Y->Z->Prop}{X:List PanicEntry->Z->Prop}:CVp P x1 args w K X=CV P x1 args w K X:=rfl
def awM{nm:String}{args:Array Y}{K:Y->Z->Prop}{X:List PanicEntry->Z->Prop}:CIp P x1 nm args w K X=CI P x1 nm args w K X:=rfl
def awN{B:Prop}:Sy x1 A0 B=BS x1 A0 B:=rfl
def awO{K:Fn->Array Y->Array Y->Prop}:DFp x1 K=DF x1 K:=rfl
def awP:WA x1 K=NC x1 K:=rfl
def awQ{F:((Nat->Y)->Z->Prop)->(Nat->Y)->(Nat->Y)->Z->Prop}:ajt F sf w=Pm F sf w:=rfl
def awR{F:((Nat->Y)->Z->Prop)->Prop}{R:(Nat->Y)->(Nat->Y)->Z->Prop}:JNp F R=JN F R:=rfl
def awS{F:((Nat->Y)->Z->Prop)->Prop}{R:(Nat->Y)->(Nat->Y)->Z->Prop}:JSp F R=JS F R:=rfl
def awT:WB P s S K=vi P s S K:=rfl
def awU{F:(Z->Prop)->Prop}:HDp F=HD F:=rfl
def awV:(fun v w'=>R (.panicked [{ v,recovered:=false }]) w')=PX R:=rfl
def awW:(fun v w'=>∀ _:Nat->Y,R (.panicked [{ v,recovered:=false }]) w')=PXA R:=rfl
def awX:(fun a w'=>∀ _:Nat->Y,R (.panicked a) w')=MN R:=rfl
def awY:(fun a w'=>R (.panicked a) w')=PC R:=rfl
end
def cqD{C:mD}(b:Good C){f:FuncId}{c:Code}{args:List Y}{w:Z}{S:Prop}(d:C.P.funcs[f]?=O fn)(e:fn.body=O c)
  (hk:(((wr c).all fun i=>decide (i<fn.ntmps)) && Nat.ble args.length fn.ntmps)=A) (he:qE [] (wT args) (fun a=>gD C c (M7 C.P fn R) a w)=S) (h:S):Calls C.P f args.toArray w R:=by
 simp only[Bool.and_eq_true] at hk;exact auj b d e hk.1 (Nat.le_of_ble_eq_true hk.2) [] he h
end Sx
def zX:=(a09 @auw (a09 @auy (a09 @auz (a09 @auA (a09 @auB (a09 @auC (a09 @auD (a09 @auE (a09 @auF (a09 @auG (a09 @auH (a09 @auI (a09 @auJ (a09 @auK (a09 @auL (a09 @auM (a09 @auN (a09 @auO (a09 @auP (a09 @auQ (a09 @auR (a09 @auS (a09 @auT (a09 @auU (a09 @auV (a09 @auW (a09 @auX (a09 @auY (a09 @auZ (a09 @au0 (a09 @au1 (a09 @au2 (a09 @au3 (a09 @au4 (a09 @au5 (a09 @au6 (a09 @au7 (a09 @au8 (a09 @au9 (a09 @avc (a09 @avd (a09 @ave (a09 @avf (a09 @avg (a09 @avh (a09 @avi (a09 @avk (a09 @avl (a09 @avm (a09 @avn (a09 @avo (a09 @avp (a09 @avq (a09 @avr (a09 @avt (a09 @avu (a09 @avv (a09 @avw (a09 @avx (a09 @avy (a09 @avz (a09 @avA (a09 @avB (a09 @avC (a09 @avD (a09 @avE (a09 @avF (a09 @avG (a09 @avH (a09 @avI (a09 @avJ (a09 @avK (a09 @avL (a09 @avM (a09 @avN (a09 @avO (a09 @avP (a09 @avQ (a09 @avR (a09 @avS (a09 @avT (a09 @avU (a09 @avV (a09 @avW (a09 @avX (a09 @avY (a09 @avZ (a09 @av0 (a09 @av4 (a09 @av5 (a09 @av7 (a09 @av8 (a09 @av9 (a09 @awa (a09 @awb (a09 @awc (a09 @awd (a09 @awe (a09 @awf (a09 @awg (a09 @awh (a09 @awi (a09 @awj (a09 @awk (a09 @awl (a09 @awm (a09 @awn (a09 @awo (a09 @awp (a09 @awq (a09 @awr (a09 @aws (a09 @awt (a09 @awu (a09 @awv (a09 @aww (a09 @awx (a09 @awy (a09 @awz (a09 @awA (a09 @awB (a09 @awC (a09 @awD (a09 @awE @awF))))))))))))))))))))))))))))))))))))))))))))))))))))))))))))))))))))))))))))))))))))))))))))))))))))))))))))))))))))))))))))
def zY:=(a09 @awG (a09 @awH (a09 @awI (a09 @awJ (a09 @awK (a09 @awL (a09 @awM (a09 @awN (a09 @awO (a09 @awP (a09 @awQ (a09 @awR (a09 @awS (a09 @awT (a09 @awU (a09 @awV (a09 @awW (a09 @awX @awY))))))))))))))))))
def zn{B:Prop}(h:A0=B:=by(simp (maxSteps:=10000000) (disch:=(refine id ?_;with_unfolding_all rfl)) only[↓zX,zY,List.map,List.nil_append,List.cons_append,List.toList_toArray,List.append_toArray];try rfl)):A0=B:=h
abbrev lE(p:Prop):Prop:=p
def ge l j t h b c s y:=Fe (zL l) (zO j) (zN t) (zO h) (zL b) (zL c) (zT s) (zT y)
def gd l j t h b c y:=Fe (zL l) (zO j) (zN t) (zO h) (zL b) (zL c) (fun _=>A) (zT y)
def gc l j y:=gd l j [] [] [] [] y
def cz {C:mD} (w:World) (R:Ending->World->Prop) (args:List Value) (b:Sx.Good C) {f:FuncId} {c:Code} {S:Prop} (d:C.P.funcs[f]?=some fn) (e:fn.body=some c:=by rfl)
  (hk:(nd c && ((wr c).all fun i=>decide (i<fn.ntmps)) && Nat.ble args.length fn.ntmps)=true:=by kernel_rfl) (he:qE [] (wT args) (fun a=>gD C c (Km C.P fn R) a w)=S:=by exact zn) (h:lE S):Calls C.P f args.toArray w R:=
 cq b d e hk he h
def cy {C:mD} (w:World) (R:Ending->World->Prop) (args:List Value) (b:Sx.Good C) {f:FuncId} {c:Code} {S:Prop} (d:C.P.funcs[f]?=some fn) (e:fn.body=some c:=by rfl)
  (hk:(((wr c).all fun i=>decide (i<fn.ntmps)) && Nat.ble args.length fn.ntmps)=true:=by kernel_rfl) (he:qE [] (wT args) (fun a=>gD C c (M7 C.P fn R) a w)=S:=by exact zn) (h:lE S):Calls C.P f args.toArray w R:=
 cqD b d e hk he h
end Go.Proofs.YtoegidfbnkaabaaGreatDoor
namespace Go.Proofs.YtoegidfbnkaabaaGreatDoor
open Go.Proofs.YtoegidfbnkaabaaGreatDoor.Sx
variable{cs:Array Y}{n:Nat}{v:Y}
section
variable{p0 p1 p2 p3 p4 p5 p6 p7:Y}{w:Z}{R:Ending->Z->Prop}
def aw2:=cz w R [p0] (gc [(4,[2,3]),(11,[6]),(19,[2,3,88])] [(2001,[]),(6000,[25]),(7001,[3]),(12001,[6]),(15000,[79]),(17002,[2,3])] [11,16,24,25,31,42,43,77,78,79,89,95]) Tryz.func84
def aw3:=cz w R [p0,p1,p2] (gc [] [(2000,[25]),(3008,[])] [23,24,25,29,30,33,37,38,41]) Tryz.func112
def aw4:=cz w R [p0] (gc [(1,[2])] [(4001,[]),(8001,[]),(13002,[]),(14000,[72]),(15001,[]),(17001,[])] [13,23,37,55,71,72,76]) Tryz.func46
def aw5:=cz w R [p0] (gc [] [] []) Tryz.func28
def aw6:=cz w R [p0,p1] (gc [] [] []) Tryz.func47
def abG:=cz w R [p0] (gd [] [] [(6,10)] [] [] [] [6,8,9,12,21,24]) Tryz.func23
end
namespace Sx
open Go
def GG(P:Program)(t:TypeId):Bool:=match P.underlying t with | some (.pointer _)=>A | _=>G
def WE(P:Program)(t:TypeId):Bool:=match P.underlying t with | some (.slice _)=>A | _=>G
def abH(P:Program)(t:TypeId):Bool:=match P.underlying t with | some (.map _ _)=>A | _=>G
def yT(P:Program)(t:TypeId):Bool:=match P.underlying t with | some (.interface _)=>A | _=>G
section
variable{P:Program}{t:TypeId}{x y:Operand}{w:Z}{K:Y->Prop}{X:Y->Z->Prop}
def ajz(h:GG P t=A)(p:Option Addr):(Op.equal t (.pointer p) (aq V)).run P w = .ok p.isNone w:=by
 grind [GG,run_equal_pointer_nil,Program.pointee]
def ajA(h:WE P t=A)(a:Option Addr)(n c:Nat):(Op.equal t (.slice a n c) bX).run P w = .ok a.isNone w:=by
 grind [WE,run_equal_slice_nil]
def aw7(h:abH P t=A)(r:Option Nat):(Op.equal t (.map r) (.map V)).run P w = .ok r.isNone w:=by
 grind [abH,run_equal_map_nil]
def Nc(h:GG P t=A)(p:Option Addr):RD P (bo .eql t x y (.pointer p) (aq V)) w K X=K (.bool p.isNone):=
 ij (by simp [bo,eqGuard,binOp,a1m,ajz h])
def abI(h:GG P t=A)(p:Option Addr):RD P (bo .neq t x y (.pointer p) (aq V)) w K X=K (.bool !p.isNone):=
 ij (by simp [bo,eqGuard,binOp,a1m,ajz h])
def ajB(h:WE P t=A)(p:Option Addr)(n c:Nat):RD P (bo .eql t x y (.slice p n c) bX) w K X=K (.bool p.isNone):=
 ij (by simp [bo,eqGuard,binOp,a1m,ajA h])
def aw8(h:WE P t=A)(p:Option Addr)(n c:Nat):RD P (bo .neq t x y (.slice p n c) bX) w K X=K (.bool !p.isNone):=
 ij (by simp [bo,eqGuard,binOp,a1m,ajA h])
def aw9(h:abH P t=A)(p:Option Nat):RD P (bo .eql t x y (.map p) (.map V)) w K X=K (.bool p.isNone):=
 ij (by simp [bo,eqGuard,binOp,a1m,aw7 h])
def GH(h:yT P t=A):P.underlying t=O (.interface (P.methodsAt t)):=by
 grind [yT,Program.methodsAt]
def ajC(h:yT P t=A)(u:TypeId)(v:Y):RD P (bo .eql t x y (aj u v) ai) w K X=K (.bool G):=
 ij (by simp [bo,eqGuard,binOp,a1m,run_equal_held_nil w t u v (GH h)])
def axa(h:yT P t=A)(u:TypeId)(v:Y):RD P (bo .neq t x y (aj u v) ai) w K X=K (.bool A):=
 ij (by simp [bo,eqGuard,binOp,a1m,run_equal_held_nil w t u v (GH h)])
def ajD(h:yT P t=A)(c:Y):RD P (bo .eql t x (.const c) ai ai) w K X=K (.bool A):=
 ij (by simp [bo,eqGuard,binOp,a1m,run_equal_nil_nil w t (GH h)])
def axb(h:yT P t=A)(c:Y):RD P (bo .neq t x (.const c) ai ai) w K X=K (.bool G):=
 ij (by simp [bo,eqGuard,binOp,a1m,run_equal_nil_nil w t (GH h)])
def ajE(P:Program)(T:TypeId):Option (Nat×TypeId):=match P.underlying T with | some (.array n e)=>O (n,e) | _=>V
def Sz(cs:Array Y)(i:Int)(K:Y->Prop)(D:Prop):RT (K,D):=match cs[i.toNat]? with | some v=>K v | none=>D
def abJ{i:Int}{K:Y->Prop}{D:Prop}(h:cs[i.toNat]?=O v):Sz cs i K D=K v:=by grind [Sz]
def axc{T e:TypeId}{k:IntKind}{i:Int}(h:ajE P T=O (n,e))(he:(Wu P e && sized P e 1)=A)(a:0<=i)(b:i<n) :
  RD P (a2P T (.agg cs) (.int k i)) w K X=Sz cs i K (GA P (a2P T (.agg cs) (.int k i)) w K X):=by
 unfold Sz;split
 .rename_i v hv;refine ij ?_;unfold ajE at h;split at h
  .rename_i c e' hu;simp only[a07,a1z] at h;obtain⟨rfl,rfl⟩:=h;simp only[Bool.and_eq_true] at he;simp only[a2P,a1m,asIntOf,a1V,a1k,run_underlying hu,zip (a09 a b),GD he.2,Nat.mul_one];unfold part;simp only[a1m,ajb he.1,a1k,hv];simp
  grind
 .rfl
end
def zG1:=a09 @aa9 (a09 @jI (a09 @aaJ (a09 @aaK (a09 @PE (a09 @PF (a09 @GB (a09 @GC (a09 @aaM (a09 @aaN (a09 @aaO (a09 @aaP (a09 @aaQ (a09 @aaR (a09 @aaS (a09 @aaT (a09 @aaU (a09 @aaX (a09 @aaY (a09 @aaV (a09 @aaW (a09 @aa3 (a09 @aa4 (a09 @aa5 (a09 @aa6 (a09 @Wy (a09 @aa0 (a09 @aba (a09 @abb (a09 @abJ (a09 @abc (a09 @abd (a09 @abe (a09 @abf (a09 @M9 (a09 @rR (a09 @qJ (a09 @jr (a09 @Sp (a09 @Ck (a09 @vp (a09 @size_alloc (a09 @Sw (a09 @abl (a09 @abg (a09 @abh (a09 @abi (a09 @abj (a09 @abk (a09 @abm (a09 @abn (a09 @abo (a09 @abp (a09 @abq (a09 @abr (a09 @abt (a09 @abu (a09 @abv (a09 @abw (a09 @abx (a09 @aby (a09 @abz (a09 @abA (a09 @abB (a09 @abC (a09 @abD (a09 @abE (a09 @Wz (a09 @u8w (a09 @Wt (a09 @aaG (@aaH)))))))))))))))))))))))))))))))))))))))))))))))))))))))))))))))))))))))
def zG2:=a09 @Int.toNat_natCast (a09 @Option.isNone_none.{0} (a09 @Option.isNone_some.{0} (a09 @a3d.{0} (a09 @a2w.{0} (a09 @a2x.{0} (a09 @List.setIfInBounds_toArray.{0} (a09 @List.set_cons_zero.{0} (a09 @List.set_cons_succ.{0} (a09 @List.size_toArray.{0} (a09 @List.length_cons.{0} (a09 @List.length_nil.{0} (a09 @List.drop_zero.{0} (a09 @List.drop_succ_cons.{0} (a09 @List.take_succ_cons.{0} (a09 @List.take_zero.{0} (a09 @List.take_nil.{0} (a09 @List.drop_nil.{0} (a09 @List.all_cons.{0} (a09 @List.all_nil.{0} (a09 @Bool.and_true (a09 @Bool.true_and (a09 @Nat.zero_add (a09 @Nat.add_zero (a09 @Nat.mul_one (a09 @and_self (a09 @and_true (a09 @true_and (a09 @decide_true (a09 @decide_false (a09 @Bool.not_true (a09 @Bool.not_false (a09 @not_true_eq_false (@not_false_eq_true)))))))))))))))))))))))))))))))))
def zA {p q : Prop} (a : p) (b : q) : p /\ q := ⟨a, b⟩
def zS := (zA @size_alloc (zA @Ck (zA @vp (zA @List.size_toArray.{0} (zA @List.length_cons.{0} @List.length_nil.{0})))))
def zq {p:Prop}(h:p:=by first|assumption|omega|simp only[zS]<;>omega|decide):p:=h
def zH := (zA @M9 (zA @rR (zA @qJ (zA @jr (zA @Sp (zA @Ck (zA @vp @size_alloc)))))))
def zG0 := (zA @Pr.eq_1 (zA @PX.eq_1 (zA @PC.eq_1 (zA @NX.eq_1 (zA @ends.eq_1 (zA @ends.eq_2 (zA @ends.eq_3 (zA @Fc.eq_1 (zA @Fc.eq_2 (zA @pD.eq_1 (zA @pD.eq_2 (zA @jv.eq_1 (zA @jv.eq_2 (zA @forall_const.{0} (zA @forall_const.{1} (zA @eq_self.{1} (zA zG1 zG2)))))))))))))))))
end Sx
