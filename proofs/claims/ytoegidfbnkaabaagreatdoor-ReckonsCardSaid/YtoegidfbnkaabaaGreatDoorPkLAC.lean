/- A part of one proof (SxM, ShG, SxP, ShS1, SxN). -/
import Derived.Test.YtoegidfbnkaabaaGreatDoorPkLAB
import Derived.WalkSpells
import Derived.Test.YtoegidfbnkaabaaGreatDoorProg
import Derived.Laws.Pointers
import Derived.Laws.Cover3
import Derived.WideLaws
set_option linter.all false
set_option maxRecDepth 100000
set_option maxHeartbeats 8000000
open Option renaming some → O, none → V
open Go renaming Value → Y, World → Z
open Bool renaming true → A, false → G
open Go.Obj renaming cells → ae
open Go.Ending renaming returned → ah
open Go.Value renaming nilIface → ai, iface → aj, tuple → ak, pointer → aq
open Option.some renaming injEq → a1o
open And renaming intro → a1q
open Go.Result renaming andThen_ok → a1B
open Go.Sem renaming run_bind → a1C, run_pure → a2i
open Go.Value renaming string → a1N, pointer → a2h
open Prod.mk renaming injEq → a1P
open Go.Instr renaming sliceAt → a2l, buildSlice → a2s, index → a3b, extract → a4m, fill → a5T
open Go.Region renaming ready → a2r, wanted → a2t
open List renaming getElem?_cons_zero → a2Q, getElem?_cons_succ → a2R, getElem?_toArray → a3w
open Go.Builtin renaming len_ → a29
open ByteArray renaming size → a3t
open Nat renaming beq → a3u
namespace Go.Proofs.YtoegidfbnkaabaaGreatDoor
variable{A0:Prop}{K:Y->Prop}{R:Ending->Z->Prop}{X:Y->Z->Prop}{b c cap e i j n o pb:Nat}{cs:Array Y}{fn:Func}{l:Int}{u v:Y}{ET:IntKind}{w:Z}
namespace Sx
open Go
section
variable{P:Program}{T:TypeId}{b o:Nat}{w:Z}{K:Y->Prop}{X:Y->Z->Prop}
def ai1(P:Program)(s:TypeId)(i:Nat):Option Nat:=
 match P.underlying s with
 | some (.struct fs)=>match fs[i]? with
  | some f=>match P.info? f.type with
   | some t=>if t.size=0 then V else O f.offset
   | none=>V
  | none=>V
 | _=>V
theorem addr_add(b o n:Nat):(⟨b,o,V⟩:Addr).add n=⟨b,o+n,V⟩:=by
 unfold Addr.add;split<;>simp_all
def fB(h:ai1 P T i=O n):RD P (Instr.fieldAt T (aq (O ⟨b,o,V⟩)) i) w K X=K (aq (O ⟨b,o+n,V⟩)):=by
 refine gQ ?_;unfold ai1 at h;split at h
 .rename_i fs hu;split at h
  .rename_i f a;split at h
   .rename_i t ht;split at h
    .grind
    .rename_i c;cases h;have d:(sizeOf f.type).run P w = .ok t.size w:=(by grind [Gm,sized]);simp only[Instr.fieldAt,a1C,run_underlying hu,a1B,a,Instr.sureAddr,a2i,fieldPlace,d,bM c,addr_add]
   grind
  grind
 grind
def Sh(P:Program)(T:TypeId):Option Nat:=
 match P.underlying T with
 | some (.slice e)=>(P.info? e).map (·.size)
 | _=>V
def aaS(h:Sh P T=O n):∃ e,P.underlying T=O (.slice e)/\sized P e n=true:=by
 grind [Sh,sized]
theorem H9{e:TypeId}(h:P.underlying T=O (.slice e)):P.elem T=e:=by grind [Program.elem]
def Ag(h:Sh P T=O n){k:IntKind}{i:Int}(a:0<=i)(c:i<pb) :
  RD P (Instr.indexAt T (.slice (O ⟨b,o,V⟩) pb cap) (.int k i)) w K X=K (aq (O ⟨b,o+i.toNat*n,V⟩)):=by
 obtain⟨e,he,d⟩:=aaS h;refine gQ ?_;rw[run_indexAt_slice w T _ _ _ _ _ (by rw[H9 he];exact he),zip ⟨a,c⟩,H9 he,Gm d];grind [a1B,addr_add]
def Bf{t:TypeId}{e:TypeId}(h:P.underlying t=O (.slice e)){a:Option Addr} :
  RD P (a29 #[t] T #[.slice a n c]) w K X=K (.int .i64 n):=
 gQ (run_len_slice w t T a n c (by grind [H9]))
def auf{t:TypeId}(h:P.underlying t=O .string){l:List UInt8} :
  RD P (a29 #[t] T #[.string (bs l)]) w K X=K (.int .i64 l.length):=by
 refine gQ ?_;have e:(bs l).size=l.length:=by simp [a3t]
 simp only[a29,a3w,a2Q,a1C,run_underlying h,a1B,a2i,goInt,e]
def aug{t:TypeId}(h:P.underlying t=O .string){l:List UInt8}{k:IntKind}{i:Int}(b:0<=i)(c:i<l.length) :
  RD P (a3b t (.string (bs l)) (.int k i)) w K X=K (.int .u8 ((l.getD i.toNat 0).toNat)):=by
 refine gQ ?_;have e:(bs l)[i.toNat]?=O (l.getD i.toNat 0):=by
  have d:i.toNat<l.length:=zo;have a:i.toNat<(bs l).size:=by grind [a3t]
  rw[getElem?_pos (bs l) i.toNat a]
  congr 1
  show l.toArray[i.toNat]=_;grind
 simp only[a3b,a1C,asIntOf,a2i,a1B,run_underlying h,zip b,e]
def aaT{vs:Array Y}(h:vs[i]?=O v):RD P (a4m (ak vs) i) w K X=K v:=by
 refine gQ ?_;simp only[a4m,h];rfl
def aaU{l:List Y}:RD P (a4m (ak (v::l).toArray) 0) w K X=K v:=aaT zs
def aaV{l:List Y}:RD P (a4m (ak (u::v::l).toArray) 1) w K X=K v:=aaT zs
def aaW{x:Y}{l:List Y}:RD P (a4m (ak (u::x::v::l).toArray) 2) w K X=K v:=aaT zs
def aaX{t:TypeId}:RD P (Instr.panic (aj t v)) w K X=X (aj t v) w:=auc J
def Ph(h:Sh P T=O n){k:IntKind}(b:0<=l)(c:l<=pb){a:Option Addr} :
  RD P (a2l T (.slice a pb cap) (O (.int k l)) V V) w K X=K (sliced a l.toNat pb cap n):=by
 obtain⟨e,he,d⟩:=aaS h;refine gQ ?_;rw[run_sliceAt_slice w T _ _ _ _ (by rw[H9 he];exact he),run_slice_l w T a pb cap (by rw[H9 he];exact he) k l b c,H9 he,Gm d];rfl
def Si(h:Sh P T=O n){k:IntKind}(b:0<=l)(c:l<=cap){a:Option Addr} :
  RD P (a2l T (.slice a pb cap) V (O (.int k l)) V) w K X=K (sliced a 0 l.toNat cap n):=by
 obtain⟨e,he,d⟩:=aaS h;refine gQ ?_;rw[run_sliceAt_slice w T _ _ _ _ (by rw[H9 he];exact he),run_slice_h w T a pb cap (by rw[H9 he];exact he) k l b c,H9 he,Gm d];rfl
def ai2(l:List UInt8)(i j:Nat):(bs l).extract i j=bs ((l.take j).drop i):=by
 apply ByteArray.ext;grind [ByteArray.data_extract,Array.ext',Array.toList_extract,List.drop_take]
def aui{t:TypeId}(h:P.underlying t=O .string){s:List UInt8}{k:IntKind}(a:0<=l)(b:l<=s.length) :
  RD P (a2l t (.string (bs s)) (O (.int k l)) V V) w K X=K (.string (bs (s.drop l.toNat))):=by
 refine gQ ?_;have e:(bs s).size=s.length:=by simp [a3t]
 simp only[a2l,Instr.slice,a1C,run_underlying h,a1B,Option.isSome,Bool.false_eq_true,if_false,Instr.sliceBounds,a2i,
  run_sliceBound w k l s.length _ a b,ai2,e,List.take_length]
def auj{t:TypeId}(h:P.underlying t=O .string){s:List UInt8}{k:IntKind}{m:Int}(a:0<=l)(b:l<=m)(c:m<=s.length) :
  RD P (a2l t (.string (bs s)) (O (.int k l)) (O (.int ET m)) V) w K X=K (.string (bs ((s.take m.toNat).drop l.toNat))):=by
 refine gQ ?_;have e:(bs s).size=s.length:=by simp [a3t]
 simp only[a2l,Instr.slice,a1C,run_underlying h,a1B,Option.isSome,Bool.false_eq_true,if_false,Instr.sliceBounds,a2i,
  run_sliceBound w ET m (bs s).size _ zo zo,run_sliceBound w k l m.toNat _ a zo,ai2]
def EU(pl:List (Nat×Nat))(cells:Array Y):List (Nat×Y)->Option (Array Y)
 | []=>O cells
 | (i,v)::r=>match pl[i]? with
  | none=>V
  | some (off,size)=>if v.cells.toList.length=size/\off+size<=cells.size then EU pl (po cells off v.cells.toList) r else V
def ai3(off:Nat):∀ (l:List Y) (k:Nat) (cs:Array Y),(l.zipIdx k).foldl (fun cs (c,j)=>cs.setIfInBounds (off+j) c) cs=po cs (off+k) l
 | [],_,_=>rfl
 | v::r,k,cs=>by
  simp only[List.zipIdx_cons,List.foldl_cons,po];rw[ai3 off r (k+1)];rfl
theorem aaY{place:Nat->Option (Nat×Nat)}{pl:List (Nat×Nat)}(a:∀ i x,pl[i]?=O x->place i=O x):∀ (l:List (Nat×Y)) (cs:Array Y) (r:Array Y),EU pl cs l=O r->a5T place cs l=O r
 | [],cs,r,h=>h
 | (i,v)::l,cs,r,h=>by
  unfold EU at h;unfold a5T;cases hi:pl[i]? with
  | none=>grind
  | some x=>
   obtain⟨off,size⟩:=x;rw[hi] at h;dsimp only at h;rw[a i _ hi];dsimp only;split at h
   .rename_i d;have b:v.cells.size=size:=zg;rw[bM (by rw[b];simp;omega)];have e:=ai3 off v.cells.toList 0 cs;rw[Nat.add_zero] at e;have c:(v.cells.zipIdx.foldl (fun cs (x:Y×Nat)=>cs.setIfInBounds (off+x.2) x.1) cs)=po cs off v.cells.toList:=by
     grind [Array.toList_zipIdx]
    rw[c];exact aaY a l _ r h
   grind
def places(P:Program):List Field->Option (List (Nat×Nat))
 | []=>O []
 | f::r=>match P.info? f.type,places P r with
  | some i,O l=>O ((f.offset,i.size)::l)
  | _,_=>V
def ai4(P:Program)(T:TypeId):Option (Array Y×List (Nat×Nat)):=
 match Ae P T,P.underlying T with
 | some z,O (.struct fs)=>(places P fs.toList).map fun l=>(z.cells,l)
 | _,_=>V
def ai5{w:Z}:∀ (l:List Field) (r:List (Nat×Nat)),places P l=O r->(l.mapM fun(f:Field)=>(do pure (f.offset,<- sizeOf f.type):Sem (Nat×Nat))).run P w = .ok r w
 | [],r,h=>by simp only[places,a1o] at h;subst h;rfl
 | f::l,r,h=>by
  unfold places at h;split at h
  .rename_i i q hi a;cases h;have ih:=ai5 (w:=w) l q a;have b:(sizeOf f.type).run P w = .ok i.size w:=(by grind [Gm,sized]);rw[List.mapM_cons];simp only[a1C,b,a1B,a2i,ih]
  grind
def Wv(x:Option (Array Y))(K:Y->Prop)(D:Prop):RT (K,D):=
 match x with
 | some cs=>K (.agg cs)
 | none=>D
def sL{z:Array Y}{pl:List (Nat×Nat)}(h:ai4 P T=O (z,pl)){parts:Array (Nat×Y)} :
  RD P (Instr.build T parts) w K X=Wv (EU pl z parts.toList) K (Gj P (Instr.build T parts) w K X):=by
 unfold Wv;split
 .rename_i cs f;refine gQ ?_;unfold ai4 at h;split at h
  .rename_i b fs c hu;cases a:places P fs.toList with
   | none=>grind
   | some l=>
    rw[a] at h;simp only[Option.map_some,a1o,a1P] at h;obtain⟨rfl,rfl⟩:=h;have d:=ai5 (w:=w) fs.toList l a;have e:a5T (l.toArray[·]?) b.cells parts.toList=O cs:=(by grind [aaY]);simp only[Instr.build,a1C,ES c,a1B,run_underlying hu];rw[Array.mapM_eq_mapM_toList];simp only[Sem.run_map,d,a1B,e];rfl
  grind
 .rfl
def ai6(P:Program)(T n:Nat):Option (TypeId×Array Y×List (Nat×Nat)):=
 match P.underlying T with
 | some (.slice e)=>match P.info? e,Ae P e with
  | some i,O z=>if n*i.size=0\/n*i.size > 2 ^ 24 then V else O (e,(Array.range (n*i.size)).map (z.cells[· % z.cells.size]!),(List.range n).map fun j=>(j*i.size,i.size))
  | _,_=>V
 | _=>V
def Ww(x:Option (Array Y))(e n:Nat)(w:Z)(K:Y->Z->Prop)(D:Prop):RT (K,D):=
 match x with
 | some cs=>K (.slice (O ⟨w.heap.size,0,V⟩) n n) (w.alloc (ae cs e))
 | none=>D
def v8{e:TypeId}{z:Array Y}{pl:List (Nat×Nat)}(h:ai6 P T n=O (e,z,pl)){parts:Array (Nat×Y)}{K:Y->Z->Prop} :
  WR P (a2s T n parts) w K X=Ww (EU pl z parts.toList) e n w K (WR0 P (a2s T n parts) w K X):=by
 unfold Ww;split
 .rename_i cs k;refine xF ?_;unfold ai6 at h;split at h
  .rename_i e' hu;split at h
   .rename_i i a hi b;split at h
    .grind
    .rename_i l;simp only[a1o,a1P] at h;obtain⟨rfl,rfl,rfl⟩:=h;have c:(sizeOf e').run P w = .ok i.size w:=(by grind [Gm,sized]);have d:a5T (fun j=>O (j*i.size,i.size)) ((Array.range (n*i.size)).map (a.cells[· % a.cells.size]!)) parts.toList=O cs:=
      (by grind [aaY,List.range,List.getElem?_eq_some_iff])
     have f:¬ (n*i.size > 2 ^ 24):=zo;have g:¬ (n*i.size=0):=zo;simp only[a2s,a1C,run_underlying hu,a1B,c,bM f,bM g,a2i,ES b,d];simp only[newRow,newObj,a1C,Sem.run,a1B,a2i];rfl
   exact yH
  exact yH
 .rfl
def JY(P:Program)(T:TypeId):Bool:=
 match P.underlying T with
 | some (.interface _)=>G
 | some _=>A
 | none=>G
def Dz(h:JY P T=A){K:Y->Z->Prop}:WR P (Instr.makeInterface T v) w K X=K (aj T v) w:=by
 refine xF ?_;unfold JY at h;unfold Instr.makeInterface underlying;simp only[a1C,program,Sem.run,a1B];grind [a2i,a1B]
def Wx{fn:Fn}{x y:Array Y}{K:Y->Z->Prop}:WR P (Instr.makeFunc fn x y) w K X=K (.func fn x y) w:=xF J
end
def auk{P:Program}{src dst:TypeId}{kd:IntKind}(a:(P.underlying src).isSome=A)(b:P.underlying dst=O (.int kd)){k:IntKind}{n:Int}{K:Y->Z->Prop} :
  WR P (convert src dst (.int k n)) w K X=K (.int kd (kd.wrap n)) w:=by
 have e:P.intKind dst=kd:=by grind [Program.intKind]
 refine xF ?_;grind [run_convert_int]
def u8w{x:Int}(a:0<=x)(b:x<=255):IntKind.u8.wrap x=x:=by
 unfold IntKind.wrap;have c:(2 ^ IntKind.u8.bits:Int)=256:=zd;have d:IntKind.u8.signed=false:=rfl;grind
def cQ{P:Program}{s:Sem Y}{S:Z->Prop}(v:Y)(h:∀ w',S w'->RD P s w' (fun u=>u=v) NX)(hk:K v):uY P s S K:=by
 refine⟨v,fun w' b=>?_,hk⟩;have a:=h w' b;unfold RD at a;cases hr:s.run P w' with
 | ok u c=>grind
 | halt x c=>rw[hr] at a;cases x<;>exact a.elim
def Pr(p:Prop):Prop:=p
def toPr{p:Prop}(h:Pr p):p:=h
def ldV(x:Option Y)(K:Y->Prop)(D:Prop):RT (K,D):=
 match x with | some v=>K v | none=>D
theorem Sj{x y:Obj}:bQ (bQ w b x) b y=bQ w b y:=by unfold bQ;simp
def aa0{F:((Nat->Y)->Z->Prop)->Prop}{R:(Nat->Y)->(Nat->Y)->Z->Prop}:JN F R=F (fun s w=>∀ d,R s d w):=rfl
def aa1{U:TypeId}{z:Nat×Nat}{D:Prop}:Wu (O (ae cs U z)) o K D=ldV (cs[o]?) K D:=rfl
def aa2{D:Prop}:ldV (O v) K D=K v:=rfl
def aa3{U:TypeId}{z:Nat×Nat}{D:Prop}(h:o+n<=cs.size):ME (O (ae cs U z)) o n K D=K (.agg ((cs.toList.drop o).take n).toArray):=by
 unfold ME;grind
def aa4{U:TypeId}{K:Z->Prop}{D:Prop}(h:o+n<=cs.size) :
  Sg (O (ae cs U (0,0))) w b o n v K D=if v.cells.toList.length=n/\(v.cells.toList.all Value.oneCell')=A then K (bQ w b (ae (po cs o v.cells.toList) U (0,0))) else D:=by
 simp [Sg,h]
def aa5{D:Prop}:Wv (O cs) K D=K (.agg cs):=rfl
def aa6{K:Y->Z->Prop}{D:Prop}:Ww (O cs) e n w K D=K (.slice (O ⟨w.heap.size,0,V⟩) n n) (w.alloc (ae cs e)):=rfl
def aa7(a:Array Y):(Value.agg a).cells=a:=rfl
def aa8(s:ByteArray):(a1N s).cells=#[.string s]:=rfl
def aa9(k:IntKind)(n:Int):(Value.int k n).cells=#[.int k n]:=rfl
def aba(a:Option Addr)(n c:Nat):(Value.slice a n c).cells=#[.slice a n c]:=rfl
def abb(a:Option Addr):(a2h a).cells=#[.pointer a]:=rfl
def abc(l:List Y):(Value.agg l.toArray).cells.toList=l:=rfl
def abd(k:IntKind)(n:Int):(Value.int k n).cells.toList=[.int k n]:=rfl
def abe(b:Bool):(Value.bool b).cells.toList=[.bool b]:=rfl
def abf(s:ByteArray):(a1N s).cells.toList=[.string s]:=rfl
def abg(a:Option Addr)(n c:Nat):(Value.slice a n c).cells.toList=[.slice a n c]:=rfl
def abh(a:Option Addr):(a2h a).cells.toList=[.pointer a]:=rfl
def abi(t:TypeId)(v:Y):(Value.iface t v).cells.toList=[aj t v]:=rfl
def abj:Value.nilIface.cells.toList=[ai]:=rfl
def abk(f:Fn)(x y:Array Y):(Value.func f x y).cells.toList=[.func f x y]:=rfl
def abl(r:Option Nat):(Value.map r).cells.toList=[.map r]:=rfl
def abm(k:IntKind)(n:Int):(Value.int k n).oneCell'=true:=rfl
def abn(b:Bool):(Value.bool b).oneCell'=true:=rfl
def abo(s:ByteArray):(a1N s).oneCell'=true:=rfl
def abp(a:Option Addr)(n c:Nat):(Value.slice a n c).oneCell'=true:=rfl
def abq(a:Option Addr):(a2h a).oneCell'=true:=rfl
def abr(t:TypeId)(v:Y):(Value.iface t v).oneCell'=true:=rfl
def abt:Value.nilIface.oneCell'=true:=rfl
def abu(f:Fn)(x y:Array Y):(Value.func f x y).oneCell'=true:=rfl
def abv(r:Option Nat):(Value.map r).oneCell'=true:=rfl
theorem we{x:Int}(a:-9223372036854775808<=x)(b:x<=9223372036854775807):IntKind.i64.wrap x=x:=by
 unfold IntKind.wrap;have c:(2 ^ IntKind.i64.bits:Int)=18446744073709551616:=zd;have d:(2 ^ (IntKind.i64.bits-1):Int)=9223372036854775808:=zd;have e:IntKind.i64.signed=true:=rfl;grind
end Sx
open Go.Proofs.YtoegidfbnkaabaaGreatDoor.Sx
def _root_.Go.Proofs.YtoegidfbnkaabaaGreatDoor.Sx.aul:Tryz.prog.follows .mixedOrders=true:=zk
def ai8(k:Nat):Bool:=[2,3,4,5,6,7,8,9,10,11,12,13,14,15,16,17,18,19,20,21,22,23,24,25,26,27,28,29,30,31,32,33,34,35,36,37,38,39,40,41,42,43,44,45,46,47,48,49,50,51,52,53,57,58,59,60,61,62,63,64,65,66,67,68,69,70,71,72,73,74,75,76,77,78,79,80,81,82,83,84,85,86,90,91,92,93,94,95,96,97,98,99,100,101,102,103,104,105,106,107,108,109,111,112,113,114,115,116,117,118,119,120,121,122,123,124,125,126,127,128,129,130,131,132,133,134,135,136,137,138,139,140,141,142,143,144,145,146,147,148,149,151,152,153,154,155,156,157,158,159,160,161,162,163,164,165,166,168,169,170,171,172,173,174,175,177,178,179,180,181,202,205,206,207,208,209,210,211,212,213,214,215,216,217,218,219,220,221,222,223,224,225,226,227,228,248,264].contains k
def aum:([2,3,4,5,6,7,8,9,10,11,12,13,14,15,16,17,18,19,20,21,22,23,24,25,26,27,28,29,30,31,32,33,34,35,36,37,38,39,40,41,42,43,44,45,46,47,48,49,50,51,52,53,57,58,59,60,61,62,63,64,65,66,67,68,69,70,71,72,73,74,75,76,77,78,79,80,81,82,83,84,85,86,90,91,92,93,94,95,96,97,98,99,100,101,102,103,104,105,106,107,108,109,111,112,113,114,115,116,117,118,119,120,121,122,123,124,125,126,127,128,129,130,131,132,133,134,135,136,137,138,139,140,141,142,143,144,145,146,147,148,149,151,152,153,154,155,156,157,158,159,160,161,162,163,164,165,166,168,169,170,171,172,173,174,175,177,178,179,180,181,202,205,206,207,208,209,210,211,212,213,214,215,216,217,218,219,220,221,222,223,224,225,226,227,228,248,264].all (zR Tryz.prog))=true:=zk
def EV(l:Nat->List Nat)(j:Nat->Option (List Nat))(t:Nat->Nat)(a:Nat->Option (List Nat))(bl bj:Nat->List Nat)(sm sy:Nat->Bool):Sx.Good { P:=Tryz.prog,B:=fun t=>t == 4,calls:=ai8,live:=l,join:=j,tail:=t,held:=a,bl:=bl,bj:=bj,sum:=sm,sy:=sy }:=
 ⟨aul,fun k hk=>List.all_eq_true.1 aum k (by simpa [ai8] using hk)⟩
abbrev aT (x : List UInt8) : Y := .string (bs x)
abbrev aO (x : Array Y) (T : Nat) : Option Obj := O (ae x T)
abbrev cS (b n c : Nat) : Y := .slice (O ⟨b, 0, V⟩) n c
abbrev bW : Y := .slice V 0 0
abbrev pp (b : Nat) : Y := aq (O ⟨b, 0, V⟩)
abbrev pq (b o : Nat) : Y := aq (O ⟨b, o, V⟩)
abbrev zi (n : Int) : Y := .int .i64 n
def zT (l : List Nat) (n : Nat) : Bool := match l with
 | [] => G
 | a :: r => cond (a3u a n) A (zT r n)
def zL (l : List (Nat × List Nat)) (n : Nat) : List Nat := match l with
 | [] => []
 | (a, b) :: r => cond (a3u a n) b (zL r n)
def zN (l : List (Nat × Nat)) (n : Nat) : Nat := match l with
 | [] => 0
 | (a, b) :: r => cond (a3u a n) b (zN r n)
def zO (l : List (Nat × List Nat)) (n : Nat) : Option (List Nat) := match l with
 | [] => V
 | (a, b) :: r => cond (a3u a n) (O b) (zO r n)
open Go
namespace Sx
def zr{p:Prop}(h:p:=by with_unfolding_all rfl):p:=h
def ai9{α:Type}(x:α):tid x=x:=rfl
def Pk(P:Program)(s:Sem Y)(w:Z)(K:Y->Prop)(X:Y->Z->Prop):Prop:=RD P s w K X
def WRp(P:Program)(s:Sem Y)(w:Z)(K:Y->Z->Prop)(X:Y->Z->Prop):Prop:=WR P s w K X
def WUp(P:Program)(s:Sem Unit)(w:Z)(K:Z->Prop)(X:Y->Z->Prop):Prop:=WU P s w K X
def CAp(P:Program)(k:FuncId)(args:Array Y)(w:Z)(K:Y->Z->Prop)(X:List PanicEntry->Z->Prop):Prop:=CA P k args w K X
def CQp(P:Program)(k:FuncId)(args:Array Y)(w:Z)(K:Y->Prop):Prop:=CQ P k args w K
def CVp(P:Program)(f:Y)(args:Array Y)(w:Z)(K:Y->Z->Prop)(X:List PanicEntry->Z->Prop):Prop:=CV P f args w K X
def CIp(P:Program)(v:Y)(name:String)(args:Array Y)(w:Z)(K:Y->Z->Prop)(X:List PanicEntry->Z->Prop):Prop:=CI P v name args w K X
def Sk(v:Y)(a B:Prop):Prop:=BS v a B
def DFp(v:Y)(K:Fn->Array Y->Array Y->Prop):Prop:=DF v K
def Wy(v:Y)(K:Y->Prop):Prop:=NC v K
def ajh(F:((Nat->Y)->Z->Prop)->(Nat->Y)->(Nat->Y)->Z->Prop)(s0:Nat->Y)(w0:Z):Prop:=O0 F s0 w0
def JNp(F:((Nat->Y)->Z->Prop)->Prop)(R:(Nat->Y)->(Nat->Y)->Z->Prop):Prop:=JN F R
def JSp(F:((Nat->Y)->Z->Prop)->Prop)(R:(Nat->Y)->(Nat->Y)->Z->Prop):Prop:=JS F R
def Wz(P:Program)(s:Sem Y)(S:Z->Prop)(K:Y->Prop):Prop:=uY P s S K
def HDp(F:(Z->Prop)->Prop):Prop:=HD F
section
variable{LL:List Oper}{C:mD}{P:Program}{o:Oper}{ops:Array Oper}{rest:List Oper}{a:Env}{w:Z}{next:Env->Z->Prop}{ns:Env->Prop}{Q:Exit->Env->Z->Prop}{c x y:Code}{K:Y->Prop}{S:Z->Prop}{m:Option Nat}{r:List Nat}{L:Array Bool}{i:Nat}
def JZ:List Oper->Nat->Option Oper
 | [],_=>V
 | o::_,0=>O o
 | _::r,i+1=>JZ r i
def aun(h:C.join (EN x)=V):gn C (.seq x y) Q a w=gn C x (B5 (gn C y Q) Q) a w:=by simp only[gn,h]
def auo{l:List Nat}(h:C.join (EN x)=O l)(b:nd x=A)(c:C.sum (EN x)=G):gn C (.seq x y) Q a w =
 JNp (fun j=>gn C x (B5 (fun a' w'=>j (jg (zV a' l)) w') Q) a w) (fun s d w=>qt (C.bj (EN x)) (fr a (wr x) l s d) fun a=>gn C y Q a w):=by simp only[gn,h,b,c];rfl
def aup{l:List Nat}(h:C.join (EN x)=O l)(b:nd x=A)(c:C.sum (EN x)=A):gn C (.seq x y) Q a w =
 JSp (fun j=>gn C x (B5 (fun a' w'=>j (jg (zV a' l)) w') Q) a w) (fun s d w=>qt (C.bj (EN x)) (fr a (wr x) l s d) fun a=>gn C y Q a w):=by simp only[gn,h,b,c];rfl
def auq:gn C .skip Q a w=Q .normal a w:=rfl
def aur{l:List Oper}{id:Nat}:gn C (.region id l.toArray G) Q a w=xB C l.toArray Q l a w:=rfl
def aus{id:Nat}(h:C.held id=V)(b:We ops (C.tail id)=A):gn C (.region id ops A) Q a w =
 A8 C ops w.drew (fun a'=>xB C ops Q (ops.toList.drop (C.tail id)) a' w.drew) (ops.toList.take (C.tail id)) a:=by simp only[gn,h,b]
def aut{id m:Nat}{l:List Nat}(h:C.held id=O (m::l))(b:(l.length == ops.size && Region.noSelect ops)=A):gn C (.region id ops A) Q a w =
 HDp fun S=>S w.drew/\mQ C ops Q S (Z9 m) l (Array.replicate ops.size G) a w.drew:=by simp only[gn,h,b];rfl
def auu{d:Operand}(h:Wf C d=A):gn C (.cond d x y) Q a w=Sk (a.eval d) (gn C x Q a w) (gn C y Q a w):=by simp only[gn,h];rfl
def auv{d:Operand}(h:Wf C d=G)(b:a.eval d = .bool A):gn C (.cond d x y) Q a w=gn C x Q a w:=by simp only[gn,h,b]
def auw{d:Operand}(h:Wf C d=G)(b:a.eval d = .bool G):gn C (.cond d x y) Q a w=gn C y Q a w:=by simp only[gn,h,b]
def auy{id:Nat}:gn C (.block id c) Q a w=gn C c (Ge id Q) a w:=rfl
def auz{id:Nat}:gn C (.exit id) Q a w=Q (.exit id) a w:=rfl
def auA:gn C .ret Q a w=Q .ret a w:=rfl
def auB{l:Nat}:gn C (.label l) Q a w=Q .normal a w:=rfl
def auC:gn C (.scope c) Q a w=gn C c (O2 Q) a w:=rfl
def auD(h:nd c=A):gn C (.loop c) Q a w=ajh (fun rec s d w=>qt (C.bl (H4 c)) (fr a (wr c) (C.live (H4 c)) s d) fun a=>gn C c (B5 (fun a' w'=>rec (jg (zV a' (C.live (H4 c)))) w') Q) a w)
 (jg (zV a (C.live (H4 c)))) w:=by simp only[gn,h];rfl
def auE:B5 next Q .normal a w=next a w:=rfl
def auF:B5 next Q (.exit i) a w=Q (.exit i) a w:=rfl
def auG:B5 next Q .ret a w=Q .ret a w:=rfl
def auH{l:List PanicEntry}:B5 next Q (.panic l) a w=Q (.panic l) a w:=rfl
def auI:B5 next Q (.goto i) a w=Q (.goto i) a w:=rfl
def auJ:Ge i Q .normal a w=Q .normal a w:=rfl
def auK(h:a3u j i=A):Ge i Q (.exit j) a w=Q .normal a w:=by simp only[Ge,h,ai9,cond]
def auL(h:a3u j i=G):Ge i Q (.exit j) a w=Q (.exit j) a w:=by simp only[Ge,h,ai9,cond]
def auM:Ge i Q .ret a w=Q .ret a w:=rfl
def auN{l:List PanicEntry}:Ge i Q (.panic l) a w=Q (.panic l) a w:=rfl
def auO:O2 Q .normal a w=Q .normal a w:=rfl
def auP:O2 Q (.exit i) a w=Q (.exit i) a w:=rfl
def auQ:O2 Q .ret a w=Q .ret a w:=rfl
def auR{l:List PanicEntry}:O2 Q (.panic l) a w=Q (.panic l) a w:=rfl
def auS{d:List Nat}:NP d Q .normal a w=Q .normal a w:=rfl
def auT{d:List Nat}{l:List PanicEntry}:NP d Q (.panic l) a w=∀ f:Nat->Y,Q (.panic l) { a with f:=fun t=>cond (rG t d) (f t) (a.f t) } w:=rfl
def auU(b:LL=[]):xB C ops Q LL a w=Q .normal a w:=by rw[b];rfl
def auV(b:LL=o::rest)(h:a2t o (yz ops a)=A):xB C ops Q LL a w=lU C o a w (xB C ops Q rest) Q:=by simp only[b,xB,h]
def auW(b:LL=o::rest)(h:a2t o (yz ops a)=G):xB C ops Q LL a w=xB C ops Q rest (a.put o.dst undef) w:=by simp only[b,xB,h]
def auX{q:Env->Prop}(b:LL=[]):A8 C ops w q LL a=q a:=by rw[b];rfl
def auY{q:Env->Prop}(b:LL=o::rest)(h:a2t o (yz ops a)=A):A8 C ops w q LL a=sI C o a w (A8 C ops w q rest):=by simp only[b,A8,h]
def auZ{q:Env->Prop}(b:LL=o::rest)(h:a2t o (yz ops a)=G):A8 C ops w q LL a=A8 C ops w q rest (a.put o.dst undef):=by simp only[b,A8,h]
def au0{K:Env->Prop}:qt [] a K=K a:=rfl
def au1{K:Env->Prop}:qt (i::r) a K=Sk (a.f i) (qt r (a.put (O i) (.bool A)) K) (qt r (a.put (O i) (.bool G)) K):=rfl
def au2(h:(C.B o.type && early C o)=A):pP C o K v=Sk v (K (.bool A)) (K (.bool G)):=by simp only[pP,h];rfl
def au3(h:(C.B o.type && early C o)=G):pP C o K v=K v:=by simp only[pP,h]
variable{d:Option Nat}{t n:Nat}{pos:String}{af:Array Edge}{g:Option (Nat×Bool)}{u v z:Operand}{args:Array Operand}{Du:Array Nat}{k:FuncId}{s:Sem Y}
def spec(o:Oper):Bool:=match o.op with
 | .move _ | .assign _ | .pick _ _ _ | .nilCheck _ | .defer _ | .binOp _ _ _ _ _=>A
 | .call { callee:=.value _,.. } | .call { callee:=.invoke _ _,.. }=>A
 | _=>G
def WA:Operand->Bool
 | .func _=>A
 | _=>G
def au4(h:o.op = .move u):lU C o a w next Q=next (a.put o.dst (a.eval u)) w:=by simp only[lU,h]
def au5(h:o.op = .assign u):lU C o a w next Q=next (a.put o.dst (a.eval u)) w:=by simp only[lU,h]
def au6(h:o.op = .pick z u v)(b:a.eval z = .bool A):lU C o a w next Q=next (a.put o.dst (a.eval u)) w:=by simp only[lU,h,b]
def au7(h:o.op = .pick z u v)(b:a.eval z = .bool G):lU C o a w next Q=next (a.put o.dst (a.eval v)) w:=by simp only[lU,h,b]
def au8(h:o.op = .nilCheck u):lU C o a w next Q=Wy (a.eval u) fun v=>next (a.put o.dst v) w:=by simp only[lU,h];rfl
def au9(h:o.op = .defer ⟨.value (.func k),args,Du⟩):lU C o a w next Q=next ({ a with defers:={ target:=.fn (.func k) #[],args:=jU a args }::a.defers }.put o.dst undef) w:=by simp only[lU,h]
def avc(h:o.op = .defer ⟨.value u,args,Du⟩)(b:WA u=G):lU C o a w next Q=DFp (a.eval u) fun fn x y=>next ({ a with defers:={ target:=.fn fn y,args:=x++jU a args }::a.defers }.put o.dst undef) w:=by
 cases u<;>first | (simp [WA] at b;done) | (simp only[lU,h];rfl)
def avd(h:o.op = .call ⟨.value (.func k),args,Du⟩)(b:C.calls k=A):lU C o a w next Q=CAp C.P k (jU a args) w (fun v w'=>pP C o (fun v=>next (a.put o.dst v) w') v) (fun c w'=>Q (.panic c) a w'):=by simp only[lU,h,b];rfl
def ave(h:o.op = .call ⟨.value u,args,Du⟩)(b:WA u=G):lU C o a w next Q=CVp C.P (a.eval u) (jU a args) w (fun v w'=>pP C o (fun v=>next (a.put o.dst v) w') v) (fun c w'=>Q (.panic c) a w'):=by
 cases u<;>first | (simp [WA] at b;done) | (simp only[lU,h];rfl)
def avf{nm:String}(h:o.op = .call ⟨.invoke u nm,args,Du⟩):lU C o a w next Q=CIp C.P (a.eval u) nm (jU a args) w (fun v w'=>pP C o (fun v=>next (a.put o.dst v) w') v) (fun b w'=>Q (.panic b) a w'):=by simp only[lU,h];rfl
def avg(h:spec o=G)(b:zU a o=O s):lU C o a w next Q=Pk C.P s w (fun v=>pP C o (fun v=>next (a.put o.dst v) w) v) (fun v w'=>Q (.panic [{ v,recovered:=false }]) a w'):=by
 unfold lU;unfold spec at h;split at h<;>first | cases h | skip
 simp_all;rfl
def avh{p:BinOp}{b:_}(h:o.op = .binOp p t u v b):lU C o a w next Q=Pk C.P (bo p t u v (a.eval u) (a.eval v)) w (fun v=>pP C o (fun v=>next (a.put o.dst v) w) v) (fun v w'=>Q (.panic [{ v,recovered:=false }]) a w'):=by simp only[lU,h,zU];rfl
def avi(h:spec o=G)(b:zU a o=V)(c:writing a o=O s):lU C o a w next Q=WRp C.P s w (fun v w'=>next (a.put o.dst v) w') (fun v w'=>Q (.panic [{ v,recovered:=false }]) a w'):=by
 unfold lU;unfold spec at h;split at h<;>first | cases h | skip
 simp_all;rfl
def avk{s:Sem Unit}(h:spec o=G)(b:zU a o=V)(c:writing a o=V)(d:Wa a o=O s):lU C o a w next Q=WUp C.P s w (fun w'=>next (a.put o.dst undef) w') (fun v w'=>Q (.panic [{ v,recovered:=false }]) a w'):=by
 unfold lU;unfold spec at h;split at h<;>first | cases h | skip
 simp_all;rfl
def avl(h:o.op = .move u):sI C o a w ns=ns (a.put o.dst (a.eval u)):=by simp only[sI,h]
def avm(h:o.op = .assign u):sI C o a w ns=ns (a.put o.dst (a.eval u)):=by simp only[sI,h]
def avn(h:o.op = .pick z u v)(b:a.eval z = .bool A):sI C o a w ns=ns (a.put o.dst (a.eval u)):=by simp only[sI,h,b]
def avo(h:o.op = .pick z u v)(b:a.eval z = .bool G):sI C o a w ns=ns (a.put o.dst (a.eval v)):=by simp only[sI,h,b]
def avp(h:o.op = .nilCheck u):sI C o a w ns=Wy (a.eval u) fun v=>ns (a.put o.dst v):=by simp only[sI,h];rfl
def avq(h:o.op = .call ⟨.value (.func k),args,Du⟩)(b:C.calls k=A):sI C o a w ns=CQp C.P k (jU a args) w (fun v=>pP C o (fun v=>ns (a.put o.dst v)) v):=by simp only[sI,h,b];rfl
def avr(h:spec o=G)(b:zU a o=O s):sI C o a w ns=Pk C.P s w (fun v=>pP C o (fun v=>ns (a.put o.dst v)) v) NX:=by
 unfold sI;unfold spec at h;split at h<;>first | cases h | skip
 simp_all;rfl
def avt{p:BinOp}{b:_}(h:o.op = .binOp p t u v b):sI C o a w ns=Pk C.P (bo p t u v (a.eval u) (a.eval v)) w (fun v=>pP C o (fun v=>ns (a.put o.dst v)) v) NX:=by simp only[sI,h,zU];rfl
def avu(h:o.op = .move u):sJ C o a S ns=ns (a.put o.dst (a.eval u)):=by simp only[sJ,h]
def avv(h:o.op = .assign u):sJ C o a S ns=ns (a.put o.dst (a.eval u)):=by simp only[sJ,h]
def avw(h:o.op = .pick z u v)(b:a.eval z = .bool A):sJ C o a S ns=ns (a.put o.dst (a.eval u)):=by simp only[sJ,h,b]
def avx(h:o.op = .pick z u v)(b:a.eval z = .bool G):sJ C o a S ns=ns (a.put o.dst (a.eval v)):=by simp only[sJ,h,b]
def avy(h:o.op = .nilCheck u):sJ C o a S ns=Wy (a.eval u) fun v=>ns (a.put o.dst v):=by simp only[sJ,h];rfl
def avz(h:spec o=G)(b:zU a o=O s):sJ C o a S ns=Wz C.P s S (fun v=>pP C o (fun v=>ns (a.put o.dst v)) v):=by
 unfold sJ;unfold spec at h;split at h<;>first | cases h | skip
 simp_all;rfl
def avA(h:spec o=G)(b:zU a o=V)(c:V9 a o=O s):sJ C o a S ns=Wz C.P s S (fun v=>ns (a.put o.dst v)):=by
 unfold sJ;unfold spec at h;split at h<;>first | cases h | skip
 simp_all;rfl
def avB{p:BinOp}{b:_}(h:o.op = .binOp p t u v b):sJ C o a S ns=Wz C.P (bo p t u v (a.eval u) (a.eval v)) S (fun v=>pP C o (fun v=>ns (a.put o.dst v)) v):=by simp only[sJ,h,zU];rfl
def Pm:∀ {l:Array Oper} {i:Nat} {o:Oper},JZ l.toList i=O o->l[i]?=O o:=by
 intro l i o h;rw[<- Array.getElem?_toList];generalize l.toList=L at h;induction L generalizing i with
 | nil=>cases h
 | cons a r ih=>cases i with
  | zero=>exact h
  | succ i=>rw[a2R];exact ih h
def avC(h:a2r .any ops L=[]):mQ C ops Q S m [] L a w=Q .normal a w:=by simp only[mQ,h]
def avD(b:JZ ops.toList i=O o)(c:(a2r .any ops L == [i])=A)(d:a2t o (yz ops a)=G) :
 mQ C ops Q S m (i::r) L a w=mQ C ops Q S m r (L.setIfInBounds i A) (a.put o.dst undef) w:=by have h:=Pm b;simp only[mQ,h,c,d]
def avE(b:JZ ops.toList i=O o)(c:(a2r .any ops L == [i])=A)(d:a2t o (yz ops a)=A)(e:Wc a o=A) :
 mQ C ops Q S m (i::r) L a w=sI C o a w (fun a'=>mQ C ops Q S m r (L.setIfInBounds i A) a' w):=by have h:=Pm b;simp only[mQ,h,c,d,e]
def avF(b:JZ ops.toList i=O o)(c:(a2r .any ops L == [i])=A)(d:a2t o (yz ops a)=A)(e:Wc a o=G)(f:uw m (L.setIfInBounds i A)=A) :
 mQ C ops Q S m (i::r) L a w=lU C o a w (fun a' w'=>S w'/\mQ C ops Q S m r (L.setIfInBounds i A) a' w') (NP (qY ops.toList) Q):=by have h:=Pm b;simp only[mQ,h,c,d,e,f]
def avG(b:JZ ops.toList i=O o)(c:(a2r .any ops L == [i])=A)(d:a2t o (yz ops a)=A)(e:Wc a o=G)(f:uw m (L.setIfInBounds i A)=G) :
 mQ C ops Q S m (i::r) L a w=lU C o a w (fun a' w'=>mQ C ops Q S m r (L.setIfInBounds i A) a' w') (NP (qY ops.toList) Q):=by have h:=Pm b;simp only[mQ,h,c,d,e,f]
def avH(b:JZ ops.toList i=O o)(c:(a2r .any ops L == [i])=G)(d:((a2r .any ops L).contains i && Region.free .any ops L i && RS .any ops L m i)=A)(e:a2t o (yz ops a)=G) :
 mQ C ops Q S m (i::r) L a w=mQ C ops Q S m r (L.setIfInBounds i A) (a.put o.dst undef) w:=by have h:=Pm b;simp only[mQ,h,c,e,d]
def avI(b:JZ ops.toList i=O o)(c:(a2r .any ops L == [i])=G)(d:((a2r .any ops L).contains i && Region.free .any ops L i && RS .any ops L m i)=A)(e:a2t o (yz ops a)=A) :
 mQ C ops Q S m (i::r) L a w=sJ C o a S (fun a'=>mQ C ops Q S m r (L.setIfInBounds i A) a' w):=by have h:=Pm b;simp only[mQ,h,c,e,d]
variable{x1 x2:Y}{f:Nat->Y}{j:Nat}{vs lv:List Nat}{sf df:Nat->Y}{al:List Operand}{ds:List Deferred}{pl:List (Nat×Operand)}
def avJ:a.eval (.tmp i)=a.f i:=rfl
def avK{k:IntKind}{n:Int}:a.eval (.const (.int k n)) = .int k n:=rfl
def avL{b:Bool}:a.eval (.const (.bool b)) = .bool b:=rfl
def avM{l:List UInt8}:a.eval (.const (.string ⟨l.toArray⟩)) = aT l:=rfl
def avN:a.eval (.const ai) = ai:=rfl
def avO{p:Option Addr}:a.eval (.const (.pointer p)) = .pointer p:=rfl
def avP{p:Option Addr}{n c:Nat}:a.eval (.const (.slice p n c)) = .slice p n c:=rfl
def avQ{r:Option Nat}:a.eval (.const (.map r)) = .map r:=rfl
def avR{t:TypeId}{v:Y}:a.eval (.const (aj t v)) = aj t v:=rfl
def avS{l:Array Y}:a.eval (.const (ak l)) = ak l:=rfl
def avT:a.eval (.global i) = aq (O ⟨i,0,V⟩):=rfl
def avU:a.eval (.func i) = .func (.func i) #[] #[]:=rfl
def avV:(a.put V x1)=a:=rfl
def avW(h:a3u i j=A):(a.put (O j) x1).f i=x1:=by simp only[Env.put,JP,h,cond]
def avX(h:a3u i j=G):(a.put (O j) x1).f i=a.f i:=by simp only[Env.put,JP,h,cond]
def avY{d:Option Nat}:(a.put d x1).defers=a.defers:=by cases d<;>rfl
def avZ(h:rG j lv=A):(fr a vs lv sf df).f j=sf j:=by simp only[fr,RU,h,cond]
def av0(h:rG j lv=G)(b:rG j vs=A):(fr a vs lv sf df).f j=df j:=by simp only[fr,RU,h,b,cond]
def av4(h:rG j lv=G)(b:rG j vs=G):(fr a vs lv sf df).f j=a.f j:=by simp only[fr,RU,h,b,cond]
def av5:(fr a vs lv sf df).defers=a.defers:=rfl
def av7:(vZ []).f i=undef:=rfl
def av8{l:List Y}:(vZ (x1::l)).f 0=x1:=rfl
def av9{l:List Y}:(vZ (x1::l)).f (i+1)=(vZ l).f i:=rfl
def awa{l:List Y}:(vZ l).defers=[]:=rfl
def awb{α:Type}{c:Bool}{x y:α}(h:c=A):cond c x y=x:=by rw[h];rfl
def awc{α:Type}{c:Bool}{x y:α}(h:c=G):cond c x y=y:=by rw[h];rfl
def awd:jU a al.toArray=(al.map a.eval).toArray:=rfl
def awe:RR a pl.toArray=(pl.map fun x=>(x.1,a.eval x.2)).toArray:=rfl
def awf:Mp a V=none:=rfl
def awg:Mp a (O u)=O (a.eval u):=rfl
def awh(h:lv=[]):zV a lv=[]:=by rw[h];rfl
def awi(h:lv=j::r):zV a lv=(j,a.f j)::zV a r:=by rw[h];rfl
def awj{K:Env->Prop}(h:lv=[]):qt lv a K=K a:=by rw[h];rfl
def awk{K:Env->Prop}(h:lv=i::r):qt lv a K=Sk (a.f i) (qt r (a.put (O i) (.bool A)) K) (qt r (a.put (O i) (.bool G)) K):=by rw[h];rfl
variable{fn:Func}{R:Ending->Z->Prop}{K1:List Y->Prop}{l:List Y}{rs WB:List ResultVar}
def awl(h:rs=[]):vd P rs f w l K1=K1 l:=by rw[h];rfl
def awm(h:rs = .tmp t::WB):vd P rs f w l K1=vd P WB f w (l++[f t]) K1:=by rw[h];rfl
def awn(h:rs = .cell j t::WB):vd P rs f w l K1=Pk P (Instr.loadAt t (f j)) w (fun v=>vd P WB f w (l++[v]) K1) NX:=by rw[h];rfl
def awo:JW P fn R .normal a w=vd P fn.results.toList a.f w [] fun l=>R (ah (one l)) w:=rfl
def awp:JW P fn R .ret a w=vd P fn.results.toList a.f w [] fun l=>R (ah (one l)) w:=rfl
def awq{l:List PanicEntry}:JW P fn R (.panic l) a w=R (.panicked l) w:=rfl
def awr:MC P fn R .normal a w=LV P (fun w=>vd P fn.results.toList a.f w [] fun l=>R (ah (one l)) w) R a.defers .returning w:=rfl
def aws:MC P fn R .ret a w=LV P (fun w=>vd P fn.results.toList a.f w [] fun l=>R (ah (one l)) w) R a.defers .returning w:=rfl
def awt{l:List PanicEntry}:MC P fn R (.panic l) a w=LV P (fun w=>vd P fn.results.toList a.f w [] fun l=>R (ah (one l)) w) R a.defers (.panicking l) w:=rfl
def awu:one [] = ak #[]:=rfl
def awv:one [x1]=x1:=rfl
def aww:one (x1::x2::l) = ak (x1::x2::l).toArray:=rfl
def awx:Pk P s w K X=RD P s w K X:=rfl
def awy{K:Y->Z->Prop}:WRp P s w K X=WR P s w K X:=rfl
def awz{s:Sem Unit}{K:Z->Prop}:WUp P s w K X=WU P s w K X:=rfl
def awA{args:Array Y}{K:Y->Z->Prop}{X:List PanicEntry->Z->Prop}:CAp P k args w K X=CA P k args w K X:=rfl
def awB{args:Array Y}:CQp P k args w K=CQ P k args w K:=rfl
def awC{args:Array Y}{K:Y->Z->Prop}{X:List PanicEntry->Z->Prop}:CVp P x1 args w K X=CV P x1 args w K X:=rfl
def awD{nm:String}{args:Array Y}{K:Y->Z->Prop}{X:List PanicEntry->Z->Prop}:CIp P x1 nm args w K X=CI P x1 nm args w K X:=rfl
def awE{B:Prop}:Sk x1 A0 B=BS x1 A0 B:=rfl
def awF{K:Fn->Array Y->Array Y->Prop}:DFp x1 K=DF x1 K:=rfl
def awG:Wy x1 K=NC x1 K:=rfl
def awH{F:((Nat->Y)->Z->Prop)->(Nat->Y)->(Nat->Y)->Z->Prop}:ajh F sf w=O0 F sf w:=rfl
def awI{F:((Nat->Y)->Z->Prop)->Prop}{R:(Nat->Y)->(Nat->Y)->Z->Prop}:JNp F R=JN F R:=rfl
def awJ{F:((Nat->Y)->Z->Prop)->Prop}{R:(Nat->Y)->(Nat->Y)->Z->Prop}:JSp F R=JS F R:=rfl
def awK:Wz P s S K=uY P s S K:=rfl
def awL{F:(Z->Prop)->Prop}:HDp F=HD F:=rfl
def awM:(fun v w'=>R (.panicked [{ v,recovered:=false }]) w')=PX R:=rfl
def awN:(fun v w'=>∀ _:Nat->Y,R (.panicked [{ v,recovered:=false }]) w')=PXA R:=rfl
def awO:(fun a w'=>∀ _:Nat->Y,R (.panicked a) w')=Mm R:=rfl
def awP:(fun a w'=>R (.panicked a) w')=PC R:=rfl
end
def cqD{C:mD}(b:Good C){f:FuncId}{c:Code}{args:List Y}{S:Prop}(d:C.P.funcs[f]?=O fn)(e:fn.body=O c)
  (hk:(((wr c).all fun i=>decide (i<fn.ntmps)) && Nat.ble args.length fn.ntmps)=A) (he:qt [] (vZ args) (fun a=>gn C c (MC C.P fn R) a w)=S) (h:S):Calls C.P f args.toArray w R:=by
 simp only[Bool.and_eq_true] at hk;exact aua b d e hk.1 (Nat.le_of_ble_eq_true hk.2) [] he h
end Sx
def zX:=(a1q @aun (a1q @auo (a1q @aup (a1q @auq (a1q @aur (a1q @aus (a1q @aut (a1q @auu (a1q @auv (a1q @auw (a1q @auy (a1q @auz (a1q @auA (a1q @auB (a1q @auC (a1q @auD (a1q @auE (a1q @auF (a1q @auG (a1q @auH (a1q @auI (a1q @auJ (a1q @auK (a1q @auL (a1q @auM (a1q @auN (a1q @auO (a1q @auP (a1q @auQ (a1q @auR (a1q @auS (a1q @auT (a1q @auU (a1q @auV (a1q @auW (a1q @auX (a1q @auY (a1q @auZ (a1q @au0 (a1q @au1 (a1q @au2 (a1q @au3 (a1q @au4 (a1q @au5 (a1q @au6 (a1q @au7 (a1q @au8 (a1q @au9 (a1q @avc (a1q @avd (a1q @ave (a1q @avf (a1q @avg (a1q @avh (a1q @avi (a1q @avk (a1q @avl (a1q @avm (a1q @avn (a1q @avo (a1q @avp (a1q @avq (a1q @avr (a1q @avt (a1q @avu (a1q @avv (a1q @avw (a1q @avx (a1q @avy (a1q @avz (a1q @avA (a1q @avB (a1q @avC (a1q @avD (a1q @avE (a1q @avF (a1q @avG (a1q @avH (a1q @avI (a1q @avJ (a1q @avK (a1q @avL (a1q @avM (a1q @avN (a1q @avO (a1q @avP (a1q @avQ (a1q @avR (a1q @avS (a1q @avT (a1q @avU (a1q @avV (a1q @avW (a1q @avX (a1q @avY (a1q @avZ (a1q @av0 (a1q @av4 (a1q @av5 (a1q @av7 (a1q @av8 (a1q @av9 (a1q @awa (a1q @awb (a1q @awc (a1q @awd (a1q @awe (a1q @awf (a1q @awg (a1q @awh (a1q @awi (a1q @awj (a1q @awk (a1q @awl (a1q @awm (a1q @awn (a1q @awo (a1q @awp (a1q @awq (a1q @awr (a1q @aws (a1q @awt (a1q @awu (a1q @awv @aww))))))))))))))))))))))))))))))))))))))))))))))))))))))))))))))))))))))))))))))))))))))))))))))))))))))))))))))))))))))))))))
def zY:=(a1q @awx (a1q @awy (a1q @awz (a1q @awA (a1q @awB (a1q @awC (a1q @awD (a1q @awE (a1q @awF (a1q @awG (a1q @awH (a1q @awI (a1q @awJ (a1q @awK (a1q @awL (a1q @awM (a1q @awN (a1q @awO @awP))))))))))))))))))
def zn{B:Prop}(h:A0=B:=by(simp (maxSteps:=10000000) (disch:=(refine id ?_;with_unfolding_all rfl)) only[↓zX,zY,List.map,List.nil_append,List.cons_append,List.toList_toArray,List.append_toArray];try rfl)):A0=B:=h
abbrev kW(p:Prop):Prop:=p
def ge l j t h b c s y:=EV (zL l) (zO j) (zN t) (zO h) (zL b) (zL c) (zT s) (zT y)
def gd l j t h b c y:=EV (zL l) (zO j) (zN t) (zO h) (zL b) (zL c) (fun _=>A) (zT y)
def gc l j y:=gd l j [] [] [] [] y
def cz {C:mD} (w:World) (R:Ending->World->Prop) (args:List Value) (b:Sx.Good C) {f:FuncId} {c:Code} {S:Prop} (d:C.P.funcs[f]?=some fn) (e:fn.body=some c:=by rfl)
  (hk:(nd c && ((wr c).all fun i=>decide (i<fn.ntmps)) && Nat.ble args.length fn.ntmps)=true:=by kernel_rfl) (he:qt [] (vZ args) (fun a=>gn C c (JW C.P fn R) a w)=S:=by exact zn) (h:kW S):Calls C.P f args.toArray w R:=
 cq b d e hk he h
def cy {C:mD} (w:World) (R:Ending->World->Prop) (args:List Value) (b:Sx.Good C) {f:FuncId} {c:Code} {S:Prop} (d:C.P.funcs[f]?=some fn) (e:fn.body=some c:=by rfl)
  (hk:(((wr c).all fun i=>decide (i<fn.ntmps)) && Nat.ble args.length fn.ntmps)=true:=by kernel_rfl) (he:qt [] (vZ args) (fun a=>gn C c (MC C.P fn R) a w)=S:=by exact zn) (h:kW S):Calls C.P f args.toArray w R:=
 cqD b d e hk he h
end Go.Proofs.YtoegidfbnkaabaaGreatDoor
namespace Go.Proofs.YtoegidfbnkaabaaGreatDoor
open Go.Proofs.YtoegidfbnkaabaaGreatDoor.Sx
variable{cs:Array Y}{n:Nat}{v:Y}
section
variable{p0 p1 p2 p3 p4 p5 p6 p7:Y}{w:Z}{R:Ending->Z->Prop}
def awT:=cz w R [p0] (gc [(4,[2,3]),(11,[6]),(19,[2,3,88])] [(2001,[]),(6000,[25]),(7001,[3]),(12001,[6]),(15000,[79]),(17002,[2,3])] [11,16,24,25,31,42,43,77,78,79,89,95]) Tryz.func84
def awU:=cz w R [p0,p1,p2] (gc [] [(2000,[25]),(3008,[])] [23,24,25,29,30,33,37,38,41]) Tryz.func112
def awV:=cz w R [p0] (gc [(1,[2])] [(4001,[]),(8001,[]),(13002,[]),(14000,[72]),(15001,[]),(17001,[])] [13,23,37,55,71,72,76]) Tryz.func46
def awW:=cz w R [p0] (gc [] [] []) Tryz.func28
def awX:=cz w R [p0,p1] (gc [] [] []) Tryz.func47
def abx:=cz w R [p0] (gd [] [] [(6,10)] [] [] [] [6,8,9,12,21,24]) Tryz.func23
end
namespace Sx
open Go
def Gp(P:Program)(t:TypeId):Bool:=match P.underlying t with | some (.pointer _)=>A | _=>G
def WC(P:Program)(t:TypeId):Bool:=match P.underlying t with | some (.slice _)=>A | _=>G
def aby(P:Program)(t:TypeId):Bool:=match P.underlying t with | some (.map _ _)=>A | _=>G
def yA(P:Program)(t:TypeId):Bool:=match P.underlying t with | some (.interface _)=>A | _=>G
section
variable{P:Program}{t:TypeId}{x y:Operand}{w:Z}{K:Y->Prop}{X:Y->Z->Prop}
def ajn(h:Gp P t=A)(p:Option Addr):(Op.equal t (.pointer p) (aq V)).run P w = .ok p.isNone w:=by
 grind [Gp,run_equal_pointer_nil,Program.pointee]
def ajo(h:WC P t=A)(a:Option Addr)(n c:Nat):(Op.equal t (.slice a n c) bW).run P w = .ok a.isNone w:=by
 grind [WC,run_equal_slice_nil]
def awY(h:aby P t=A)(r:Option Nat):(Op.equal t (.map r) (.map V)).run P w = .ok r.isNone w:=by
 grind [aby,run_equal_map_nil]
def MG(h:Gp P t=A)(p:Option Addr):RD P (bo .eql t x y (.pointer p) (aq V)) w K X=K (.bool p.isNone):=
 gQ (by simp [bo,eqGuard,binOp,a1C,ajn h])
def abz(h:Gp P t=A)(p:Option Addr):RD P (bo .neq t x y (.pointer p) (aq V)) w K X=K (.bool !p.isNone):=
 gQ (by simp [bo,eqGuard,binOp,a1C,ajn h])
def ajp(h:WC P t=A)(p:Option Addr)(n c:Nat):RD P (bo .eql t x y (.slice p n c) bW) w K X=K (.bool p.isNone):=
 gQ (by simp [bo,eqGuard,binOp,a1C,ajo h])
def awZ(h:WC P t=A)(p:Option Addr)(n c:Nat):RD P (bo .neq t x y (.slice p n c) bW) w K X=K (.bool !p.isNone):=
 gQ (by simp [bo,eqGuard,binOp,a1C,ajo h])
def aw0(h:aby P t=A)(p:Option Nat):RD P (bo .eql t x y (.map p) (.map V)) w K X=K (.bool p.isNone):=
 gQ (by simp [bo,eqGuard,binOp,a1C,awY h])
def Gq(h:yA P t=A):P.underlying t=O (.interface (P.methodsAt t)):=by
 grind [yA,Program.methodsAt]
def ajq(h:yA P t=A)(u:TypeId)(v:Y):RD P (bo .eql t x y (aj u v) ai) w K X=K (.bool G):=
 gQ (by simp [bo,eqGuard,binOp,a1C,run_equal_held_nil w t u v (Gq h)])
def aw1(h:yA P t=A)(u:TypeId)(v:Y):RD P (bo .neq t x y (aj u v) ai) w K X=K (.bool A):=
 gQ (by simp [bo,eqGuard,binOp,a1C,run_equal_held_nil w t u v (Gq h)])
def ajr(h:yA P t=A)(c:Y):RD P (bo .eql t x (.const c) ai ai) w K X=K (.bool A):=
 gQ (by simp [bo,eqGuard,binOp,a1C,run_equal_nil_nil w t (Gq h)])
def aw2(h:yA P t=A)(c:Y):RD P (bo .neq t x (.const c) ai ai) w K X=K (.bool G):=
 gQ (by simp [bo,eqGuard,binOp,a1C,run_equal_nil_nil w t (Gq h)])
def ajs(P:Program)(T:TypeId):Option (Nat×TypeId):=match P.underlying T with | some (.array n e)=>O (n,e) | _=>V
def Sm(cs:Array Y)(i:Int)(K:Y->Prop)(D:Prop):RT (K,D):=match cs[i.toNat]? with | some v=>K v | none=>D
def abA{i:Int}{K:Y->Prop}{D:Prop}(h:cs[i.toNat]?=O v):Sm cs i K D=K v:=by grind [Sm]
def aw3{T e:TypeId}{k:IntKind}{i:Int}(h:ajs P T=O (n,e))(he:(Wt P e && sized P e 1)=A)(a:0<=i)(b:i<n) :
  RD P (a3b T (.agg cs) (.int k i)) w K X=Sm cs i K (Gj P (a3b T (.agg cs) (.int k i)) w K X):=by
 unfold Sm;split
 .rename_i v hv;refine gQ ?_;unfold ajs at h;split at h
  .rename_i c e' hu;simp only[a1o,a1P] at h;obtain⟨rfl,rfl⟩:=h;simp only[Bool.and_eq_true] at he;simp only[a3b,a1C,asIntOf,a2i,a1B,run_underlying hu,zip (a1q a b),Gm he.2,Nat.mul_one];unfold part;simp only[a1C,aiZ he.1,a1B,hv];simp
  grind
 .rfl
end
def zG1:=a1q @aa0 (a1q @jx (a1q @aaA (a1q @aaB (a1q @Pf (a1q @Pg (a1q @Gk (a1q @Gl (a1q @aaD (a1q @aaE (a1q @aaF (a1q @aaG (a1q @aaH (a1q @aaI (a1q @aaJ (a1q @aaK (a1q @aaL (a1q @aaO (a1q @aaP (a1q @aaM (a1q @aaN (a1q @aaU (a1q @aaV (a1q @aaW (a1q @aaX (a1q @Wx (a1q @aaR (a1q @aa1 (a1q @aa2 (a1q @abA (a1q @aa3 (a1q @aa4 (a1q @aa5 (a1q @aa6 (a1q @MD (a1q @sK (a1q @qz (a1q @jb (a1q @Se (a1q @Ca (a1q @vf (a1q @size_alloc (a1q @Sj (a1q @abc (a1q @aa7 (a1q @aa8 (a1q @aa9 (a1q @aba (a1q @abb (a1q @abd (a1q @abe (a1q @abf (a1q @abg (a1q @abh (a1q @abi (a1q @abj (a1q @abk (a1q @abl (a1q @abm (a1q @abn (a1q @abo (a1q @abp (a1q @abq (a1q @abr (a1q @abt (a1q @abu (a1q @abv (a1q @we (a1q @u8w (a1q @Wr (a1q @aax (@aay)))))))))))))))))))))))))))))))))))))))))))))))))))))))))))))))))))))))
def zG2:=a1q @Int.toNat_natCast (a1q @Option.isNone_none.{0} (a1q @Option.isNone_some.{0} (a1q @a3w.{0} (a1q @a2Q.{0} (a1q @a2R.{0} (a1q @List.setIfInBounds_toArray.{0} (a1q @List.set_cons_zero.{0} (a1q @List.set_cons_succ.{0} (a1q @List.size_toArray.{0} (a1q @List.length_cons.{0} (a1q @List.length_nil.{0} (a1q @List.drop_zero.{0} (a1q @List.drop_succ_cons.{0} (a1q @List.take_succ_cons.{0} (a1q @List.take_zero.{0} (a1q @List.take_nil.{0} (a1q @List.drop_nil.{0} (a1q @List.all_cons.{0} (a1q @List.all_nil.{0} (a1q @Bool.and_true (a1q @Bool.true_and (a1q @Nat.zero_add (a1q @Nat.add_zero (a1q @Nat.mul_one (a1q @and_self (a1q @and_true (a1q @true_and (a1q @decide_true (a1q @decide_false (a1q @Bool.not_true (a1q @Bool.not_false (a1q @not_true_eq_false (@not_false_eq_true)))))))))))))))))))))))))))))))))
def zA {p q : Prop} (a : p) (b : q) : p /\ q := ⟨a, b⟩
def zS := (zA @size_alloc (zA @Ca (zA @vf (zA @List.size_toArray.{0} (zA @List.length_cons.{0} @List.length_nil.{0})))))
def zq {p:Prop}(h:p:=by first|assumption|omega|simp only[zS]<;>omega|decide):p:=h
def zH := (zA @MD (zA @sK (zA @qz (zA @jb (zA @Se (zA @Ca (zA @vf @size_alloc)))))))
def zG0 := (zA @Pr.eq_1 (zA @PX.eq_1 (zA @PC.eq_1 (zA @NX.eq_1 (zA @ends.eq_1 (zA @ends.eq_2 (zA @ends.eq_3 (zA @EU.eq_1 (zA @EU.eq_2 (zA @po.eq_1 (zA @po.eq_2 (zA @jg.eq_1 (zA @jg.eq_2 (zA @forall_const.{0} (zA @forall_const.{1} (zA @eq_self.{1} (zA zG1 zG2)))))))))))))))))
end Sx
