/- A part of one proof (SxM, ShG, SxP, ShS1, SxN). -/
import Derived.Test.YtoegidfbnkaabaaGreatDoorPkKAB
import Derived.WalkSpells
import Derived.Test.YtoegidfbnkaabaaGreatDoorProg
import Derived.Laws.Pointers
import Derived.Laws.Cover3
import Derived.WideLaws
set_option linter.all false
set_option maxRecDepth 100000
set_option maxHeartbeats 8000000
open Option renaming some → O, none → V
open Go renaming Value → Y, World → Z
open Bool renaming true → A, false → ae
open Go.Obj renaming cells → ah
open Go.Ending renaming returned → ai
open Go.Value renaming nilIface → aj, iface → ak, tuple → aq, pointer → au
open Option.some renaming injEq → a0z
open And renaming intro → a0B
open Go.Result renaming andThen_ok → a0K
open Go.Sem renaming run_bind → a0L, run_pure → a1n
open Go.Value renaming string → a0U, pointer → a1l
open Prod.mk renaming injEq → a0X
open Go.Instr renaming sliceAt → a1p, buildSlice → a1x, index → a2h, extract → a3t, fill → a4Z
open Go.Region renaming ready → a1w, wanted → a1y
open List renaming getElem?_cons_zero → a1T, getElem?_cons_succ → a1U, getElem?_toArray → a2A
open Go.Builtin renaming len_ → a2f
open ByteArray renaming size → a2x
open Nat renaming beq → a2y
namespace Go.Proofs.YtoegidfbnkaabaaGreatDoor
variable{A0:Prop}{K:Y->Prop}{R:Ending->Z->Prop}{X:Y->Z->Prop}{b c cap e i j n o pb:Nat}{cs:Array Y}{fn:Func}{l:Int}{u v:Y}{EH:IntKind}{w:Z}
namespace Sx
open Go
section
variable{P:Program}{T:TypeId}{b o:Nat}{w:Z}{K:Y->Prop}{X:Y->Z->Prop}
def aiM(P:Program)(s:TypeId)(i:Nat):Option Nat:=
 match P.underlying s with
 | some (.struct fs)=>match fs[i]? with
  | some f=>match P.info? f.type with
   | some t=>if t.size=0 then V else O f.offset
   | none=>V
  | none=>V
 | _=>V
theorem addr_add(b o n:Nat):(⟨b,o,V⟩:Addr).add n=⟨b,o+n,V⟩:=by
 unfold Addr.add;split<;>simp_all
def fG(h:aiM P T i=O n):RD P (Instr.fieldAt T (au (O ⟨b,o,V⟩)) i) w K X=K (au (O ⟨b,o+n,V⟩)):=by
 refine ig ?_;unfold aiM at h;split at h
 .rename_i fs hu;split at h
  .rename_i f a;split at h
   .rename_i t ht;split at h
    .grind
    .rename_i c;cases h;have d:(sizeOf f.type).run P w = .ok t.size w:=(by grind [F6,sized]);simp only[Instr.fieldAt,a0L,run_underlying hu,a0K,a,Instr.sureAddr,a1n,fieldPlace,d,bO c,addr_add]
   grind
  grind
 grind
def RP(P:Program)(T:TypeId):Option Nat:=
 match P.underlying T with
 | some (.slice e)=>(P.info? e).map (·.size)
 | _=>V
def aas(h:RP P T=O n):∃ e,P.underlying T=O (.slice e)/\sized P e n=true:=by
 grind [RP,sized]
theorem Hx{e:TypeId}(h:P.underlying T=O (.slice e)):P.elem T=e:=by grind [Program.elem]
def zP(h:RP P T=O n){k:IntKind}{i:Int}(a:0<=i)(c:i<pb) :
  RD P (Instr.indexAt T (.slice (O ⟨b,o,V⟩) pb cap) (.int k i)) w K X=K (au (O ⟨b,o+i.toNat*n,V⟩)):=by
 obtain⟨e,he,d⟩:=aas h;refine ig ?_;rw[run_indexAt_slice w T _ _ _ _ _ (by rw[Hx he];exact he),zip ⟨a,c⟩,Hx he,F6 d];grind [a0K,addr_add]
def AR{t:TypeId}{e:TypeId}(h:P.underlying t=O (.slice e)){a:Option Addr} :
  RD P (a2f #[t] T #[.slice a n c]) w K X=K (.int .i64 n):=
 ig (run_len_slice w t T a n c (by grind [Hx]))
def at0{t:TypeId}(h:P.underlying t=O .string){l:List UInt8} :
  RD P (a2f #[t] T #[.string (bs l)]) w K X=K (.int .i64 l.length):=by
 refine ig ?_;have e:(bs l).size=l.length:=by simp [a2x]
 simp only[a2f,a2A,a1T,a0L,run_underlying h,a0K,a1n,goInt,e]
def at1{t:TypeId}(h:P.underlying t=O .string){l:List UInt8}{k:IntKind}{i:Int}(b:0<=i)(c:i<l.length) :
  RD P (a2h t (.string (bs l)) (.int k i)) w K X=K (.int .u8 ((l.getD i.toNat 0).toNat)):=by
 refine ig ?_;have e:(bs l)[i.toNat]?=O (l.getD i.toNat 0):=by
  have d:i.toNat<l.length:=zo;have a:i.toNat<(bs l).size:=by grind [a2x]
  rw[getElem?_pos (bs l) i.toNat a]
  congr 1
  show l.toArray[i.toNat]=_;grind
 simp only[a2h,a0L,asIntOf,a1n,a0K,run_underlying h,zip b,e]
def aat{vs:Array Y}(h:vs[i]?=O v):RD P (a3t (aq vs) i) w K X=K v:=by
 refine ig ?_;simp only[a3t,h];rfl
def aau{l:List Y}:RD P (a3t (aq (v::l).toArray) 0) w K X=K v:=aat zs
def aav{l:List Y}:RD P (a3t (aq (u::v::l).toArray) 1) w K X=K v:=aat zs
def aaw{x:Y}{l:List Y}:RD P (a3t (aq (u::x::v::l).toArray) 2) w K X=K v:=aat zs
def aax{t:TypeId}:RD P (Instr.panic (ak t v)) w K X=X (ak t v) w:=atX J
def OR(h:RP P T=O n){k:IntKind}(b:0<=l)(c:l<=pb){a:Option Addr} :
  RD P (a1p T (.slice a pb cap) (O (.int k l)) V V) w K X=K (sliced a l.toNat pb cap n):=by
 obtain⟨e,he,d⟩:=aas h;refine ig ?_;rw[run_sliceAt_slice w T _ _ _ _ (by rw[Hx he];exact he),run_slice_l w T a pb cap (by rw[Hx he];exact he) k l b c,Hx he,F6 d];rfl
def RQ(h:RP P T=O n){k:IntKind}(b:0<=l)(c:l<=cap){a:Option Addr} :
  RD P (a1p T (.slice a pb cap) V (O (.int k l)) V) w K X=K (sliced a 0 l.toNat cap n):=by
 obtain⟨e,he,d⟩:=aas h;refine ig ?_;rw[run_sliceAt_slice w T _ _ _ _ (by rw[Hx he];exact he),run_slice_h w T a pb cap (by rw[Hx he];exact he) k l b c,Hx he,F6 d];rfl
def aiN(l:List UInt8)(i j:Nat):(bs l).extract i j=bs ((l.take j).drop i):=by
 apply ByteArray.ext;grind [ByteArray.data_extract,Array.ext',Array.toList_extract,List.drop_take]
def at6{t:TypeId}(h:P.underlying t=O .string){s:List UInt8}{k:IntKind}(a:0<=l)(b:l<=s.length) :
  RD P (a1p t (.string (bs s)) (O (.int k l)) V V) w K X=K (.string (bs (s.drop l.toNat))):=by
 refine ig ?_;have e:(bs s).size=s.length:=by simp [a2x]
 simp only[a1p,Instr.slice,a0L,run_underlying h,a0K,Option.isSome,Bool.false_eq_true,if_false,Instr.sliceBounds,a1n,
  run_sliceBound w k l s.length _ a b,aiN,e,List.take_length]
def at7{t:TypeId}(h:P.underlying t=O .string){s:List UInt8}{k:IntKind}{m:Int}(a:0<=l)(b:l<=m)(c:m<=s.length) :
  RD P (a1p t (.string (bs s)) (O (.int k l)) (O (.int EH m)) V) w K X=K (.string (bs ((s.take m.toNat).drop l.toNat))):=by
 refine ig ?_;have e:(bs s).size=s.length:=by simp [a2x]
 simp only[a1p,Instr.slice,a0L,run_underlying h,a0K,Option.isSome,Bool.false_eq_true,if_false,Instr.sliceBounds,a1n,
  run_sliceBound w EH m (bs s).size _ zo zo,run_sliceBound w k l m.toNat _ a zo,aiN]
def EI(pl:List (Nat×Nat))(cells:Array Y):List (Nat×Y)->Option (Array Y)
 | []=>O cells
 | (i,v)::r=>match pl[i]? with
  | none=>V
  | some (off,size)=>if v.cells.toList.length=size/\off+size<=cells.size then EI pl (oV cells off v.cells.toList) r else V
def aiO(off:Nat):∀ (l:List Y) (k:Nat) (cs:Array Y),(l.zipIdx k).foldl (fun cs (c,j)=>cs.setIfInBounds (off+j) c) cs=oV cs (off+k) l
 | [],_,_=>rfl
 | v::r,k,cs=>by
  simp only[List.zipIdx_cons,List.foldl_cons,oV];rw[aiO off r (k+1)];rfl
theorem aay{place:Nat->Option (Nat×Nat)}{pl:List (Nat×Nat)}(a:∀ i x,pl[i]?=O x->place i=O x):∀ (l:List (Nat×Y)) (cs:Array Y) (r:Array Y),EI pl cs l=O r->a4Z place cs l=O r
 | [],cs,r,h=>h
 | (i,v)::l,cs,r,h=>by
  unfold EI at h;unfold a4Z;cases b:pl[i]? with
  | none=>grind
  | some x=>
   obtain⟨off,size⟩:=x;rw[b] at h;dsimp only at h;rw[a i _ b];dsimp only;split at h
   .rename_i f;have c:v.cells.size=size:=zg;rw[bO (by rw[c];simp;omega)];have e:=aiO off v.cells.toList 0 cs;rw[Nat.add_zero] at e;have d:(v.cells.zipIdx.foldl (fun cs (x:Y×Nat)=>cs.setIfInBounds (off+x.2) x.1) cs)=oV cs off v.cells.toList:=by
     grind [Array.toList_zipIdx]
    rw[d];exact aay a l _ r h
   grind
def places(P:Program):List Field->Option (List (Nat×Nat))
 | []=>O []
 | f::r=>match P.info? f.type,places P r with
  | some i,O l=>O ((f.offset,i.size)::l)
  | _,_=>V
def aiP(P:Program)(T:TypeId):Option (Array Y×List (Nat×Nat)):=
 match zK P T,P.underlying T with
 | some z,O (.struct fs)=>(places P fs.toList).map fun l=>(z.cells,l)
 | _,_=>V
def aiQ{w:Z}:∀ (l:List Field) (r:List (Nat×Nat)),places P l=O r->(l.mapM fun(f:Field)=>(do pure (f.offset,<- sizeOf f.type):Sem (Nat×Nat))).run P w = .ok r w
 | [],r,h=>by simp only[places,a0z] at h;subst h;rfl
 | f::l,r,h=>by
  unfold places at h;split at h
  .rename_i i q c a;cases h;have ih:=aiQ (w:=w) l q a;have b:(sizeOf f.type).run P w = .ok i.size w:=(by grind [F6,sized]);rw[List.mapM_cons];simp only[a0L,b,a0K,a1n,ih]
  grind
def VT(x:Option (Array Y))(K:Y->Prop)(D:Prop):RT (K,D):=
 match x with
 | some cs=>K (.agg cs)
 | none=>D
def si{z:Array Y}{pl:List (Nat×Nat)}(h:aiP P T=O (z,pl)){parts:Array (Nat×Y)} :
  RD P (Instr.build T parts) w K X=VT (EI pl z parts.toList) K (F3 P (Instr.build T parts) w K X):=by
 unfold VT;split
 .rename_i cs f;refine ig ?_;unfold aiP at h;split at h
  .rename_i b fs c hu;cases a:places P fs.toList with
   | none=>grind
   | some l=>
    rw[a] at h;simp only[Option.map_some,a0z,a0X] at h;obtain⟨rfl,rfl⟩:=h;have d:=aiQ (w:=w) fs.toList l a;have e:a4Z (l.toArray[·]?) b.cells parts.toList=O cs:=(by grind [aay]);simp only[Instr.build,a0L,EG c,a0K,run_underlying hu];rw[Array.mapM_eq_mapM_toList];simp only[Sem.run_map,d,a0K,e];rfl
  grind
 .rfl
def aiR(P:Program)(T n:Nat):Option (TypeId×Array Y×List (Nat×Nat)):=
 match P.underlying T with
 | some (.slice e)=>match P.info? e,zK P e with
  | some i,O z=>if n*i.size=0\/n*i.size > 2 ^ 24 then V else O (e,(Array.range (n*i.size)).map (z.cells[· % z.cells.size]!),(List.range n).map fun j=>(j*i.size,i.size))
  | _,_=>V
 | _=>V
def VU(x:Option (Array Y))(e n:Nat)(w:Z)(K:Y->Z->Prop)(D:Prop):RT (K,D):=
 match x with
 | some cs=>K (.slice (O ⟨w.heap.size,0,V⟩) n n) (w.alloc (ah cs e))
 | none=>D
def xC{e:TypeId}{z:Array Y}{pl:List (Nat×Nat)}(h:aiR P T n=O (e,z,pl)){parts:Array (Nat×Y)}{K:Y->Z->Prop} :
  WR P (a1x T n parts) w K X=VU (EI pl z parts.toList) e n w K (WR0 P (a1x T n parts) w K X):=by
 unfold VU;split
 .rename_i cs k;refine xB ?_;unfold aiR at h;split at h
  .rename_i e' hu;split at h
   .rename_i i a l b;split at h
    .grind
    .rename_i m;simp only[a0z,a0X] at h;obtain⟨rfl,rfl,rfl⟩:=h;have c:(sizeOf e').run P w = .ok i.size w:=(by grind [F6,sized]);have d:a4Z (fun j=>O (j*i.size,i.size)) ((Array.range (n*i.size)).map (a.cells[· % a.cells.size]!)) parts.toList=O cs:=
      (by grind [aay,List.range,List.getElem?_eq_some_iff])
     have f:¬ (n*i.size > 2 ^ 24):=zo;have g:¬ (n*i.size=0):=zo;simp only[a1x,a0L,run_underlying hu,a0K,c,bO f,bO g,a1n,EG b,d];simp only[newRow,newObj,a0L,Sem.run,a0K,a1n];rfl
   exact yH
  exact yH
 .rfl
def JF(P:Program)(T:TypeId):Bool:=
 match P.underlying T with
 | some (.interface _)=>ae
 | some _=>A
 | none=>ae
def Dl(h:JF P T=A){K:Y->Z->Prop}:WR P (Instr.makeInterface T v) w K X=K (ak T v) w:=by
 refine xB ?_;unfold JF at h;unfold Instr.makeInterface underlying;simp only[a0L,program,Sem.run,a0K];grind [a1n,a0K]
def VV{fn:Fn}{x y:Array Y}{K:Y->Z->Prop}:WR P (Instr.makeFunc fn x y) w K X=K (.func fn x y) w:=xB J
end
def aua{P:Program}{src dst:TypeId}{kd:IntKind}(a:(P.underlying src).isSome=A)(b:P.underlying dst=O (.int kd)){k:IntKind}{n:Int}{K:Y->Z->Prop} :
  WR P (convert src dst (.int k n)) w K X=K (.int kd (kd.wrap n)) w:=by
 have e:P.intKind dst=kd:=by grind [Program.intKind]
 refine xB ?_;grind [run_convert_int]
def u8w{x:Int}(a:0<=x)(b:x<=255):IntKind.u8.wrap x=x:=by
 unfold IntKind.wrap;have c:(2 ^ IntKind.u8.bits:Int)=256:=zd;have d:IntKind.u8.signed=false:=rfl;grind
def cR{P:Program}{s:Sem Y}{S:Z->Prop}(v:Y)(h:∀ w',S w'->RD P s w' (fun u=>u=v) NX)(hk:K v):uU P s S K:=by
 refine⟨v,fun w' b=>?_,hk⟩;have a:=h w' b;unfold RD at a;cases hr:s.run P w' with
 | ok u c=>grind
 | halt x c=>rw[hr] at a;cases x<;>exact a.elim
def Pr(p:Prop):Prop:=p
def toPr{p:Prop}(h:Pr p):p:=h
def ldV(x:Option Y)(K:Y->Prop)(D:Prop):RT (K,D):=
 match x with | some v=>K v | none=>D
theorem RR{x y:Obj}:bT (bT w b x) b y=bT w b y:=by unfold bT;simp
def aaA{F:((Nat->Y)->Z->Prop)->Prop}{R:(Nat->Y)->(Nat->Y)->Z->Prop}:JN F R=F (fun s w=>∀ d,R s d w):=rfl
def aaB{U:TypeId}{z:Nat×Nat}{D:Prop}:VS (O (ah cs U z)) o K D=ldV (cs[o]?) K D:=rfl
def aaC{D:Prop}:ldV (O v) K D=K v:=rfl
def aaD{U:TypeId}{z:Nat×Nat}{D:Prop}(h:o+n<=cs.size):Mj (O (ah cs U z)) o n K D=K (.agg ((cs.toList.drop o).take n).toArray):=by
 unfold Mj;grind
def aaE{U:TypeId}{K:Z->Prop}{D:Prop}(h:o+n<=cs.size) :
  RO (O (ah cs U (0,0))) w b o n v K D=if v.cells.toList.length=n/\(v.cells.toList.all Value.oneCell')=A then K (bT w b (ah (oV cs o v.cells.toList) U (0,0))) else D:=by
 simp [RO,h]
def aaF{D:Prop}:VT (O cs) K D=K (.agg cs):=rfl
def aaG{K:Y->Z->Prop}{D:Prop}:VU (O cs) e n w K D=K (.slice (O ⟨w.heap.size,0,V⟩) n n) (w.alloc (ah cs e)):=rfl
def aaH(a:Array Y):(Value.agg a).cells=a:=rfl
def aaI(s:ByteArray):(a0U s).cells=#[.string s]:=rfl
def aaJ(k:IntKind)(n:Int):(Value.int k n).cells=#[.int k n]:=rfl
def aaK(a:Option Addr)(n c:Nat):(Value.slice a n c).cells=#[.slice a n c]:=rfl
def aaL(a:Option Addr):(a1l a).cells=#[.pointer a]:=rfl
def aaM(l:List Y):(Value.agg l.toArray).cells.toList=l:=rfl
def aaN(k:IntKind)(n:Int):(Value.int k n).cells.toList=[.int k n]:=rfl
def aaO(b:Bool):(Value.bool b).cells.toList=[.bool b]:=rfl
def aaP(s:ByteArray):(a0U s).cells.toList=[.string s]:=rfl
def aaQ(a:Option Addr)(n c:Nat):(Value.slice a n c).cells.toList=[.slice a n c]:=rfl
def aaR(a:Option Addr):(a1l a).cells.toList=[.pointer a]:=rfl
def aaS(t:TypeId)(v:Y):(Value.iface t v).cells.toList=[ak t v]:=rfl
def aaT:Value.nilIface.cells.toList=[aj]:=rfl
def aaU(f:Fn)(x y:Array Y):(Value.func f x y).cells.toList=[.func f x y]:=rfl
def aaV(r:Option Nat):(Value.map r).cells.toList=[.map r]:=rfl
def aaW(k:IntKind)(n:Int):(Value.int k n).oneCell'=true:=rfl
def aaX(b:Bool):(Value.bool b).oneCell'=true:=rfl
def aaY(s:ByteArray):(a0U s).oneCell'=true:=rfl
def aaZ(a:Option Addr)(n c:Nat):(Value.slice a n c).oneCell'=true:=rfl
def aa0(a:Option Addr):(a1l a).oneCell'=true:=rfl
def aa1(t:TypeId)(v:Y):(Value.iface t v).oneCell'=true:=rfl
def aa2:Value.nilIface.oneCell'=true:=rfl
def aa3(f:Fn)(x y:Array Y):(Value.func f x y).oneCell'=true:=rfl
def aa4(r:Option Nat):(Value.map r).oneCell'=true:=rfl
theorem VW{x:Int}(a:-9223372036854775808<=x)(b:x<=9223372036854775807):IntKind.i64.wrap x=x:=by
 unfold IntKind.wrap;have c:(2 ^ IntKind.i64.bits:Int)=18446744073709551616:=zd;have d:(2 ^ (IntKind.i64.bits-1):Int)=9223372036854775808:=zd;have e:IntKind.i64.signed=true:=rfl;grind
end Sx
open Go.Proofs.YtoegidfbnkaabaaGreatDoor.Sx
def _root_.Go.Proofs.YtoegidfbnkaabaaGreatDoor.Sx.aub:Tryz.prog.follows .mixedOrders=true:=zk
def aiT(k:Nat):Bool:=[2,3,4,5,6,7,8,9,10,11,12,13,14,15,16,17,18,19,20,21,22,23,24,25,26,27,28,29,30,31,32,33,34,35,36,37,38,39,40,41,42,43,44,45,46,47,48,49,50,51,52,53,57,58,59,60,61,62,63,64,65,66,67,68,69,70,71,72,73,74,75,76,77,78,79,80,81,82,83,84,85,86,90,91,92,93,94,95,96,97,98,99,100,101,102,103,104,105,106,107,108,109,111,112,113,114,115,116,117,118,119,120,121,122,123,124,125,126,127,128,129,130,131,132,133,134,135,136,137,138,139,140,141,142,143,144,145,146,147,148,149,151,152,153,154,155,156,157,158,159,160,161,162,163,164,165,166,168,169,170,171,172,173,174,175,177,178,179,180,181,202,205,206,207,208,209,210,211,212,213,214,215,216,217,218,219,220,221,222,223,224,225,226,227,228,248,264].contains k
def auc:([2,3,4,5,6,7,8,9,10,11,12,13,14,15,16,17,18,19,20,21,22,23,24,25,26,27,28,29,30,31,32,33,34,35,36,37,38,39,40,41,42,43,44,45,46,47,48,49,50,51,52,53,57,58,59,60,61,62,63,64,65,66,67,68,69,70,71,72,73,74,75,76,77,78,79,80,81,82,83,84,85,86,90,91,92,93,94,95,96,97,98,99,100,101,102,103,104,105,106,107,108,109,111,112,113,114,115,116,117,118,119,120,121,122,123,124,125,126,127,128,129,130,131,132,133,134,135,136,137,138,139,140,141,142,143,144,145,146,147,148,149,151,152,153,154,155,156,157,158,159,160,161,162,163,164,165,166,168,169,170,171,172,173,174,175,177,178,179,180,181,202,205,206,207,208,209,210,211,212,213,214,215,216,217,218,219,220,221,222,223,224,225,226,227,228,248,264].all (zE Tryz.prog))=true:=zk
def yB(l:Nat->List Nat)(j:Nat->Option (List Nat))(t:Nat->Nat)(a:Nat->Option (List Nat))(bl bj:Nat->List Nat)(sm sy:Nat->Bool):Sx.Good { P:=Tryz.prog,B:=fun t=>t == 4,calls:=aiT,live:=l,join:=j,tail:=t,held:=a,bl:=bl,bj:=bj,sum:=sm,sy:=sy }:=
 ⟨aub,fun k hk=>List.all_eq_true.1 auc k (by simpa [aiT] using hk)⟩
abbrev aW (x : List UInt8) : Y := .string (bs x)
abbrev aP (x : Array Y) (T : Nat) : Option Obj := O (ah x T)
abbrev cU (b n c : Nat) : Y := .slice (O ⟨b, 0, V⟩) n c
abbrev b9 : Y := .slice V 0 0
abbrev pp (b : Nat) : Y := au (O ⟨b, 0, V⟩)
abbrev pq (b o : Nat) : Y := au (O ⟨b, o, V⟩)
abbrev zi (n : Int) : Y := .int .i64 n
def zT (l : List Nat) (n : Nat) : Bool := match l with
 | [] => ae
 | a :: r => cond (a2y a n) A (zT r n)
def zL (l : List (Nat × List Nat)) (n : Nat) : List Nat := match l with
 | [] => []
 | (a, b) :: r => cond (a2y a n) b (zL r n)
def zN (l : List (Nat × Nat)) (n : Nat) : Nat := match l with
 | [] => 0
 | (a, b) :: r => cond (a2y a n) b (zN r n)
def zO (l : List (Nat × List Nat)) (n : Nat) : Option (List Nat) := match l with
 | [] => V
 | (a, b) :: r => cond (a2y a n) (O b) (zO r n)
open Go
namespace Sx
def zr{p:Prop}(h:p:=by with_unfolding_all rfl):p:=h
def aiU{α:Type}(x:α):tid x=x:=rfl
def OT(P:Program)(s:Sem Y)(w:Z)(K:Y->Prop)(X:Y->Z->Prop):Prop:=RD P s w K X
def WRp(P:Program)(s:Sem Y)(w:Z)(K:Y->Z->Prop)(X:Y->Z->Prop):Prop:=WR P s w K X
def WUp(P:Program)(s:Sem Unit)(w:Z)(K:Z->Prop)(X:Y->Z->Prop):Prop:=WU P s w K X
def CAp(P:Program)(k:FuncId)(args:Array Y)(w:Z)(K:Y->Z->Prop)(X:List PanicEntry->Z->Prop):Prop:=CA P k args w K X
def CQp(P:Program)(k:FuncId)(args:Array Y)(w:Z)(K:Y->Prop):Prop:=CQ P k args w K
def CVp(P:Program)(f:Y)(args:Array Y)(w:Z)(K:Y->Z->Prop)(X:List PanicEntry->Z->Prop):Prop:=CV P f args w K X
def CIp(P:Program)(v:Y)(name:String)(args:Array Y)(w:Z)(K:Y->Z->Prop)(X:List PanicEntry->Z->Prop):Prop:=CI P v name args w K X
def RS(v:Y)(a B:Prop):Prop:=BS v a B
def DFp(v:Y)(K:Fn->Array Y->Array Y->Prop):Prop:=DF v K
def VX(v:Y)(K:Y->Prop):Prop:=NC v K
def ai2(F:((Nat->Y)->Z->Prop)->(Nat->Y)->(Nat->Y)->Z->Prop)(s0:Nat->Y)(w0:Z):Prop:=OB F s0 w0
def JNp(F:((Nat->Y)->Z->Prop)->Prop)(R:(Nat->Y)->(Nat->Y)->Z->Prop):Prop:=JN F R
def JSp(F:((Nat->Y)->Z->Prop)->Prop)(R:(Nat->Y)->(Nat->Y)->Z->Prop):Prop:=JS F R
def VY(P:Program)(s:Sem Y)(S:Z->Prop)(K:Y->Prop):Prop:=uU P s S K
def HDp(F:(Z->Prop)->Prop):Prop:=HD F
section
variable{LL:List Oper}{C:mv}{P:Program}{o:Oper}{ops:Array Oper}{rest:List Oper}{a:Env}{w:Z}{next:Env->Z->Prop}{nj:Env->Prop}{Q:Exit->Env->Z->Prop}{c x y:Code}{K:Y->Prop}{S:Z->Prop}{m:Option Nat}{r:List Nat}{L:Array Bool}{i:Nat}
def JG:List Oper->Nat->Option Oper
 | [],_=>V
 | o::_,0=>O o
 | _::r,i+1=>JG r i
def aud(h:C.join (ED x)=V):gz C (.seq x y) Q a w=gz C x (BO (gz C y Q) Q) a w:=by simp only[gz,h]
def aue{l:List Nat}(h:C.join (ED x)=O l)(b:nd x=A)(c:C.sum (ED x)=ae):gz C (.seq x y) Q a w =
 JNp (fun j=>gz C x (BO (fun a' w'=>j (jk (zG a' l)) w') Q) a w) (fun s d w=>qi (C.bj (ED x)) (fr a (wr x) l s d) fun a=>gz C y Q a w):=by simp only[gz,h,b,c];rfl
def auf{l:List Nat}(h:C.join (ED x)=O l)(b:nd x=A)(c:C.sum (ED x)=A):gz C (.seq x y) Q a w =
 JSp (fun j=>gz C x (BO (fun a' w'=>j (jk (zG a' l)) w') Q) a w) (fun s d w=>qi (C.bj (ED x)) (fr a (wr x) l s d) fun a=>gz C y Q a w):=by simp only[gz,h,b,c];rfl
def aug:gz C .skip Q a w=Q .normal a w:=rfl
def auh{l:List Oper}{id:Nat}:gz C (.region id l.toArray ae) Q a w=xx C l.toArray Q l a w:=rfl
def aui{id:Nat}(h:C.held id=V)(b:VB ops (C.tail id)=A):gz C (.region id ops A) Q a w =
 AL C ops w.drew (fun a'=>xx C ops Q (ops.toList.drop (C.tail id)) a' w.drew) (ops.toList.take (C.tail id)) a:=by simp only[gz,h,b]
def auj{id m:Nat}{l:List Nat}(h:C.held id=O (m::l))(b:(l.length == ops.size && Region.noSelect ops)=A):gz C (.region id ops A) Q a w =
 HDp fun S=>S w.drew/\mJ C ops Q S (ZJ m) l (Array.replicate ops.size ae) a w.drew:=by simp only[gz,h,b];rfl
def auk{d:Operand}(h:VC C d=A):gz C (.cond d x y) Q a w=RS (a.eval d) (gz C x Q a w) (gz C y Q a w):=by simp only[gz,h];rfl
def aul{d:Operand}(h:VC C d=ae)(b:a.eval d = .bool A):gz C (.cond d x y) Q a w=gz C x Q a w:=by simp only[gz,h,b]
def aum{d:Operand}(h:VC C d=ae)(b:a.eval d = .bool ae):gz C (.cond d x y) Q a w=gz C y Q a w:=by simp only[gz,h,b]
def aun{id:Nat}:gz C (.block id c) Q a w=gz C c (FW id Q) a w:=rfl
def auo{id:Nat}:gz C (.exit id) Q a w=Q (.exit id) a w:=rfl
def aup:gz C .ret Q a w=Q .ret a w:=rfl
def auq{l:Nat}:gz C (.label l) Q a w=Q .normal a w:=rfl
def aur:gz C (.scope c) Q a w=gz C c (OD Q) a w:=rfl
def aus(h:nd c=A):gz C (.loop c) Q a w=ai2 (fun rec s d w=>qi (C.bl (Ht c)) (fr a (wr c) (C.live (Ht c)) s d) fun a=>gz C c (BO (fun a' w'=>rec (jk (zG a' (C.live (Ht c)))) w') Q) a w)
 (jk (zG a (C.live (Ht c)))) w:=by simp only[gz,h];rfl
def aut:BO next Q .normal a w=next a w:=rfl
def auu:BO next Q (.exit i) a w=Q (.exit i) a w:=rfl
def auv:BO next Q .ret a w=Q .ret a w:=rfl
def auw{l:List PanicEntry}:BO next Q (.panic l) a w=Q (.panic l) a w:=rfl
def auy:BO next Q (.goto i) a w=Q (.goto i) a w:=rfl
def auz:FW i Q .normal a w=Q .normal a w:=rfl
def auA(h:a2y j i=A):FW i Q (.exit j) a w=Q .normal a w:=by simp only[FW,h,aiU,cond]
def auB(h:a2y j i=ae):FW i Q (.exit j) a w=Q (.exit j) a w:=by simp only[FW,h,aiU,cond]
def auC:FW i Q .ret a w=Q .ret a w:=rfl
def auD{l:List PanicEntry}:FW i Q (.panic l) a w=Q (.panic l) a w:=rfl
def auE:OD Q .normal a w=Q .normal a w:=rfl
def auF:OD Q (.exit i) a w=Q (.exit i) a w:=rfl
def auG:OD Q .ret a w=Q .ret a w:=rfl
def auH{l:List PanicEntry}:OD Q (.panic l) a w=Q (.panic l) a w:=rfl
def auI{d:List Nat}:NP d Q .normal a w=Q .normal a w:=rfl
def auJ{d:List Nat}{l:List PanicEntry}:NP d Q (.panic l) a w=∀ f:Nat->Y,Q (.panic l) { a with f:=fun t=>cond (rA t d) (f t) (a.f t) } w:=rfl
def auK(b:LL=[]):xx C ops Q LL a w=Q .normal a w:=by rw[b];rfl
def auL(b:LL=o::rest)(h:a1y o (yz ops a)=A):xx C ops Q LL a w=lL C o a w (xx C ops Q rest) Q:=by simp only[b,xx,h]
def auM(b:LL=o::rest)(h:a1y o (yz ops a)=ae):xx C ops Q LL a w=xx C ops Q rest (a.put o.dst undef) w:=by simp only[b,xx,h]
def auN{q:Env->Prop}(b:LL=[]):AL C ops w q LL a=q a:=by rw[b];rfl
def auO{q:Env->Prop}(b:LL=o::rest)(h:a1y o (yz ops a)=A):AL C ops w q LL a=r9 C o a w (AL C ops w q rest):=by simp only[b,AL,h]
def auP{q:Env->Prop}(b:LL=o::rest)(h:a1y o (yz ops a)=ae):AL C ops w q LL a=AL C ops w q rest (a.put o.dst undef):=by simp only[b,AL,h]
def auQ{K:Env->Prop}:qi [] a K=K a:=rfl
def auR{K:Env->Prop}:qi (i::r) a K=RS (a.f i) (qi r (a.put (O i) (.bool A)) K) (qi r (a.put (O i) (.bool ae)) K):=rfl
def auS(h:(C.B o.type && early C o)=A):pD C o K v=RS v (K (.bool A)) (K (.bool ae)):=by simp only[pD,h];rfl
def auT(h:(C.B o.type && early C o)=ae):pD C o K v=K v:=by simp only[pD,h]
variable{d:Option Nat}{t n:Nat}{pos:String}{af:Array Edge}{g:Option (Nat×Bool)}{u v z:Operand}{args:Array Operand}{Df:Array Nat}{k:FuncId}{s:Sem Y}
def spec(o:Oper):Bool:=match o.op with
 | .move _ | .assign _ | .pick _ _ _ | .nilCheck _ | .defer _ | .binOp _ _ _ _ _=>A
 | .call { callee:=.value _,.. } | .call { callee:=.invoke _ _,.. }=>A
 | _=>ae
def VZ:Operand->Bool
 | .func _=>A
 | _=>ae
def auU(h:o.op = .move u):lL C o a w next Q=next (a.put o.dst (a.eval u)) w:=by simp only[lL,h]
def auV(h:o.op = .assign u):lL C o a w next Q=next (a.put o.dst (a.eval u)) w:=by simp only[lL,h]
def auW(h:o.op = .pick z u v)(b:a.eval z = .bool A):lL C o a w next Q=next (a.put o.dst (a.eval u)) w:=by simp only[lL,h,b]
def auX(h:o.op = .pick z u v)(b:a.eval z = .bool ae):lL C o a w next Q=next (a.put o.dst (a.eval v)) w:=by simp only[lL,h,b]
def auY(h:o.op = .nilCheck u):lL C o a w next Q=VX (a.eval u) fun v=>next (a.put o.dst v) w:=by simp only[lL,h];rfl
def auZ(h:o.op = .defer ⟨.value (.func k),args,Df⟩):lL C o a w next Q=next ({ a with defers:={ target:=.fn (.func k) #[],args:=jW a args }::a.defers }.put o.dst undef) w:=by simp only[lL,h]
def au0(h:o.op = .defer ⟨.value u,args,Df⟩)(b:VZ u=ae):lL C o a w next Q=DFp (a.eval u) fun fn x y=>next ({ a with defers:={ target:=.fn fn y,args:=x++jW a args }::a.defers }.put o.dst undef) w:=by
 cases u<;>first | (simp [VZ] at b;done) | (simp only[lL,h];rfl)
def au1(h:o.op = .call ⟨.value (.func k),args,Df⟩)(b:C.calls k=A):lL C o a w next Q=CAp C.P k (jW a args) w (fun v w'=>pD C o (fun v=>next (a.put o.dst v) w') v) (fun c w'=>Q (.panic c) a w'):=by simp only[lL,h,b];rfl
def au2(h:o.op = .call ⟨.value u,args,Df⟩)(b:VZ u=ae):lL C o a w next Q=CVp C.P (a.eval u) (jW a args) w (fun v w'=>pD C o (fun v=>next (a.put o.dst v) w') v) (fun c w'=>Q (.panic c) a w'):=by
 cases u<;>first | (simp [VZ] at b;done) | (simp only[lL,h];rfl)
def au3{nm:String}(h:o.op = .call ⟨.invoke u nm,args,Df⟩):lL C o a w next Q=CIp C.P (a.eval u) nm (jW a args) w (fun v w'=>pD C o (fun v=>next (a.put o.dst v) w') v) (fun b w'=>Q (.panic b) a w'):=by simp only[lL,h];rfl
def au4(h:spec o=ae)(b:zF a o=O s):lL C o a w next Q=OT C.P s w (fun v=>pD C o (fun v=>next (a.put o.dst v) w) v) (fun v w'=>Q (.panic [{ v,recovered:=false }]) a w'):=by
 unfold lL;unfold spec at h;split at h<;>first | cases h | skip
 simp_all;rfl
def au5{p:BinOp}{b:_}(h:o.op = .binOp p t u v b):lL C o a w next Q=OT C.P (bo p t u v (a.eval u) (a.eval v)) w (fun v=>pD C o (fun v=>next (a.put o.dst v) w) v) (fun v w'=>Q (.panic [{ v,recovered:=false }]) a w'):=by simp only[lL,h,zF];rfl
def au6(h:spec o=ae)(b:zF a o=V)(c:writing a o=O s):lL C o a w next Q=WRp C.P s w (fun v w'=>next (a.put o.dst v) w') (fun v w'=>Q (.panic [{ v,recovered:=false }]) a w'):=by
 unfold lL;unfold spec at h;split at h<;>first | cases h | skip
 simp_all;rfl
def au7{s:Sem Unit}(h:spec o=ae)(b:zF a o=V)(c:writing a o=V)(d:Vy a o=O s):lL C o a w next Q=WUp C.P s w (fun w'=>next (a.put o.dst undef) w') (fun v w'=>Q (.panic [{ v,recovered:=false }]) a w'):=by
 unfold lL;unfold spec at h;split at h<;>first | cases h | skip
 simp_all;rfl
def au8(h:o.op = .move u):r9 C o a w nj=nj (a.put o.dst (a.eval u)):=by simp only[r9,h]
def au9(h:o.op = .assign u):r9 C o a w nj=nj (a.put o.dst (a.eval u)):=by simp only[r9,h]
def avc(h:o.op = .pick z u v)(b:a.eval z = .bool A):r9 C o a w nj=nj (a.put o.dst (a.eval u)):=by simp only[r9,h,b]
def avd(h:o.op = .pick z u v)(b:a.eval z = .bool ae):r9 C o a w nj=nj (a.put o.dst (a.eval v)):=by simp only[r9,h,b]
def ave(h:o.op = .nilCheck u):r9 C o a w nj=VX (a.eval u) fun v=>nj (a.put o.dst v):=by simp only[r9,h];rfl
def avf(h:o.op = .call ⟨.value (.func k),args,Df⟩)(b:C.calls k=A):r9 C o a w nj=CQp C.P k (jW a args) w (fun v=>pD C o (fun v=>nj (a.put o.dst v)) v):=by simp only[r9,h,b];rfl
def avg(h:spec o=ae)(b:zF a o=O s):r9 C o a w nj=OT C.P s w (fun v=>pD C o (fun v=>nj (a.put o.dst v)) v) NX:=by
 unfold r9;unfold spec at h;split at h<;>first | cases h | skip
 simp_all;rfl
def avh{p:BinOp}{b:_}(h:o.op = .binOp p t u v b):r9 C o a w nj=OT C.P (bo p t u v (a.eval u) (a.eval v)) w (fun v=>pD C o (fun v=>nj (a.put o.dst v)) v) NX:=by simp only[r9,h,zF];rfl
def avi(h:o.op = .move u):sd C o a S nj=nj (a.put o.dst (a.eval u)):=by simp only[sd,h]
def avk(h:o.op = .assign u):sd C o a S nj=nj (a.put o.dst (a.eval u)):=by simp only[sd,h]
def avl(h:o.op = .pick z u v)(b:a.eval z = .bool A):sd C o a S nj=nj (a.put o.dst (a.eval u)):=by simp only[sd,h,b]
def avm(h:o.op = .pick z u v)(b:a.eval z = .bool ae):sd C o a S nj=nj (a.put o.dst (a.eval v)):=by simp only[sd,h,b]
def avn(h:o.op = .nilCheck u):sd C o a S nj=VX (a.eval u) fun v=>nj (a.put o.dst v):=by simp only[sd,h];rfl
def avo(h:spec o=ae)(b:zF a o=O s):sd C o a S nj=VY C.P s S (fun v=>pD C o (fun v=>nj (a.put o.dst v)) v):=by
 unfold sd;unfold spec at h;split at h<;>first | cases h | skip
 simp_all;rfl
def avp(h:spec o=ae)(b:zF a o=V)(c:Vx a o=O s):sd C o a S nj=VY C.P s S (fun v=>nj (a.put o.dst v)):=by
 unfold sd;unfold spec at h;split at h<;>first | cases h | skip
 simp_all;rfl
def avq{p:BinOp}{b:_}(h:o.op = .binOp p t u v b):sd C o a S nj=VY C.P (bo p t u v (a.eval u) (a.eval v)) S (fun v=>pD C o (fun v=>nj (a.put o.dst v)) v):=by simp only[sd,h,zF];rfl
def OV:∀ {l:Array Oper} {i:Nat} {o:Oper},JG l.toList i=O o->l[i]?=O o:=by
 intro l i o h;rw[<- Array.getElem?_toList];generalize l.toList=L at h;induction L generalizing i with
 | nil=>cases h
 | cons a r ih=>cases i with
  | zero=>exact h
  | succ i=>rw[a1U];exact ih h
def avr(h:a1w .any ops L=[]):mJ C ops Q S m [] L a w=Q .normal a w:=by simp only[mJ,h]
def avt(b:JG ops.toList i=O o)(c:(a1w .any ops L == [i])=A)(d:a1y o (yz ops a)=ae) :
 mJ C ops Q S m (i::r) L a w=mJ C ops Q S m r (L.setIfInBounds i A) (a.put o.dst undef) w:=by have h:=OV b;simp only[mJ,h,c,d]
def avu(b:JG ops.toList i=O o)(c:(a1w .any ops L == [i])=A)(d:a1y o (yz ops a)=A)(e:Vz a o=A) :
 mJ C ops Q S m (i::r) L a w=r9 C o a w (fun a'=>mJ C ops Q S m r (L.setIfInBounds i A) a' w):=by have h:=OV b;simp only[mJ,h,c,d,e]
def avv(b:JG ops.toList i=O o)(c:(a1w .any ops L == [i])=A)(d:a1y o (yz ops a)=A)(e:Vz a o=ae)(f:ug m (L.setIfInBounds i A)=A) :
 mJ C ops Q S m (i::r) L a w=lL C o a w (fun a' w'=>S w'/\mJ C ops Q S m r (L.setIfInBounds i A) a' w') (NP (qN ops.toList) Q):=by have h:=OV b;simp only[mJ,h,c,d,e,f]
def avw(b:JG ops.toList i=O o)(c:(a1w .any ops L == [i])=A)(d:a1y o (yz ops a)=A)(e:Vz a o=ae)(f:ug m (L.setIfInBounds i A)=ae) :
 mJ C ops Q S m (i::r) L a w=lL C o a w (fun a' w'=>mJ C ops Q S m r (L.setIfInBounds i A) a' w') (NP (qN ops.toList) Q):=by have h:=OV b;simp only[mJ,h,c,d,e,f]
def avx(b:JG ops.toList i=O o)(c:(a1w .any ops L == [i])=ae)(d:((a1w .any ops L).contains i && Region.free .any ops L i && Ro .any ops L m i)=A)(e:a1y o (yz ops a)=ae) :
 mJ C ops Q S m (i::r) L a w=mJ C ops Q S m r (L.setIfInBounds i A) (a.put o.dst undef) w:=by have h:=OV b;simp only[mJ,h,c,e,d]
def avy(b:JG ops.toList i=O o)(c:(a1w .any ops L == [i])=ae)(d:((a1w .any ops L).contains i && Region.free .any ops L i && Ro .any ops L m i)=A)(e:a1y o (yz ops a)=A) :
 mJ C ops Q S m (i::r) L a w=sd C o a S (fun a'=>mJ C ops Q S m r (L.setIfInBounds i A) a' w):=by have h:=OV b;simp only[mJ,h,c,e,d]
variable{x1 x2:Y}{f:Nat->Y}{j:Nat}{vs lv:List Nat}{sf df:Nat->Y}{al:List Operand}{ds:List Deferred}{pl:List (Nat×Operand)}
def avz:a.eval (.tmp i)=a.f i:=rfl
def avA{k:IntKind}{n:Int}:a.eval (.const (.int k n)) = .int k n:=rfl
def avB{b:Bool}:a.eval (.const (.bool b)) = .bool b:=rfl
def avC{l:List UInt8}:a.eval (.const (.string ⟨l.toArray⟩)) = aW l:=rfl
def avD:a.eval (.const aj) = aj:=rfl
def avE{p:Option Addr}:a.eval (.const (.pointer p)) = .pointer p:=rfl
def avF{p:Option Addr}{n c:Nat}:a.eval (.const (.slice p n c)) = .slice p n c:=rfl
def avG{r:Option Nat}:a.eval (.const (.map r)) = .map r:=rfl
def avH{t:TypeId}{v:Y}:a.eval (.const (ak t v)) = ak t v:=rfl
def avI{l:Array Y}:a.eval (.const (aq l)) = aq l:=rfl
def avJ:a.eval (.global i) = au (O ⟨i,0,V⟩):=rfl
def avK:a.eval (.func i) = .func (.func i) #[] #[]:=rfl
def avL:(a.put V x1)=a:=rfl
def avM(h:a2y i j=A):(a.put (O j) x1).f i=x1:=by simp only[Env.put,Jw,h,cond]
def avN(h:a2y i j=ae):(a.put (O j) x1).f i=a.f i:=by simp only[Env.put,Jw,h,cond]
def avO{d:Option Nat}:(a.put d x1).defers=a.defers:=by cases d<;>rfl
def avP(h:rA j lv=A):(fr a vs lv sf df).f j=sf j:=by simp only[fr,Rp,h,cond]
def avQ(h:rA j lv=ae)(b:rA j vs=A):(fr a vs lv sf df).f j=df j:=by simp only[fr,Rp,h,b,cond]
def avR(h:rA j lv=ae)(b:rA j vs=ae):(fr a vs lv sf df).f j=a.f j:=by simp only[fr,Rp,h,b,cond]
def avS:(fr a vs lv sf df).defers=a.defers:=rfl
def avT:(v8 []).f i=undef:=rfl
def avU{l:List Y}:(v8 (x1::l)).f 0=x1:=rfl
def avV{l:List Y}:(v8 (x1::l)).f (i+1)=(v8 l).f i:=rfl
def avW{l:List Y}:(v8 l).defers=[]:=rfl
def avX{α:Type}{c:Bool}{x y:α}(h:c=A):cond c x y=x:=by rw[h];rfl
def avY{α:Type}{c:Bool}{x y:α}(h:c=ae):cond c x y=y:=by rw[h];rfl
def avZ:jW a al.toArray=(al.map a.eval).toArray:=rfl
def av0:Rn a pl.toArray=(pl.map fun x=>(x.1,a.eval x.2)).toArray:=rfl
def av4:LU a V=none:=rfl
def av5:LU a (O u)=O (a.eval u):=rfl
def av7(h:lv=[]):zG a lv=[]:=by rw[h];rfl
def av8(h:lv=j::r):zG a lv=(j,a.f j)::zG a r:=by rw[h];rfl
def av9{K:Env->Prop}(h:lv=[]):qi lv a K=K a:=by rw[h];rfl
def awa{K:Env->Prop}(h:lv=i::r):qi lv a K=RS (a.f i) (qi r (a.put (O i) (.bool A)) K) (qi r (a.put (O i) (.bool ae)) K):=by rw[h];rfl
variable{fn:Func}{R:Ending->Z->Prop}{K1:List Y->Prop}{l:List Y}{rs V0:List ResultVar}
def awb(h:rs=[]):uX P rs f w l K1=K1 l:=by rw[h];rfl
def awc(h:rs = .tmp t::V0):uX P rs f w l K1=uX P V0 f w (l++[f t]) K1:=by rw[h];rfl
def awd(h:rs = .cell j t::V0):uX P rs f w l K1=OT P (Instr.loadAt t (f j)) w (fun v=>uX P V0 f w (l++[v]) K1) NX:=by rw[h];rfl
def awe:JC P fn R .normal a w=uX P fn.results.toList a.f w [] fun l=>R (ai (one l)) w:=rfl
def awf:JC P fn R .ret a w=uX P fn.results.toList a.f w [] fun l=>R (ai (one l)) w:=rfl
def awg{l:List PanicEntry}:JC P fn R (.panic l) a w=R (.panicked l) w:=rfl
def awh:Mg P fn R .normal a w=LV P (fun w=>uX P fn.results.toList a.f w [] fun l=>R (ai (one l)) w) R a.defers .returning w:=rfl
def awi:Mg P fn R .ret a w=LV P (fun w=>uX P fn.results.toList a.f w [] fun l=>R (ai (one l)) w) R a.defers .returning w:=rfl
def awj{l:List PanicEntry}:Mg P fn R (.panic l) a w=LV P (fun w=>uX P fn.results.toList a.f w [] fun l=>R (ai (one l)) w) R a.defers (.panicking l) w:=rfl
def awk:one [] = aq #[]:=rfl
def awl:one [x1]=x1:=rfl
def awm:one (x1::x2::l) = aq (x1::x2::l).toArray:=rfl
def awn:OT P s w K X=RD P s w K X:=rfl
def awo{K:Y->Z->Prop}:WRp P s w K X=WR P s w K X:=rfl
def awp{s:Sem Unit}{K:Z->Prop}:WUp P s w K X=WU P s w K X:=rfl
def awq{args:Array Y}{K:Y->Z->Prop}{X:List PanicEntry->Z->Prop}:CAp P k args w K X=CA P k args w K X:=rfl
def awr{args:Array Y}:CQp P k args w K=CQ P k args w K:=rfl
def aws{args:Array Y}{K:Y->Z->Prop}{X:List PanicEntry->Z->Prop}:CVp P x1 args w K X=CV P x1 args w K X:=rfl
def awt{nm:String}{args:Array Y}{K:Y->Z->Prop}{X:List PanicEntry->Z->Prop}:CIp P x1 nm args w K X=CI P x1 nm args w K X:=rfl
def awu{B:Prop}:RS x1 A0 B=BS x1 A0 B:=rfl
def awv{K:Fn->Array Y->Array Y->Prop}:DFp x1 K=DF x1 K:=rfl
def aww:VX x1 K=NC x1 K:=rfl
def awx{F:((Nat->Y)->Z->Prop)->(Nat->Y)->(Nat->Y)->Z->Prop}:ai2 F sf w=OB F sf w:=rfl
def awy{F:((Nat->Y)->Z->Prop)->Prop}{R:(Nat->Y)->(Nat->Y)->Z->Prop}:JNp F R=JN F R:=rfl
def awz{F:((Nat->Y)->Z->Prop)->Prop}{R:(Nat->Y)->(Nat->Y)->Z->Prop}:JSp F R=JS F R:=rfl
def awA:VY P s S K=uU P s S K:=rfl
def awB{F:(Z->Prop)->Prop}:HDp F=HD F:=rfl
def awC:(fun v w'=>R (.panicked [{ v,recovered:=false }]) w')=PX R:=rfl
def awD:(fun v w'=>∀ _:Nat->Y,R (.panicked [{ v,recovered:=false }]) w')=PXA R:=rfl
def awE:(fun a w'=>∀ _:Nat->Y,R (.panicked a) w')=LQ R:=rfl
def awF:(fun a w'=>R (.panicked a) w')=PC R:=rfl
end
def cqD{C:mv}(G:Good C){f:FuncId}{c:Code}{args:List Y}{S:Prop}(b:C.P.funcs[f]?=O fn)(d:fn.body=O c)
  (hk:(((wr c).all fun i=>decide (i<fn.ntmps)) && Nat.ble args.length fn.ntmps)=A) (he:qi [] (v8 args) (fun a=>gz C c (Mg C.P fn R) a w)=S) (h:S):Calls C.P f args.toArray w R:=by
 simp only[Bool.and_eq_true] at hk;exact atV G b d hk.1 (Nat.le_of_ble_eq_true hk.2) [] he h
end Sx
def zX:=(a0B @aud (a0B @aue (a0B @auf (a0B @aug (a0B @auh (a0B @aui (a0B @auj (a0B @auk (a0B @aul (a0B @aum (a0B @aun (a0B @auo (a0B @aup (a0B @auq (a0B @aur (a0B @aus (a0B @aut (a0B @auu (a0B @auv (a0B @auw (a0B @auy (a0B @auz (a0B @auA (a0B @auB (a0B @auC (a0B @auD (a0B @auE (a0B @auF (a0B @auG (a0B @auH (a0B @auI (a0B @auJ (a0B @auK (a0B @auL (a0B @auM (a0B @auN (a0B @auO (a0B @auP (a0B @auQ (a0B @auR (a0B @auS (a0B @auT (a0B @auU (a0B @auV (a0B @auW (a0B @auX (a0B @auY (a0B @auZ (a0B @au0 (a0B @au1 (a0B @au2 (a0B @au3 (a0B @au4 (a0B @au5 (a0B @au6 (a0B @au7 (a0B @au8 (a0B @au9 (a0B @avc (a0B @avd (a0B @ave (a0B @avf (a0B @avg (a0B @avh (a0B @avi (a0B @avk (a0B @avl (a0B @avm (a0B @avn (a0B @avo (a0B @avp (a0B @avq (a0B @avr (a0B @avt (a0B @avu (a0B @avv (a0B @avw (a0B @avx (a0B @avy (a0B @avz (a0B @avA (a0B @avB (a0B @avC (a0B @avD (a0B @avE (a0B @avF (a0B @avG (a0B @avH (a0B @avI (a0B @avJ (a0B @avK (a0B @avL (a0B @avM (a0B @avN (a0B @avO (a0B @avP (a0B @avQ (a0B @avR (a0B @avS (a0B @avT (a0B @avU (a0B @avV (a0B @avW (a0B @avX (a0B @avY (a0B @avZ (a0B @av0 (a0B @av4 (a0B @av5 (a0B @av7 (a0B @av8 (a0B @av9 (a0B @awa (a0B @awb (a0B @awc (a0B @awd (a0B @awe (a0B @awf (a0B @awg (a0B @awh (a0B @awi (a0B @awj (a0B @awk (a0B @awl @awm))))))))))))))))))))))))))))))))))))))))))))))))))))))))))))))))))))))))))))))))))))))))))))))))))))))))))))))))))))))))))))
def zY:=(a0B @awn (a0B @awo (a0B @awp (a0B @awq (a0B @awr (a0B @aws (a0B @awt (a0B @awu (a0B @awv (a0B @aww (a0B @awx (a0B @awy (a0B @awz (a0B @awA (a0B @awB (a0B @awC (a0B @awD (a0B @awE @awF))))))))))))))))))
def zn{B:Prop}(h:A0=B:=by(simp (maxSteps:=10000000) (disch:=(refine id ?_;with_unfolding_all rfl)) only[↓zX,zY,List.map,List.nil_append,List.cons_append,List.toList_toArray,List.append_toArray];try rfl)):A0=B:=h
abbrev lp(p:Prop):Prop:=p
def ge l j t h b c s y:=yB (zL l) (zO j) (zN t) (zO h) (zL b) (zL c) (zT s) (zT y)
def gd l j t h b c y:=yB (zL l) (zO j) (zN t) (zO h) (zL b) (zL c) (fun _=>A) (zT y)
def gc l j y:=gd l j [] [] [] [] y
def cz {C:mv} (w:World) (R:Ending->World->Prop) (args:List Value) (G:Sx.Good C) {f:FuncId} {c:Code} {S:Prop} (b:C.P.funcs[f]?=some fn) (d:fn.body=some c:=by rfl)
  (hk:(nd c && ((wr c).all fun i=>decide (i<fn.ntmps)) && Nat.ble args.length fn.ntmps)=true:=by kernel_rfl) (he:qi [] (v8 args) (fun a=>gz C c (JC C.P fn R) a w)=S:=by exact zn) (h:lp S):Calls C.P f args.toArray w R:=
 cq G b d hk he h
def cy {C:mv} (w:World) (R:Ending->World->Prop) (args:List Value) (G:Sx.Good C) {f:FuncId} {c:Code} {S:Prop} (b:C.P.funcs[f]?=some fn) (d:fn.body=some c:=by rfl)
  (hk:(((wr c).all fun i=>decide (i<fn.ntmps)) && Nat.ble args.length fn.ntmps)=true:=by kernel_rfl) (he:qi [] (v8 args) (fun a=>gz C c (Mg C.P fn R) a w)=S:=by exact zn) (h:lp S):Calls C.P f args.toArray w R:=
 cqD G b d hk he h
end Go.Proofs.YtoegidfbnkaabaaGreatDoor
namespace Go.Proofs.YtoegidfbnkaabaaGreatDoor
open Go.Proofs.YtoegidfbnkaabaaGreatDoor.Sx
variable{cs:Array Y}{n:Nat}{v:Y}
section
variable{p0 p1 p2 p3 p4 p5 p6 p7:Y}{w:Z}{R:Ending->Z->Prop}
def awJ:=cz w R [p0] (gc [(4,[2,3]),(11,[6]),(19,[2,3,88])] [(2001,[]),(6000,[25]),(7001,[3]),(12001,[6]),(15000,[79]),(17002,[2,3])] [11,16,24,25,31,42,43,77,78,79,89,95]) Tryz.func84
def awK:=cz w R [p0,p1,p2] (gc [] [(2000,[25]),(3008,[])] [23,24,25,29,30,33,37,38,41]) Tryz.func112
def awL:=cz w R [p0] (gc [(1,[2])] [(4001,[]),(8001,[]),(13002,[]),(14000,[72]),(15001,[]),(17001,[])] [13,23,37,55,71,72,76]) Tryz.func46
def awM:=cz w R [p0] (gc [] [] []) Tryz.func28
def awN:=cz w R [p0,p1] (gc [] [] []) Tryz.func47
def aa6:=cz w R [p0] (gd [] [] [(6,10)] [] [] [] [6,8,9,12,21,24]) Tryz.func23
end
namespace Sx
open Go
def F8(P:Program)(t:TypeId):Bool:=match P.underlying t with | some (.pointer _)=>A | _=>ae
def V1(P:Program)(t:TypeId):Bool:=match P.underlying t with | some (.slice _)=>A | _=>ae
def aa7(P:Program)(t:TypeId):Bool:=match P.underlying t with | some (.map _ _)=>A | _=>ae
def yC(P:Program)(t:TypeId):Bool:=match P.underlying t with | some (.interface _)=>A | _=>ae
section
variable{P:Program}{t:TypeId}{x y:Operand}{w:Z}{K:Y->Prop}{X:Y->Z->Prop}
def ai8(h:F8 P t=A)(p:Option Addr):(Op.equal t (.pointer p) (au V)).run P w = .ok p.isNone w:=by
 grind [F8,run_equal_pointer_nil,Program.pointee]
def ai9(h:V1 P t=A)(a:Option Addr)(n c:Nat):(Op.equal t (.slice a n c) b9).run P w = .ok a.isNone w:=by
 grind [V1,run_equal_slice_nil]
def awO(h:aa7 P t=A)(r:Option Nat):(Op.equal t (.map r) (.map V)).run P w = .ok r.isNone w:=by
 grind [aa7,run_equal_map_nil]
def Mm(h:F8 P t=A)(p:Option Addr):RD P (bo .eql t x y (.pointer p) (au V)) w K X=K (.bool p.isNone):=
 ig (by simp [bo,eqGuard,binOp,a0L,ai8 h])
def aa8(h:F8 P t=A)(p:Option Addr):RD P (bo .neq t x y (.pointer p) (au V)) w K X=K (.bool !p.isNone):=
 ig (by simp [bo,eqGuard,binOp,a0L,ai8 h])
def aja(h:V1 P t=A)(p:Option Addr)(n c:Nat):RD P (bo .eql t x y (.slice p n c) b9) w K X=K (.bool p.isNone):=
 ig (by simp [bo,eqGuard,binOp,a0L,ai9 h])
def awP(h:V1 P t=A)(p:Option Addr)(n c:Nat):RD P (bo .neq t x y (.slice p n c) b9) w K X=K (.bool !p.isNone):=
 ig (by simp [bo,eqGuard,binOp,a0L,ai9 h])
def awQ(h:aa7 P t=A)(p:Option Nat):RD P (bo .eql t x y (.map p) (.map V)) w K X=K (.bool p.isNone):=
 ig (by simp [bo,eqGuard,binOp,a0L,awO h])
def F9(h:yC P t=A):P.underlying t=O (.interface (P.methodsAt t)):=by
 grind [yC,Program.methodsAt]
def ajb(h:yC P t=A)(u:TypeId)(v:Y):RD P (bo .eql t x y (ak u v) aj) w K X=K (.bool ae):=
 ig (by simp [bo,eqGuard,binOp,a0L,run_equal_held_nil w t u v (F9 h)])
def awR(h:yC P t=A)(u:TypeId)(v:Y):RD P (bo .neq t x y (ak u v) aj) w K X=K (.bool A):=
 ig (by simp [bo,eqGuard,binOp,a0L,run_equal_held_nil w t u v (F9 h)])
def ajc(h:yC P t=A)(c:Y):RD P (bo .eql t x (.const c) aj aj) w K X=K (.bool A):=
 ig (by simp [bo,eqGuard,binOp,a0L,run_equal_nil_nil w t (F9 h)])
def awS(h:yC P t=A)(c:Y):RD P (bo .neq t x (.const c) aj aj) w K X=K (.bool ae):=
 ig (by simp [bo,eqGuard,binOp,a0L,run_equal_nil_nil w t (F9 h)])
def ajd(P:Program)(T:TypeId):Option (Nat×TypeId):=match P.underlying T with | some (.array n e)=>O (n,e) | _=>V
def RU(cs:Array Y)(i:Int)(K:Y->Prop)(D:Prop):RT (K,D):=match cs[i.toNat]? with | some v=>K v | none=>D
def aa9{i:Int}{K:Y->Prop}{D:Prop}(h:cs[i.toNat]?=O v):RU cs i K D=K v:=by grind [RU]
def awT{T e:TypeId}{k:IntKind}{i:Int}(h:ajd P T=O (n,e))(he:(VR P e && sized P e 1)=A)(a:0<=i)(b:i<n) :
  RD P (a2h T (.agg cs) (.int k i)) w K X=RU cs i K (F3 P (a2h T (.agg cs) (.int k i)) w K X):=by
 unfold RU;split
 .rename_i v hv;refine ig ?_;unfold ajd at h;split at h
  .rename_i c e' hu;simp only[a0z,a0X] at h;obtain⟨rfl,rfl⟩:=h;simp only[Bool.and_eq_true] at he;simp only[a2h,a0L,asIntOf,a1n,a0K,run_underlying hu,zip (a0B a b),F6 he.2,Nat.mul_one];unfold part;simp only[a0L,aiK he.1,a0K,hv];simp
  grind
 .rfl
end
def zG1:=a0B @aaA (a0B @jF (a0B @aaa (a0B @aab (a0B @OP (a0B @OQ (a0B @F4 (a0B @F5 (a0B @aad (a0B @aae (a0B @aaf (a0B @aag (a0B @aah (a0B @aai (a0B @aaj (a0B @aak (a0B @aal (a0B @aao (a0B @aap (a0B @aam (a0B @aan (a0B @aau (a0B @aav (a0B @aaw (a0B @aax (a0B @VV (a0B @aar (a0B @aaB (a0B @aaC (a0B @aa9 (a0B @aaD (a0B @aaE (a0B @aaF (a0B @aaG (a0B @Mi (a0B @tz (a0B @qo (a0B @jh (a0B @RM (a0B @BU (a0B @uY (a0B @size_alloc (a0B @RR (a0B @aaM (a0B @aaH (a0B @aaI (a0B @aaJ (a0B @aaK (a0B @aaL (a0B @aaN (a0B @aaO (a0B @aaP (a0B @aaQ (a0B @aaR (a0B @aaS (a0B @aaT (a0B @aaU (a0B @aaV (a0B @aaW (a0B @aaX (a0B @aaY (a0B @aaZ (a0B @aa0 (a0B @aa1 (a0B @aa2 (a0B @aa3 (a0B @aa4 (a0B @VW (a0B @u8w (a0B @VQ (a0B @Z7 (@Z8)))))))))))))))))))))))))))))))))))))))))))))))))))))))))))))))))))))))
def zG2:=a0B @Int.toNat_natCast (a0B @Option.isNone_none.{0} (a0B @Option.isNone_some.{0} (a0B @a2A.{0} (a0B @a1T.{0} (a0B @a1U.{0} (a0B @List.setIfInBounds_toArray.{0} (a0B @List.set_cons_zero.{0} (a0B @List.set_cons_succ.{0} (a0B @List.size_toArray.{0} (a0B @List.length_cons.{0} (a0B @List.length_nil.{0} (a0B @List.drop_zero.{0} (a0B @List.drop_succ_cons.{0} (a0B @List.take_succ_cons.{0} (a0B @List.take_zero.{0} (a0B @List.take_nil.{0} (a0B @List.drop_nil.{0} (a0B @List.all_cons.{0} (a0B @List.all_nil.{0} (a0B @Bool.and_true (a0B @Bool.true_and (a0B @Nat.zero_add (a0B @Nat.add_zero (a0B @Nat.mul_one (a0B @and_self (a0B @and_true (a0B @true_and (a0B @decide_true (a0B @decide_false (a0B @Bool.not_true (a0B @Bool.not_false (a0B @not_true_eq_false (@not_false_eq_true)))))))))))))))))))))))))))))))))
def zA {p q : Prop} (a : p) (b : q) : p /\ q := ⟨a, b⟩
def zS := (zA @size_alloc (zA @BU (zA @uY (zA @List.size_toArray.{0} (zA @List.length_cons.{0} @List.length_nil.{0})))))
def zq {p:Prop}(h:p:=by first|assumption|omega|simp only[zS]<;>omega|decide):p:=h
def zH := (zA @Mi (zA @tz (zA @qo (zA @jh (zA @RM (zA @BU (zA @uY @size_alloc)))))))
def zG0 := (zA @Pr.eq_1 (zA @PX.eq_1 (zA @PC.eq_1 (zA @NX.eq_1 (zA @ends.eq_1 (zA @ends.eq_2 (zA @ends.eq_3 (zA @EI.eq_1 (zA @EI.eq_2 (zA @oV.eq_1 (zA @oV.eq_2 (zA @jk.eq_1 (zA @jk.eq_2 (zA @forall_const.{0} (zA @forall_const.{1} (zA @eq_self.{1} (zA zG1 zG2)))))))))))))))))
end Sx
