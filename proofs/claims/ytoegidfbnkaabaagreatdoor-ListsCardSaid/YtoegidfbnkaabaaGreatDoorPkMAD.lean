/- A part of one proof (SxO). -/
import Derived.Test.YtoegidfbnkaabaaGreatDoorPkMAC
import Derived.LaidEql
import Derived.Laws.MakeOwn
import Derived.Laws.StructEq
import Derived.Lib.AppendStr
import Derived.MapKept
import Derived.WideMake
import Derived.Laws.Runes
set_option linter.all false
set_option maxRecDepth 100000
set_option maxHeartbeats 8000000
open Option renaming some → O, none → V
open Go renaming Value → Y, World → Z
open Bool renaming true → G, false → ae
open Go.Obj renaming cells → ah
open Go.Value renaming nilIface → aj, iface → ak, tuple → aq, pointer → au
open Option.some renaming injEq → a3I
open Go.Result renaming andThen_ok → a3W
open Go.Sem renaming run_bind → a3X
open Go.Instr renaming typeAssert → a38, lookup → a4S, mapUpdate → a5p, missingMethod → a5F, findNow → a68, findKey → a69, checkKey → a7z
open Go.MapKept renaming run_setObj_map → a5G
open Go.Op renaming equalIn → a58, equal → a6R
open Go.Lib renaming run_append_own_string → a7D
namespace Go.Proofs.YtoegidfbnkaabaaGreatDoor
variable{K:Y->Prop}{X:Y->Z->Prop}{b base c i m n pb:Nat}{cs iF:Array Y}{es:Array MapEntry}{u v z:Y}{Fq Qh:IntKind}{w:Z}{xs:List Y}{y:Operand}
namespace Sx
open Go
def acM(a b:List UInt8):(bs a == bs b)=decide (a=b):=by
 change (a.toArray == b.toArray)=_;grind
section
variable{P:Program}{w:Z}{K:Y->Prop}{X:Y->Z->Prop}{x y:Operand}
def akN{u:TypeId}(h:Kt P u=G):∃ d,P.underlying u=O d/\∀ ms,d≠.interface ms:=by
 grind [Kt]
def To{u c:TypeId}(e:Kt P u=G)(f:Au P u=O z)(t:TypeId)(v:Y) :
  RD P (a38 (ak t v) c u G) w K X=if t=u then K (aq #[v,.bool G]) else K (aq #[z,.bool ae]):=by
 obtain⟨d,a,b⟩:=akN e;split
 .rename_i h;subst h;refine gR ?_;unfold a38;simp only[a3X,run_underlying a,a3W];cases d<;>first | exact absurd J (b _) | simp
 .rename_i h;refine gR ?_;unfold a38;simp only[a3X,run_underlying a,a3W];cases d<;>first | exact absurd J (b _) | simp [h,Fp f]
def Tp{u a:TypeId}(b:Kt P u=G)(c:Au P u=O z) :
  RD P (a38 aj a u G) w K X=K (aq #[z,.bool ae]):=by
 obtain⟨d,e,f⟩:=akN b;refine gR ?_;unfold a38;simp only[a3X,run_underlying e,a3W];cases d<;>first | exact absurd J (f _) | simp [Fp c]
def hasB(P:Program)(u t:TypeId):Bool:=
 match P.underlying u with
 | some (.interface want)=>match P.info? t with
  | some i=>(a5F want i.methods).isNone
  | none=>ae
 | _=>ae
def XA(P:Program)(u t:TypeId):Bool:=
 match P.underlying u with
 | some (.interface want)=>match P.info? t with
  | some i=>(a5F want i.methods).isSome
  | none=>ae
 | _=>ae
def ayC{u a t:TypeId}(h:hasB P u t=G)(v:Y):RD P (a38 (ak t v) a u G) w K X=K (aq #[ak t v,.bool G]):=by
 refine gR ?_;unfold hasB at h;split at h
 .rename_i want hu;split at h
  .rename_i i hi;unfold a38;simp only[a3X,run_underlying hu,a3W,typeInfo,program,Sem.run,hi,Sem.run_pure];cases hm:a5F want i.methods with
   | none=>simp
   | some m=>grind
  grind
 grind
def ayD{u a t:TypeId}(h:XA P u t=G)(b:Au P u=O z)(v:Y):RD P (a38 (ak t v) a u G) w K X=K (aq #[z,.bool ae]):=by
 refine gR ?_;unfold XA at h;split at h
 .rename_i want hu;split at h
  .rename_i i hi;unfold a38;simp only[a3X,run_underlying hu,a3W,typeInfo,program,Sem.run,hi,Sem.run_pure];cases hm:a5F want i.methods with
   | none=>grind
   | some m=>simp [Fp b]
  grind
 grind
def ayE{u a:TypeId}(h:yS P u=G)(b:Au P u=O z):RD P (a38 aj a u G) w K X=K (aq #[z,.bool ae]):=by
 refine gR ?_;unfold a38;simp only[a3X,run_underlying (GX h),a3W];simp [Fp b]
def Kw(P:Program)(t:TypeId):Bool:=match P.info? t with | some i=>i.comparable | none=>ae
def wY(P:Program)(t:TypeId):Bool:=match P.underlying t with | some .string=>G | _=>ae
def acN(P:Program)(t:TypeId):Bool:=match P.underlying t with | some (.int _)=>G | _=>ae
def Ax(P:Program)(t:TypeId):Bool:=match P.underlying t with | some (.pointer e)=>(match P.info? e with | some i=>i.size != 0 | none=>ae) | _=>ae
def ayF{T:TypeId}(h:yS P T=G){t a:TypeId}(b:t≠a)(v v':Y):(a6R T (ak t v) (ak a v')).run P w = .ok ae w:=by
 have k:∀ d:Nat,(a58 (d+1) T (ak t v) (ak a v')).run P w = .ok ae w:=fun d=>by simp [a58,run_underlying (GX h),b]
 exact k 9999
def acO{t:TypeId}(h:Kw P t=G):∃ i,P.info? t=O i/\i.comparable=true:=by
 grind [Kw]
def ayG{T t:TypeId}(h:yS P T=G)(e:Kw P t=G)(c:wY P t=G)(a b:List UInt8):(a6R T (ak t (aW a)) (ak t (aW b))).run P w = .ok (decide (a=b)) w:=by
 obtain⟨i,hi,f⟩:=acO e;unfold wY at c;split at c
 .rename_i hu;have k:∀ d:Nat,(a58 (d+2) T (ak t (aW a)) (ak t (aW b))).run P w = .ok (decide (a=b)) w:=fun d=>by
   simp [a58,run_underlying (GX h),run_underlying hu,typeInfo,hi,f,acM]
  exact k 9998
 grind
def ayH{T t:TypeId}(h:yS P T=G)(e:Kw P t=G)(c:acN P t=G)(k:IntKind)(a b:Int):(a6R T (ak t (.int k a)) (ak t (.int k b))).run P w = .ok (decide (a=b)) w:=by
 obtain⟨i,hi,f⟩:=acO e;unfold acN at c;split at c
 .rename_i hu;have k':∀ d:Nat,(a58 (d+2) T (ak t (.int k a)) (ak t (.int k b))).run P w = .ok (decide (a=b)) w:=fun d=>by
   simp [a58,run_underlying (GX h),run_underlying hu,typeInfo,hi,f];grind
  exact k' 9998
 grind
def acP{t:TypeId}(h:Ax P t=G){a:Nat}{cb:Array Y}{g tb:TypeId}(j:w.heap[a]?=aO iF g)(l:w.heap[b]?=aO cb tb) :
  (a6R t (pp a) (pp b)).run P w = .ok (decide (a=b)) w:=by
 unfold Ax at h;split at h
 .rename_i e hu;split at h
  .rename_i i hi;have c:i.size≠0:=zg;have k:∀ d:Nat,(a58 (d+1) t (pp a) (pp b)).run P w = .ok (decide (a=b)) w:=fun d=>by
    by_cases f:a=b
    .subst f;simp [a58,run_underlying hu,sizeOf,typeInfo,hi,c,run_sameAddr_same]
    .have m:(⟨a,0,V⟩:Addr)≠⟨b,0,V⟩:=zg;simp [a58,run_underlying hu,sizeOf,typeInfo,hi,c,run_sameAddr_other w m j l,f]
   exact k 9999
  grind
 grind
def ayI{T t:TypeId}(h:yS P T=G)(k:Kw P t=G)(c:Ax P t=G){a:Nat}{cb:Array Y}{l tb:TypeId}(m:w.heap[a]?=aO iF l)(n:w.heap[b]?=aO cb tb) :
  (a6R T (ak t (pp a)) (ak t (pp b))).run P w = .ok (decide (a=b)) w:=by
 obtain⟨i,hi,f⟩:=acO k;unfold Ax at c;split at c
 .rename_i e hu;split at c
  .rename_i j g;have o:j.size≠0:=by simpa using c
   unfold a6R Op.maxDepth;by_cases d:a=b
   .subst d;rw[run_equalIn_iface_ptr_same w 9998 ⟨a,0,V⟩ (GX h) hu hi f g];simp
   .have p:(⟨a,0,V⟩:Addr)≠⟨b,0,V⟩:=by simp [d]
    rw[run_equalIn_iface_ptr_other w 9998 (GX h) hu hi f g o p m n];simp [d]
  .cases c
 .cases c
def DX{T:TypeId}(h:yS P T=G){t a:TypeId}(b:t≠a)(v v':Y):RD P (bo .eql T x y (ak t v) (ak a v')) w K X=K (.bool ae):=gR (by simp [bo,eqGuard,binOp,a3X,ayF h b v v'])
def ayJ{T t:TypeId}(h:yS P T=G)(c:Kw P t=G)(d:wY P t=G)(a b:List UInt8):RD P (bo .eql T x y (ak t (aW a)) (ak t (aW b))) w K X=K (.bool (decide (a=b))):=gR (by simp [bo,eqGuard,binOp,a3X,ayG h c d a b])
def ayK{T t:TypeId}(h:yS P T=G)(c:Kw P t=G)(d:acN P t=G)(k:IntKind)(a b:Int):RD P (bo .eql T x y (ak t (.int k a)) (ak t (.int k b))) w K X=K (.bool (decide (a=b))):=gR (by simp [bo,eqGuard,binOp,a3X,ayH h c d k a b])
def ayL{T t:TypeId}(h:yS P T=G)(c:Kw P t=G)(d:Ax P t=G){a:Nat}{cb:Array Y}{e tb:TypeId}(f:w.heap[a]?=aO iF e)(g:w.heap[b]?=aO cb tb) :
 RD P (bo .eql T x y (ak t (pp a)) (ak t (pp b))) w K X=K (.bool (decide (a=b))):=gR (by simp [bo,eqGuard,binOp,a3X,ayI h c d f g])
def ayM{t:TypeId}(h:Ax P t=G){a:Nat}{cb:Array Y}{c tb:TypeId}(d:w.heap[a]?=aO iF c)(e:w.heap[b]?=aO cb tb) :
 RD P (bo .eql t x y (pp a) (pp b)) w K X=K (.bool (decide (a=b))):=gR (by simp [bo,eqGuard,binOp,a3X,acP h d e])
end
section
variable{P:Program}{w:Z}{K:Y->Prop}{X:Y->Z->Prop}
def akO{ts:Array TypeId}{t:TypeId}{k k':IntKind}(a b:Int):RD P (Builtin.min_ ts t #[.int k a,.int k' b]) w K X=K (.int k (if b<a then b else a)):=gR (by simp [Builtin.min_,Builtin.min2])
def ayN{ts:Array TypeId}{t:TypeId}{k:IntKind}(a b:Int):RD P (Builtin.max_ ts t #[.int k a,.int Fq b]) w K X=K (.int k (if b > a then b else a)):=gR (by simp [Builtin.max_,Builtin.max2])
def XB{t:TypeId}{x:Operand}(k:IntKind)(a b:Int)(h:b≠0):RD P (bo .rem t x y (.int k a) (.int k b)) w K X=K (.int k (a.tmod b)):=gR (by simp [bo,eqGuard,binOp,Op.intDiv,h])
def acQ{t:TypeId}{x y:Operand}(k:IntKind)(a b:Int)(h:b≠0):RD P (bo .quo t x y (.int k a) (.int k b)) w K X=K (.int k (k.wrap (a.tdiv b))):=gR (by simp [bo,eqGuard,binOp,Op.intDiv,h])
def akP{s d:TypeId}(b:(P.underlying s).isSome=G)(c:wY P d=G){k:IntKind}(a:n<128){K:Y->Z->Prop}:WR P (convert s d (.int k n)) w K X=K (aW [UInt8.ofNat n]) w:=by
 have f:P.underlying d=O .string:=by
  grind [wY]
 have h:∀ m:Fin 128,(Utf8.encode (m.val:Int)).data=#[UInt8.ofNat m.val]:=zd;have e:Utf8.encode (n:Int)=bs [UInt8.ofNat n]:=by
  have:=h ⟨n,a⟩;apply ByteArray.ext;omega
 refine vw ?_;grind [run_convert_int_string]
end
section
variable{P:Program}{w:Z}{K:Y->Z->Prop}{X:Y->Z->Prop}
def msB(P:Program)(T:TypeId):Option (TypeId×Y×Nat×Nat):=
 match P.underlying T with
 | some (.slice e)=>match P.info? e with
  | some i=>match i.zero with
   | some z=>O (e,z,i.size,i.bytes)
   | none=>V
  | none=>V
 | _=>V
def acR{T e:TypeId}{by_:Nat}(h:msB P T=O (e,z,pb,by_))(d:n<=m)(a:by_<=1000)(hm:m<=1000000) :
  WR P (Instr.makeSlice T (.int Fq n) (.int Qh m)) w K X=K (cS w.heap.size n m) (w.alloc (ah (madeCells z.cells (m*pb)) e)):=by
 unfold msB at h;split at h
 .rename_i e' hu;split at h
  .rename_i i hi;split at h
   .rename_i b c;simp only[a3I,Prod.mk.injEq] at h;obtain⟨rfl,rfl,rfl,rfl⟩:=h;refine vw ?_;have f:i.bytes*m<=1000*1000000:=Nat.mul_le_mul a hm;have:=run_make (P:=P) w T e' i b hu hi c Fq Qh n m zo zo zo zo;exact yH
   .cases h
  .cases h
 .cases h
def akR(P:Program)(t u e:TypeId):Bool:=
 (match P.underlying t with | some (.slice e')=>e' == e | _=>ae) && wY P u && (match P.info? e with | some i=>(match i.zero with | some (.int .u8 0)=>G | _=>ae) && i.size == 1 && i.bytes == 1 | none=>ae)
def akS{t u ty e:TypeId}(m:akR P t u e=G)(d:w.ownsRow base e 1 v n xs)(s:List UInt8)
  (B:n+s.length<=1000000000) (y:base<=w.heap.size)
  (h:∀ v' w',w'.ownsRow base e 1 v' (n+s.length) (xs++s.map fun c=>.int .u8 c.toNat)->w.grownBy w' v.ownBlock->(v'.ownBlock=v.ownBlock\/∀ k,v'.ownBlock=O k->w.heap.size<=k)->K v' w') :
  WR P (Builtin.append_ #[t,u] ty #[v,aW s]) w K X:=by
 unfold akR at m;simp only[Bool.and_eq_true] at m;obtain⟨⟨C,D⟩,f⟩:=m;have ht:P.underlying t=O (.slice e):=by
  grind
 have hu:P.underlying u=O .string:=by
  grind [wY]
 split at f
 .rename_i i hi;simp only[Bool.and_eq_true,beq_iff_eq] at f;obtain⟨⟨l,o⟩,p⟩:=f;have l:i.zero=O (.int .u8 0):=by
   grind
  have r:(bs s).size=s.length:=by simp [ByteArray.size]
  have x:Lib.strCells (bs s)=s.map fun c=>.int .u8 c.toNat:=by simp [Lib.strCells]
  rcases d.2 with⟨rfl,rfl⟩| ⟨g,cap,cur,rfl,E,z,F,H,I,L⟩
  .have hx:xs=[]:=List.eq_nil_of_length_eq_zero (by simpa using d.1);subst hx;obtain⟨v',w',a,b,q,_⟩:=a7D (P:=P) w w.heap.size t u ty e i ht hu hi l o p bW 0 [] (World.ownsRow_nil _ _ _ _) (bs s) (by grind [maxLen]) zo zo;rw[vw a];rw[r,x] at b;exact h v' w' (by grind [abr]) q (.inr fun k hk=>(b.lt k hk).1)
  .obtain⟨v',w',a,b,q,_⟩:=a7D (P:=P) w base t u ty e i ht hu hi l o p _ n xs d (bs s) (by grind [maxLen]) zo y;rw[vw a];rw[r,x] at b;refine h v' w' b q ?_;by_cases M:n+s.length<=cap
   .refine .inl ?_;have A:cur.size=cap:=zo;have:=Lib.run_append_room_string (P:=P) w t u ty e i ht hu hi o g n cap cur z (bs s) zo zo;rw[this] at a;injection a with a _;rw[<- a];rfl
   .refine .inr fun k hk=>?_;have holds:∀ j u,xs[j]?=O u->w.cell? ((⟨g,0,V⟩:Addr).add j)=O u:=d.cells (g:=g) J;have N:xs.length=n:=zg;have:=Lib.run_append_grow_string (P:=P) w t u ty e i (.int .u8 0) ht hu hi l ⟨g,0,V⟩ n cap xs zg holds (bs s) zo zo (by rw[p];exact growslice_fits zo zo);grind [Value.ownBlock,a3I]
 .cases f
end
def DY{P:Program}{t ty e:TypeId}{i:TypeInfo}{size bytes:Nat}(ht:P.underlying t=O (.slice e))(hi:P.info? e=O i)(d:i.zero=O z)
  (f:i.size=size) (g:i.bytes=bytes) (l:z.cells.size=size) (o:0<size)
 (p:w.ownsRow base e size v n xs) {T:TypeId} {q:Nat×Nat} (B:w.heap[b]?=O (ah cs T q)) (r:cs.toList.length=m*size) (s:∀ u∈cs.toList,u.oneCell'=G)
  (x:n+m<=1000000000) (a:bytes<=1000) (y:base<=w.heap.size) {K:Y->Z->Prop}
  (h:∀ v' w',w'.ownsRow base e size v' (n+m) (xs++cs.toList)->w.grownBy w' v.ownBlock->(v'.ownBlock=v.ownBlock\/∀ k,v'.ownBlock=O k->w.heap.size<=k)->K v' w') :
  WR P (Builtin.append_ #[t,t] ty #[v,cS b m c]) w K X:=by
 have C:(n+m)*bytes<=1000000000*1000:=Nat.mul_le_mul x a;obtain⟨v',w',A,D,E,F⟩:=S0 (P:=P) w base t ty e i z size bytes ht hi d f g l o v n xs p ⟨b,0,V⟩ m c cs.toList r (fun j u hu=>by
  rw[addr_add,Nat.zero_add];grind [cellOf]) s (by grind [maxLen]) zo y
 rw[vw A];grind
section
variable{P:Program}{w:Z}{X:Y->Z->Prop}
def Tq{t:TypeId}{K:Y->Z->Prop}:WR P (Instr.makeMap t V) w K X=K (.map (O w.heap.size)) (w.alloc (.map #[] 0)):=vw J
def XC{b:Bool}{t:TypeId}{s:ByteArray}(h:wY P t=G):(a7z b (n+1) t (.string s)).run P w = .ok () w:=by
 unfold wY at h;split at h
 .rename_i hu;simp [a7z,run_underlying hu]
 grind
def acT{b:Bool}{t:TypeId}{a:Option Addr}(h:GW P t=G):(a7z b (n+1) t (.pointer a)).run P w = .ok () w:=by
 unfold GW at h;split at h
 .rename_i hu;simp [a7z,run_underlying hu]
 grind
def Bt(P:Program)(t:TypeId):Option (TypeId×TypeId):=match P.underlying t with | some (.map k e)=>O (k,e) | _=>V
def GY{t k e:TypeId}(h:Bt P t=O (k,e)):P.underlying t=O (.map k e):=by
 unfold Bt at h;grind
def Ts:Y->Option (List UInt8) | .string b=>O b.data.toList | _=>V
def Bu(s:List UInt8):List MapEntry->Nat->Option (Nat×Y)
 | [],_=>V
 | e::r,i=>if Ts e.key=O s then O (i,e.val) else Bu s r (i+1)
def Nr(es:List MapEntry):Prop:=∀ e∈es,∃ s,e.key = aW s
def akT{d:TypeDesc}(a:d = .string)(s:List UInt8):∀ (es:List MapEntry) (i:Nat),Nr es->a68 d (aW s) es i=O (Bu s es i)
 | [],i,_=>rfl
 | e::r,i,h=>by
  subst a;obtain⟨u,hu⟩:=h e (List.mem_cons_self ..);unfold a68 Bu;rw[hu];have b:(bs s == bs u)=decide (u=s):=by
   rw[acM,Bool.eq_iff_iff];grind
  by_cases he:u=s
  .grind [Instr.sameNow,Ts]
  .simp only[Instr.sameNow,b,decide_eq_false he,Ts,a3I,bU he];exact akT J s r (i+1) fun e he=>h e zg
def XD{k:TypeId}(h:wY P k=G)(s:List UInt8){es:List MapEntry}(hk:Nr es):(a69 k (aW s) es).run P w = .ok (Bu s es 0) w:=by
 unfold wY at h;split at h
 .rename_i hu;simp [a69,run_underlying hu,akT J s es 0 hk]
 grind
def GZ{r:Nat}(a:w.heap[r]?=O (.map es c)):(getObj r).run P w = .ok (.map es c) w:=MapKept.run_getObj_map a
def akU{t k e:TypeId}{z:Y}{r c:Nat}{es:Array MapEntry}{K:Y->Prop}(ht:Bt P t=O (k,e))(d:wY P k=G)(h:Au P e=O z)(f:w.heap[r]?=O (.map es c))(hk:Nr es.toList)(s:List UInt8)(b:Bool) :
  RD P (a4S t (.map (O r)) (aW s) b) w K X =
   match Bu s es.toList 0 with
   | some (_,v)=>K (if b then aq #[v,.bool G] else v)
   | none=>K (if b then aq #[z,.bool ae] else z):=by
 have g:=XC (P:=P) (w:=w) (b:=es.isEmpty) (n:=9999) (t:=k) (s:=bs s) d;have a:=XD (P:=P) (w:=w) d s hk;split
 .rename_i i v hi;rw[hi] at a;refine gR ?_;simp [a4S,run_underlying (GY ht),GZ f,g,a]
 .rename_i hi;rw[hi] at a;refine gR ?_;simp [a4S,run_underlying (GY ht),GZ f,g,a,Fp h]
def ayO{t k e:TypeId}(ht:Bt P t=O (k,e))(f:GW P k=G)(g:Au P e=O z)(a:Option Addr)(b:Bool) :
  RD P (a4S t (.map V) (.pointer a) b) w K X=K (if b then aq #[z,.bool ae] else z):=by
 have h:=acT (P:=P) (w:=w) (b:=true) (n:=9999) (t:=k) (a:=a) f;refine gR ?_;have c:∃ d,P.underlying k=O (.pointer d):=by
  grind [GW]
 obtain⟨d,c⟩:=c;simp [a4S,run_underlying (GY ht),h,a69,a68,run_underlying c,Fp g]
def Fw(l:List (Nat×Y)):List MapEntry->Prop
 | []=>l=[]
 | e::r=>∃ b v l',l=(b,v)::l'/\e.key = au (O ⟨b,0,V⟩)/\e.val=v/\Fw l' r
def IQ(b:Nat):List (Nat×Y)->Nat->Option (Nat×Y)
 | [],_=>V
 | (c,v)::r,i=>if b=c then O (i,v) else IQ b r (i+1)
def akV{k:TypeId}(hk:Ax P k=G){b:Nat}{cb:Array Y}{tb:TypeId}(d:w.heap[b]?=aO cb tb):∀ (es:List MapEntry) (l:List (Nat×Y)) (i:Nat),Fw l es ->
  (∀ c v,(c,v)∈l->∃ cs t,w.heap[c]?=aO cs t)->(Instr.findAsking k (pp b) es i).run P w = .ok (IQ b l i) w
 | [],l,i,h,_=>by
  have h:l=[]:=h;subst h;rfl
 | e::r,l,i,h,f=>by
  obtain⟨c,v,l',rfl,g,j,m⟩:=h;obtain⟨cs,t,n⟩:=f c v (List.mem_cons_self ..);have o:=acP (P:=P) hk d n;unfold Instr.findAsking IQ;rw[g,a3X,o];simp only[a3W];by_cases a:b=c
  .simp [a,j]
  .simp only[decide_eq_false a,bU a];exact akV hk d r l' (i+1) m yH
def akW{k:TypeId}(hk:Ax P k=G){cb:Array Y}{tb:TypeId}(f:w.heap[b]?=aO cb tb){es:List MapEntry}{l:List (Nat×Y)}(h:Fw l es)
  (g:∀ c v,(c,v)∈l->∃ cs t,w.heap[c]?=aO cs t):(a69 k (pp b) es).run P w = .ok (IQ b l 0) w:=by
 have j:=akV hk f es l 0 h g;have a:∃ d,P.underlying k=O (.pointer d):=by
  grind [Ax]
 obtain⟨d,a⟩:=a;unfold a69;rw[a3X,run_underlying a];simp only[a3W];cases es with
 | nil=>
  have h:l=[]:=h;subst h;rfl
 | cons e r=>
  obtain⟨c,v,l',rfl,i,m,n⟩:=h;have:a68 (.pointer d) (pp b) (e::r) 0=none:=by
   unfold a68;rw[i];rfl
  grind
def acU{k:TypeId}(h:Ax P k=G):GW P k=true:=by
 grind [Ax,GW]
def ayP{t k e:TypeId}{z:Y}{r c:Nat}{es:Array MapEntry}{l:List (Nat×Y)}{K:Y->Prop}(ht:Bt P t=O (k,e))(f:Ax P k=G)(h:Au P e=O z)(hm:w.heap[r]?=O (.map es c))(hk:Fw l es.toList)
  (j:∀ c v,(c,v)∈l->∃ cs t,w.heap[c]?=aO cs t) {b:Nat} {cb:Array Y} {tb:TypeId} (m:w.heap[b]?=aO cb tb) (ok:Bool) :
  RD P (a4S t (.map (O r)) (pp b) ok) w K X =
   match IQ b l 0 with
   | some (_,v)=>K (if ok then aq #[v,.bool G] else v)
   | none=>K (if ok then aq #[z,.bool ae] else z):=by
 have g:=acT (P:=P) (w:=w) (b:=es.isEmpty) (n:=9999) (t:=k) (a:=O ⟨b,0,V⟩) (acU f);have d:=akW (P:=P) (w:=w) f m hk j;split
 .rename_i i v hi;rw[hi] at d;refine gR ?_;simp [a4S,run_underlying (GY ht),GZ hm,g,d]
 .rename_i hi;rw[hi] at d;refine gR ?_;simp [a4S,run_underlying (GY ht),GZ hm,g,d,Fp h]
def ayQ{t k e:TypeId}{r:Nat}{l:List (Nat×Y)}{K:Z->Prop}(ht:Bt P t=O (k,e))(d:Ax P k=G)(hm:w.heap[r]?=O (.map es c))(hk:Fw l es.toList)
  (g:∀ c v,(c,v)∈l->∃ cs t,w.heap[c]?=aO cs t) {cb:Array Y} {tb:TypeId} (h:w.heap[b]?=aO cb tb) (i:IQ b l 0=V) (v:Y) :
  WU P (a5p t (.map (O r)) (pp b) v) w K X=K (bR w r (.map (es.push { key:=pp b,val:=v,born:=c }) (c+1))):=by
 have j:=acT (P:=P) (w:=w) (b:=false) (n:=9999) (t:=k) (a:=O ⟨b,0,V⟩) (acU d);have f:=akW (P:=P) (w:=w) d h hk g;rw[i] at f;refine Td ?_;simp [a5p,run_underlying (GY ht),GZ hm,j,f,a5G _ hm,bR]
def ayR{t k e:TypeId}{r:Nat}{K:Z->Prop}(ht:Bt P t=O (k,e))(a:wY P k=G)(hm:w.heap[r]?=O (.map es c))(hk:Nr es.toList)(s:List UInt8)(f:Bu s es.toList 0=V)(v:Y) :
  WU P (a5p t (.map (O r)) (aW s) v) w K X=K (bR w r (.map (es.push { key:=aW s,val:=v,born:=c }) (c+1))):=by
 have g:=XC (P:=P) (w:=w) (b:=false) (n:=9999) (t:=k) (s:=bs s) a;have d:=XD (P:=P) (w:=w) a s hk;rw[f] at d;refine Td ?_;simp [a5p,run_underlying (GY ht),GZ hm,g,d,a5G _ hm,bR]
def akX{s:List UInt8}:∀ {es:List MapEntry} {i j:Nat} {v:Y},Bu s es i=O (j,v)->i<=j/\∃ e,es[j-i]?=O e/\e.key = aW s/\e.val=v
 | [],_,_,_,h=>by cases h
 | e::r,i,j,v,h=>by
  unfold Bu at h;split at h
  .rename_i hk;simp only[a3I,Prod.mk.injEq] at h;obtain⟨rfl,rfl⟩:=h;refine⟨Nat.le_refl _,e,zs,?_,J⟩;unfold Ts at hk;split at hk
   .rename_i b a;injection hk with hk;rw[a,<- hk]
   grind
  .obtain⟨c,e',d,f⟩:=akX h;grind
def ayS{t k e:TypeId}{r:Nat}{K:Z->Prop}(ht:Bt P t=O (k,e))(a:wY P k=G)(hm:w.heap[r]?=O (.map es c))(hk:Nr es.toList)(s:List UInt8)(d:Bu s es.toList 0=O (i,u))(v:Y) :
  WU P (a5p t (.map (O r)) (aW s) v) w K X=K (bR w r (.map (es.modify i fun e=>{ e with key:=aW s,val:=v }) c)):=by
 have g:=XC (P:=P) (w:=w) (b:=false) (n:=9999) (t:=k) (s:=bs s) a;have f:=XD (P:=P) (w:=w) a s hk;rw[d] at f;obtain⟨-,e',l,m,-⟩:=akX d;have h:(es[i]?).map (·.key)=O (aW s):=by
  grind
 have j:(Instr.keyThatStays (((es[i]?).map (·.key)).getD (aW s)) (aW s)).run P w = .ok (aW s) w:=by
  rw[h];simp [Instr.keyThatStays,Instr.sameBits,acM]
 refine Td ?_;simp [a5p,run_underlying (GY ht),GZ hm,g,f,j,a5G _ hm,bR]
end
end Sx
