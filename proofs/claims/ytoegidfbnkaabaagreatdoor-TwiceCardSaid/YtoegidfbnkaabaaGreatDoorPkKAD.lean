/- A part of one proof (SxO). -/
import Derived.Test.YtoegidfbnkaabaaGreatDoorPkKAC
import Derived.LaidEql
import Derived.Laws.MakeOwn
import Derived.Laws.StructEq
import Derived.Lib.AppendStr
import Derived.MapKept
import Derived.WideMake
import Derived.Laws.Runes
set_option linter.all false
set_option maxRecDepth 100000
set_option maxHeartbeats 8000000
open Option renaming some → O, none → V
open Go renaming Value → Y, World → Z
open Bool renaming true → A, false → ae
open Go.Obj renaming cells → ah
open Go.Value renaming nilIface → aj, iface → ak, tuple → aq, pointer → au
open Option.some renaming injEq → a0z
open Go.Result renaming andThen_ok → a0K
open Go.Sem renaming run_bind → a0L
open Go.Instr renaming typeAssert → a0T, lookup → a1E, mapUpdate → a2a, missingMethod → a2q, findNow → a3W, findKey → a3X, checkKey → a4q
open Go.MapKept renaming run_setObj_map → a2s
open Go.Op renaming equalIn → a2Q, equal → a3I
open Go.Lib renaming run_append_own_string → a4u
namespace Go.Proofs.YtoegidfbnkaabaaGreatDoor
variable{K:Y->Prop}{X:Y->Z->Prop}{b base c i m n pb:Nat}{cs iK:Array Y}{es:Array MapEntry}{u v z:Y}{EH OW:IntKind}{w:Z}{xs:List Y}{y:Operand}
namespace Sx
open Go
def aba(a b:List UInt8):(bs a == bs b)=decide (a=b):=by
 change (a.toArray == b.toArray)=_;grind
section
variable{P:Program}{w:Z}{K:Y->Prop}{X:Y->Z->Prop}{x y:Operand}
def aje{u:TypeId}(h:JF P u=A):∃ d,P.underlying u=O d/\∀ ms,d≠.interface ms:=by
 grind [JF]
def RW{u c:TypeId}(e:JF P u=A)(f:zK P u=O z)(t:TypeId)(v:Y) :
  RD P (a0T (ak t v) c u A) w K X=if t=u then K (aq #[v,.bool A]) else K (aq #[z,.bool ae]):=by
 obtain⟨d,a,b⟩:=aje e;split
 .rename_i h;subst h;refine ig ?_;unfold a0T;simp only[a0L,run_underlying a,a0K];cases d<;>first | exact absurd J (b _) | simp
 .rename_i h;refine ig ?_;unfold a0T;simp only[a0L,run_underlying a,a0K];cases d<;>first | exact absurd J (b _) | simp [h,EG f]
def RX{u a:TypeId}(b:JF P u=A)(c:zK P u=O z) :
  RD P (a0T aj a u A) w K X=K (aq #[z,.bool ae]):=by
 obtain⟨d,e,f⟩:=aje b;refine ig ?_;unfold a0T;simp only[a0L,run_underlying e,a0K];cases d<;>first | exact absurd J (f _) | simp [EG c]
def hasB(P:Program)(u t:TypeId):Bool:=
 match P.underlying u with
 | some (.interface want)=>match P.info? t with
  | some i=>(a2q want i.methods).isNone
  | none=>ae
 | _=>ae
def V2(P:Program)(u t:TypeId):Bool:=
 match P.underlying u with
 | some (.interface want)=>match P.info? t with
  | some i=>(a2q want i.methods).isSome
  | none=>ae
 | _=>ae
def awX{u a t:TypeId}(h:hasB P u t=A)(v:Y):RD P (a0T (ak t v) a u A) w K X=K (aq #[ak t v,.bool A]):=by
 refine ig ?_;unfold hasB at h;split at h
 .rename_i want hu;split at h
  .rename_i i b;unfold a0T;simp only[a0L,run_underlying hu,a0K,typeInfo,program,Sem.run,b,Sem.run_pure];cases hm:a2q want i.methods with
   | none=>simp
   | some m=>grind
  grind
 grind
def awY{u a t:TypeId}(h:V2 P u t=A)(b:zK P u=O z)(v:Y):RD P (a0T (ak t v) a u A) w K X=K (aq #[z,.bool ae]):=by
 refine ig ?_;unfold V2 at h;split at h
 .rename_i want hu;split at h
  .rename_i i c;unfold a0T;simp only[a0L,run_underlying hu,a0K,typeInfo,program,Sem.run,c,Sem.run_pure];cases hm:a2q want i.methods with
   | none=>grind
   | some m=>simp [EG b]
  grind
 grind
def awZ{u a:TypeId}(h:yC P u=A)(b:zK P u=O z):RD P (a0T aj a u A) w K X=K (aq #[z,.bool ae]):=by
 refine ig ?_;unfold a0T;simp only[a0L,run_underlying (F9 h),a0K];simp [EG b]
def JI(P:Program)(t:TypeId):Bool:=match P.info? t with | some i=>i.comparable | none=>ae
def wi(P:Program)(t:TypeId):Bool:=match P.underlying t with | some .string=>A | _=>ae
def abb(P:Program)(t:TypeId):Bool:=match P.underlying t with | some (.int _)=>A | _=>ae
def zQ(P:Program)(t:TypeId):Bool:=match P.underlying t with | some (.pointer e)=>(match P.info? e with | some i=>i.size != 0 | none=>ae) | _=>ae
def aw0{T:TypeId}(h:yC P T=A){t a:TypeId}(b:t≠a)(v v':Y):(a3I T (ak t v) (ak a v')).run P w = .ok ae w:=by
 have k:∀ d:Nat,(a2Q (d+1) T (ak t v) (ak a v')).run P w = .ok ae w:=fun d=>by simp [a2Q,run_underlying (F9 h),b]
 exact k 9999
def abc{t:TypeId}(h:JI P t=A):∃ i,P.info? t=O i/\i.comparable=true:=by
 grind [JI]
def aw1{T t:TypeId}(h:yC P T=A)(e:JI P t=A)(c:wi P t=A)(a b:List UInt8):(a3I T (ak t (aW a)) (ak t (aW b))).run P w = .ok (decide (a=b)) w:=by
 obtain⟨i,f,g⟩:=abc e;unfold wi at c;split at c
 .rename_i hu;have k:∀ d:Nat,(a2Q (d+2) T (ak t (aW a)) (ak t (aW b))).run P w = .ok (decide (a=b)) w:=fun d=>by
   simp [a2Q,run_underlying (F9 h),run_underlying hu,typeInfo,f,g,aba]
  exact k 9998
 grind
def aw2{T t:TypeId}(h:yC P T=A)(e:JI P t=A)(c:abb P t=A)(k:IntKind)(a b:Int):(a3I T (ak t (.int k a)) (ak t (.int k b))).run P w = .ok (decide (a=b)) w:=by
 obtain⟨i,f,g⟩:=abc e;unfold abb at c;split at c
 .rename_i hu;have k':∀ d:Nat,(a2Q (d+2) T (ak t (.int k a)) (ak t (.int k b))).run P w = .ok (decide (a=b)) w:=fun d=>by
   simp [a2Q,run_underlying (F9 h),run_underlying hu,typeInfo,f,g];grind
  exact k' 9998
 grind
def abd{t:TypeId}(h:zQ P t=A){a:Nat}{cb:Array Y}{j tb:TypeId}(l:w.heap[a]?=aP iK j)(m:w.heap[b]?=aP cb tb) :
  (a3I t (pp a) (pp b)).run P w = .ok (decide (a=b)) w:=by
 unfold zQ at h;split at h
 .rename_i e hu;split at h
  .rename_i i c;have f:i.size≠0:=zg;have k:∀ d:Nat,(a2Q (d+1) t (pp a) (pp b)).run P w = .ok (decide (a=b)) w:=fun d=>by
    by_cases g:a=b
    .subst g;simp [a2Q,run_underlying hu,sizeOf,typeInfo,c,f,run_sameAddr_same]
    .have n:(⟨a,0,V⟩:Addr)≠⟨b,0,V⟩:=zg;simp [a2Q,run_underlying hu,sizeOf,typeInfo,c,f,run_sameAddr_other w n l m,g]
   exact k 9999
  grind
 grind
def aw3{T t:TypeId}(h:yC P T=A)(l:JI P t=A)(c:zQ P t=A){a:Nat}{cb:Array Y}{m tb:TypeId}(n:w.heap[a]?=aP iK m)(o:w.heap[b]?=aP cb tb) :
  (a3I T (ak t (pp a)) (ak t (pp b))).run P w = .ok (decide (a=b)) w:=by
 obtain⟨i,f,g⟩:=abc l;unfold zQ at c;split at c
 .rename_i e hu;split at c
  .rename_i j k;have p:j.size≠0:=by simpa using c
   unfold a3I Op.maxDepth;by_cases d:a=b
   .subst d;rw[run_equalIn_iface_ptr_same w 9998 ⟨a,0,V⟩ (F9 h) hu f g k];simp
   .have q:(⟨a,0,V⟩:Addr)≠⟨b,0,V⟩:=by simp [d]
    rw[run_equalIn_iface_ptr_other w 9998 (F9 h) hu f g k p q n o];simp [d]
  .cases c
 .cases c
def Dq{T:TypeId}(h:yC P T=A){t a:TypeId}(b:t≠a)(v v':Y):RD P (bo .eql T x y (ak t v) (ak a v')) w K X=K (.bool ae):=ig (by simp [bo,eqGuard,binOp,a0L,aw0 h b v v'])
def aw4{T t:TypeId}(h:yC P T=A)(c:JI P t=A)(d:wi P t=A)(a b:List UInt8):RD P (bo .eql T x y (ak t (aW a)) (ak t (aW b))) w K X=K (.bool (decide (a=b))):=ig (by simp [bo,eqGuard,binOp,a0L,aw1 h c d a b])
def aw5{T t:TypeId}(h:yC P T=A)(c:JI P t=A)(d:abb P t=A)(k:IntKind)(a b:Int):RD P (bo .eql T x y (ak t (.int k a)) (ak t (.int k b))) w K X=K (.bool (decide (a=b))):=ig (by simp [bo,eqGuard,binOp,a0L,aw2 h c d k a b])
def aw6{T t:TypeId}(h:yC P T=A)(c:JI P t=A)(d:zQ P t=A){a:Nat}{cb:Array Y}{e tb:TypeId}(f:w.heap[a]?=aP iK e)(g:w.heap[b]?=aP cb tb) :
 RD P (bo .eql T x y (ak t (pp a)) (ak t (pp b))) w K X=K (.bool (decide (a=b))):=ig (by simp [bo,eqGuard,binOp,a0L,aw3 h c d f g])
def aw7{t:TypeId}(h:zQ P t=A){a:Nat}{cb:Array Y}{c tb:TypeId}(d:w.heap[a]?=aP iK c)(e:w.heap[b]?=aP cb tb) :
 RD P (bo .eql t x y (pp a) (pp b)) w K X=K (.bool (decide (a=b))):=ig (by simp [bo,eqGuard,binOp,a0L,abd h d e])
end
section
variable{P:Program}{w:Z}{K:Y->Prop}{X:Y->Z->Prop}
def ajf{c:Array TypeId}{t:TypeId}{k k':IntKind}(a b:Int):RD P (Builtin.min_ c t #[.int k a,.int k' b]) w K X=K (.int k (if b<a then b else a)):=ig (by simp [Builtin.min_,Builtin.min2])
def aw8{c:Array TypeId}{t:TypeId}{k:IntKind}(a b:Int):RD P (Builtin.max_ c t #[.int k a,.int EH b]) w K X=K (.int k (if b > a then b else a)):=ig (by simp [Builtin.max_,Builtin.max2])
def aw9{t:TypeId}{x:Operand}(k:IntKind)(a b:Int)(h:b≠0):RD P (bo .rem t x y (.int k a) (.int k b)) w K X=K (.int k (a.tmod b)):=ig (by simp [bo,eqGuard,binOp,Op.intDiv,h])
def axa{t:TypeId}{x:Operand}(k:IntKind)(a b:Int)(h:b≠0):RD P (bo .quo t x y (.int k a) (.int k b)) w K X=K (.int k (k.wrap (a.tdiv b))):=ig (by simp [bo,eqGuard,binOp,Op.intDiv,h])
def ajg{s d:TypeId}(b:(P.underlying s).isSome=A)(c:wi P d=A){k:IntKind}(a:n<128){K:Y->Z->Prop}:WR P (convert s d (.int k n)) w K X=K (aW [UInt8.ofNat n]) w:=by
 have f:P.underlying d=O .string:=by
  grind [wi]
 have h:∀ m:Fin 128,(Utf8.encode (m.val:Int)).data=#[UInt8.ofNat m.val]:=zd;have e:Utf8.encode (n:Int)=bs [UInt8.ofNat n]:=by
  have:=h ⟨n,a⟩;apply ByteArray.ext;omega
 refine xB ?_;grind [run_convert_int_string]
end
section
variable{P:Program}{w:Z}{K:Y->Z->Prop}{X:Y->Z->Prop}
def msB(P:Program)(T:TypeId):Option (TypeId×Y×Nat×Nat):=
 match P.underlying T with
 | some (.slice e)=>match P.info? e with
  | some i=>match i.zero with
   | some z=>O (e,z,i.size,i.bytes)
   | none=>V
  | none=>V
 | _=>V
def abe{T e:TypeId}{by_:Nat}(h:msB P T=O (e,z,pb,by_))(f:n<=m)(a:by_<=1000)(hm:m<=1000000) :
  WR P (Instr.makeSlice T (.int EH n) (.int OW m)) w K X=K (cU w.heap.size n m) (w.alloc (ah (madeCells z.cells (m*pb)) e)):=by
 unfold msB at h;split at h
 .rename_i e' hu;split at h
  .rename_i i b;split at h
   .rename_i c d;simp only[a0z,Prod.mk.injEq] at h;obtain⟨rfl,rfl,rfl,rfl⟩:=h;refine xB ?_;have g:i.bytes*m<=1000*1000000:=Nat.mul_le_mul a hm;have:=run_make (P:=P) w T e' i c hu b d EH OW n m zo zo zo zo;exact yH
   .cases h
  .cases h
 .cases h
def aji(P:Program)(t u e:TypeId):Bool:=
 (match P.underlying t with | some (.slice e')=>e' == e | _=>ae) && wi P u && (match P.info? e with | some i=>(match i.zero with | some (.int .u8 0)=>A | _=>ae) && i.size == 1 && i.bytes == 1 | none=>ae)
def ajj{t u ty e:TypeId}(o:aji P t u e=A)(d:w.ownsRow base e 1 v n xs)(s:List UInt8)
  (D:n+s.length<=1000000000) (z:base<=w.heap.size)
  (h:∀ v' w',w'.ownsRow base e 1 v' (n+s.length) (xs++s.map fun c=>.int .u8 c.toNat)->w.grownBy w' v.ownBlock->(v'.ownBlock=v.ownBlock\/∀ k,v'.ownBlock=O k->w.heap.size<=k)->K v' w') :
  WR P (Builtin.append_ #[t,u] ty #[v,aW s]) w K X:=by
 unfold aji at o;simp only[Bool.and_eq_true] at o;obtain⟨⟨E,F⟩,f⟩:=o;have ht:P.underlying t=O (.slice e):=by
  grind
 have hu:P.underlying u=O .string:=by
  grind [wi]
 split at f
 .rename_i i l;simp only[Bool.and_eq_true,beq_iff_eq] at f;obtain⟨⟨m,p⟩,q⟩:=f;have m:i.zero=O (.int .u8 0):=by
   grind
  have x:(bs s).size=s.length:=by simp [ByteArray.size]
  have y:Lib.strCells (bs s)=s.map fun c=>.int .u8 c.toNat:=by simp [Lib.strCells]
  rcases d.2 with⟨rfl,rfl⟩| ⟨g,cap,cur,rfl,G,B,H,I,L,M⟩
  .have hx:xs=[]:=List.eq_nil_of_length_eq_zero (by simpa using d.1);subst hx;obtain⟨v',w',a,b,r,_⟩:=a4u (P:=P) w w.heap.size t u ty e i ht hu l m p q b9 0 [] (World.ownsRow_nil _ _ _ _) (bs s) (by grind [maxLen]) zo zo;rw[xB a];rw[x,y] at b;exact h v' w' (by grind [ZU]) r (.inr fun k hk=>(b.lt k hk).1)
  .obtain⟨v',w',a,b,r,_⟩:=a4u (P:=P) w base t u ty e i ht hu l m p q _ n xs d (bs s) (by grind [maxLen]) zo z;rw[xB a];rw[x,y] at b;refine h v' w' b r ?_;by_cases N:n+s.length<=cap
   .refine .inl ?_;have C:cur.size=cap:=zo;have:=Lib.run_append_room_string (P:=P) w t u ty e i ht hu l p g n cap cur B (bs s) zo zo;rw[this] at a;injection a with a _;rw[<- a];rfl
   .refine .inr fun k hk=>?_;have holds:∀ j u,xs[j]?=O u->w.cell? ((⟨g,0,V⟩:Addr).add j)=O u:=d.cells (g:=g) J;have Q:xs.length=n:=zg;have:=Lib.run_append_grow_string (P:=P) w t u ty e i (.int .u8 0) ht hu l m ⟨g,0,V⟩ n cap xs zg holds (bs s) zo zo (by rw[q];exact growslice_fits zo zo);grind [Value.ownBlock,a0z]
 .cases f
end
def Dr{P:Program}{t ty e:TypeId}{i:TypeInfo}{size bytes:Nat}(ht:P.underlying t=O (.slice e))(d:P.info? e=O i)(f:i.zero=O z)
  (g:i.size=size) (l:i.bytes=bytes) (o:z.cells.size=size) (p:0<size)
 (q:w.ownsRow base e size v n xs) {T:TypeId} {r:Nat×Nat} (D:w.heap[b]?=O (ah cs T r)) (s:cs.toList.length=m*size) (x:∀ u∈cs.toList,u.oneCell'=A)
  (y:n+m<=1000000000) (a:bytes<=1000) (B:base<=w.heap.size) {K:Y->Z->Prop}
  (h:∀ v' w',w'.ownsRow base e size v' (n+m) (xs++cs.toList)->w.grownBy w' v.ownBlock->(v'.ownBlock=v.ownBlock\/∀ k,v'.ownBlock=O k->w.heap.size<=k)->K v' w') :
  WR P (Builtin.append_ #[t,t] ty #[v,cU b m c]) w K X:=by
 have E:(n+m)*bytes<=1000000000*1000:=Nat.mul_le_mul y a;obtain⟨v',w',C,F,G,H⟩:=VH (P:=P) w base t ty e i z size bytes ht d f g l o p v n xs q ⟨b,0,V⟩ m c cs.toList s (fun j u hu=>by
  rw[addr_add,Nat.zero_add];grind [cellOf]) x (by grind [maxLen]) zo B
 rw[xB C];grind
section
variable{P:Program}{w:Z}{X:Y->Z->Prop}
def RY{t:TypeId}{K:Y->Z->Prop}:WR P (Instr.makeMap t V) w K X=K (.map (O w.heap.size)) (w.alloc (.map #[] 0)):=xB J
def V3{b:Bool}{t:TypeId}{s:ByteArray}(h:wi P t=A):(a4q b (n+1) t (.string s)).run P w = .ok () w:=by
 unfold wi at h;split at h
 .rename_i hu;simp [a4q,run_underlying hu]
 grind
def abg{b:Bool}{t:TypeId}{a:Option Addr}(h:F8 P t=A):(a4q b (n+1) t (.pointer a)).run P w = .ok () w:=by
 unfold F8 at h;split at h
 .rename_i hu;simp [a4q,run_underlying hu]
 grind
def AS(P:Program)(t:TypeId):Option (TypeId×TypeId):=match P.underlying t with | some (.map k e)=>O (k,e) | _=>V
def Gb{t k e:TypeId}(h:AS P t=O (k,e)):P.underlying t=O (.map k e):=by
 unfold AS at h;grind
def RZ:Y->Option (List UInt8) | .string b=>O b.data.toList | _=>V
def AT(s:List UInt8):List MapEntry->Nat->Option (Nat×Y)
 | [],_=>V
 | e::r,i=>if RZ e.key=O s then O (i,e.val) else AT s r (i+1)
def Mn(es:List MapEntry):Prop:=∀ e∈es,∃ s,e.key = aW s
def ajk{d:TypeDesc}(a:d = .string)(s:List UInt8):∀ (es:List MapEntry) (i:Nat),Mn es->a3W d (aW s) es i=O (AT s es i)
 | [],i,_=>rfl
 | e::r,i,h=>by
  subst a;obtain⟨u,hu⟩:=h e (List.mem_cons_self ..);unfold a3W AT;rw[hu];have b:(bs s == bs u)=decide (u=s):=by
   rw[aba,Bool.eq_iff_iff];grind
  by_cases he:u=s
  .grind [Instr.sameNow,RZ]
  .simp only[Instr.sameNow,b,decide_eq_false he,RZ,a0z,bO he];exact ajk J s r (i+1) fun e he=>h e zg
def V4{k:TypeId}(h:wi P k=A)(s:List UInt8){es:List MapEntry}(hk:Mn es):(a3X k (aW s) es).run P w = .ok (AT s es 0) w:=by
 unfold wi at h;split at h
 .rename_i hu;simp [a3X,run_underlying hu,ajk J s es 0 hk]
 grind
def Gc{r:Nat}(a:w.heap[r]?=O (.map es c)):(getObj r).run P w = .ok (.map es c) w:=MapKept.run_getObj_map a
def ajl{t k e:TypeId}{z:Y}{r c:Nat}{es:Array MapEntry}{K:Y->Prop}(ht:AS P t=O (k,e))(f:wi P k=A)(j:zK P e=O z)(g:w.heap[r]?=O (.map es c))(hk:Mn es.toList)(s:List UInt8)(b:Bool) :
  RD P (a1E t (.map (O r)) (aW s) b) w K X =
   match AT s es.toList 0 with
   | some (_,v)=>K (if b then aq #[v,.bool A] else v)
   | none=>K (if b then aq #[z,.bool ae] else z):=by
 have h:=V3 (P:=P) (w:=w) (b:=es.isEmpty) (n:=9999) (t:=k) (s:=bs s) f;have a:=V4 (P:=P) (w:=w) f s hk;split
 .rename_i i v d;rw[d] at a;refine ig ?_;simp [a1E,run_underlying (Gb ht),Gc g,h,a]
 .rename_i d;rw[d] at a;refine ig ?_;simp [a1E,run_underlying (Gb ht),Gc g,h,a,EG j]
def axb{t k e:TypeId}(ht:AS P t=O (k,e))(f:F8 P k=A)(g:zK P e=O z)(a:Option Addr)(b:Bool) :
  RD P (a1E t (.map V) (.pointer a) b) w K X=K (if b then aq #[z,.bool ae] else z):=by
 have h:=abg (P:=P) (w:=w) (b:=true) (n:=9999) (t:=k) (a:=a) f;refine ig ?_;have c:∃ d,P.underlying k=O (.pointer d):=by
  grind [F8]
 obtain⟨d,c⟩:=c;simp [a1E,run_underlying (Gb ht),h,a3X,a3W,run_underlying c,EG g]
def EK(l:List (Nat×Y)):List MapEntry->Prop
 | []=>l=[]
 | e::r=>∃ b v l',l=(b,v)::l'/\e.key = au (O ⟨b,0,V⟩)/\e.val=v/\EK l' r
def Hz(b:Nat):List (Nat×Y)->Nat->Option (Nat×Y)
 | [],_=>V
 | (c,v)::r,i=>if b=c then O (i,v) else Hz b r (i+1)
def ajm{k:TypeId}(hk:zQ P k=A){b:Nat}{cb:Array Y}{tb:TypeId}(d:w.heap[b]?=aP cb tb):∀ (es:List MapEntry) (l:List (Nat×Y)) (i:Nat),EK l es ->
  (∀ c v,(c,v)∈l->∃ cs t,w.heap[c]?=aP cs t)->(Instr.findAsking k (pp b) es i).run P w = .ok (Hz b l i) w
 | [],l,i,h,_=>by
  have h:l=[]:=h;subst h;rfl
 | e::r,l,i,h,f=>by
  obtain⟨c,v,l',rfl,g,j,m⟩:=h;obtain⟨cs,t,n⟩:=f c v (List.mem_cons_self ..);have o:=abd (P:=P) hk d n;unfold Instr.findAsking Hz;rw[g,a0L,o];simp only[a0K];by_cases a:b=c
  .simp [a,j]
  .simp only[decide_eq_false a,bO a];exact ajm hk d r l' (i+1) m yH
def ajn{k:TypeId}(hk:zQ P k=A){cb:Array Y}{tb:TypeId}(f:w.heap[b]?=aP cb tb){es:List MapEntry}{l:List (Nat×Y)}(h:EK l es)
  (g:∀ c v,(c,v)∈l->∃ cs t,w.heap[c]?=aP cs t):(a3X k (pp b) es).run P w = .ok (Hz b l 0) w:=by
 have j:=ajm hk f es l 0 h g;have a:∃ d,P.underlying k=O (.pointer d):=by
  grind [zQ]
 obtain⟨d,a⟩:=a;unfold a3X;rw[a0L,run_underlying a];simp only[a0K];cases es with
 | nil=>
  have h:l=[]:=h;subst h;rfl
 | cons e r=>
  obtain⟨c,v,l',rfl,i,m,n⟩:=h;have:a3W (.pointer d) (pp b) (e::r) 0=none:=by
   unfold a3W;rw[i];rfl
  grind
def abh{k:TypeId}(h:zQ P k=A):F8 P k=true:=by
 grind [zQ,F8]
def axc{t k e:TypeId}{z:Y}{r c:Nat}{es:Array MapEntry}{l:List (Nat×Y)}{K:Y->Prop}(ht:AS P t=O (k,e))(g:zQ P k=A)(j:zK P e=O z)(hm:w.heap[r]?=O (.map es c))(hk:EK l es.toList)
  (m:∀ c v,(c,v)∈l->∃ cs t,w.heap[c]?=aP cs t) {b:Nat} {cb:Array Y} {tb:TypeId} (o:w.heap[b]?=aP cb tb) (ok:Bool) :
  RD P (a1E t (.map (O r)) (pp b) ok) w K X =
   match Hz b l 0 with
   | some (_,v)=>K (if ok then aq #[v,.bool A] else v)
   | none=>K (if ok then aq #[z,.bool ae] else z):=by
 have h:=abg (P:=P) (w:=w) (b:=es.isEmpty) (n:=9999) (t:=k) (a:=O ⟨b,0,V⟩) (abh g);have d:=ajn (P:=P) (w:=w) g o hk m;split
 .rename_i i v f;rw[f] at d;refine ig ?_;simp [a1E,run_underlying (Gb ht),Gc hm,h,d]
 .rename_i f;rw[f] at d;refine ig ?_;simp [a1E,run_underlying (Gb ht),Gc hm,h,d,EG j]
def axd{t k e:TypeId}{r:Nat}{l:List (Nat×Y)}{K:Z->Prop}(ht:AS P t=O (k,e))(d:zQ P k=A)(hm:w.heap[r]?=O (.map es c))(hk:EK l es.toList)
  (g:∀ c v,(c,v)∈l->∃ cs t,w.heap[c]?=aP cs t) {cb:Array Y} {tb:TypeId} (h:w.heap[b]?=aP cb tb) (i:Hz b l 0=V) (v:Y) :
  WU P (a2a t (.map (O r)) (pp b) v) w K X=K (bT w r (.map (es.push { key:=pp b,val:=v,born:=c }) (c+1))):=by
 have j:=abg (P:=P) (w:=w) (b:=false) (n:=9999) (t:=k) (a:=O ⟨b,0,V⟩) (abh d);have f:=ajn (P:=P) (w:=w) d h hk g;rw[i] at f;refine RL ?_;simp [a2a,run_underlying (Gb ht),Gc hm,j,f,a2s _ hm,bT]
def axe{t k e:TypeId}{r:Nat}{K:Z->Prop}(ht:AS P t=O (k,e))(a:wi P k=A)(hm:w.heap[r]?=O (.map es c))(hk:Mn es.toList)(s:List UInt8)(f:AT s es.toList 0=V)(v:Y) :
  WU P (a2a t (.map (O r)) (aW s) v) w K X=K (bT w r (.map (es.push { key:=aW s,val:=v,born:=c }) (c+1))):=by
 have g:=V3 (P:=P) (w:=w) (b:=false) (n:=9999) (t:=k) (s:=bs s) a;have d:=V4 (P:=P) (w:=w) a s hk;rw[f] at d;refine RL ?_;simp [a2a,run_underlying (Gb ht),Gc hm,g,d,a2s _ hm,bT]
def ajo{s:List UInt8}:∀ {es:List MapEntry} {i j:Nat} {v:Y},AT s es i=O (j,v)->i<=j/\∃ e,es[j-i]?=O e/\e.key = aW s/\e.val=v
 | [],_,_,_,h=>by cases h
 | e::r,i,j,v,h=>by
  unfold AT at h;split at h
  .rename_i hk;simp only[a0z,Prod.mk.injEq] at h;obtain⟨rfl,rfl⟩:=h;refine⟨Nat.le_refl _,e,zs,?_,J⟩;unfold RZ at hk;split at hk
   .rename_i b a;injection hk with hk;rw[a,<- hk]
   grind
  .obtain⟨c,e',d,f⟩:=ajo h;grind
def axf{t k e:TypeId}{r:Nat}{K:Z->Prop}(ht:AS P t=O (k,e))(a:wi P k=A)(hm:w.heap[r]?=O (.map es c))(hk:Mn es.toList)(s:List UInt8)(d:AT s es.toList 0=O (i,u))(v:Y) :
  WU P (a2a t (.map (O r)) (aW s) v) w K X=K (bT w r (.map (es.modify i fun e=>{ e with key:=aW s,val:=v }) c)):=by
 have g:=V3 (P:=P) (w:=w) (b:=false) (n:=9999) (t:=k) (s:=bs s) a;have f:=V4 (P:=P) (w:=w) a s hk;rw[d] at f;obtain⟨-,e',l,m,-⟩:=ajo d;have h:(es[i]?).map (·.key)=O (aW s):=by
  grind
 have j:(Instr.keyThatStays (((es[i]?).map (·.key)).getD (aW s)) (aW s)).run P w = .ok (aW s) w:=by
  rw[h];simp [Instr.keyThatStays,Instr.sameBits,aba]
 refine RL ?_;simp [a2a,run_underlying (Gb ht),Gc hm,g,f,j,a2s _ hm,bT]
end
end Sx
