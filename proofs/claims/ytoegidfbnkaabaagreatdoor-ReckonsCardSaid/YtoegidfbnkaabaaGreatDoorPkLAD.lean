/- A part of one proof (SxO). -/
import Derived.Test.YtoegidfbnkaabaaGreatDoorPkLAC
import Derived.LaidEql
import Derived.Laws.MakeOwn
import Derived.Laws.StructEq
import Derived.Lib.AppendStr
import Derived.MapKept
import Derived.WideMake
import Derived.Laws.Runes
set_option linter.all false
set_option maxRecDepth 100000
set_option maxHeartbeats 8000000
open Option renaming some → O, none → V
open Go renaming Value → Y, World → Z
open Bool renaming true → A, false → G
open Go.Obj renaming cells → ae
open Go.Value renaming nilIface → ai, iface → aj, tuple → ak, pointer → aq
open Option.some renaming injEq → a1o
open Go.Result renaming andThen_ok → a1B
open Go.Sem renaming run_bind → a1C
open Go.Instr renaming typeAssert → a1J, lookup → a2A, mapUpdate → a22, missingMethod → a3m, findNow → a4N, findKey → a4O, checkKey → a5i
open Go.MapKept renaming run_setObj_map → a3n
open Go.Op renaming equalIn → a3s, equal → a4l
open Go.Lib renaming run_append_own_string → a5m
namespace Go.Proofs.YtoegidfbnkaabaaGreatDoor
variable{K:Y->Prop}{X:Y->Z->Prop}{b base c i m n pb:Nat}{cs iB:Array Y}{es:Array MapEntry}{u v:Y}{ET Pn:IntKind}{w:Z}{xs:List Y}{y:Operand}
namespace Sx
open Go
def abB(a b:List UInt8):(bs a == bs b)=decide (a=b):=by
 change (a.toArray == b.toArray)=_;grind
section
variable{P:Program}{w:Z}{K:Y->Prop}{X:Y->Z->Prop}{x y:Operand}
def ajt{u:TypeId}(h:JY P u=A):∃ d,P.underlying u=O d/\∀ ms,d≠.interface ms:=by
 grind [JY]
def So{u c:TypeId}{z:Y}(e:JY P u=A)(f:Ae P u=O z)(t:TypeId)(v:Y) :
  RD P (a1J (aj t v) c u A) w K X=if t=u then K (ak #[v,.bool A]) else K (ak #[z,.bool G]):=by
 obtain⟨d,a,b⟩:=ajt e;split
 .rename_i h;subst h;refine gQ ?_;unfold a1J;simp only[a1C,run_underlying a,a1B];cases d<;>first | exact absurd J (b _) | simp
 .rename_i h;refine gQ ?_;unfold a1J;simp only[a1C,run_underlying a,a1B];cases d<;>first | exact absurd J (b _) | simp [h,ES f]
def Sp{u a:TypeId}{z:Y}(b:JY P u=A)(c:Ae P u=O z) :
  RD P (a1J ai a u A) w K X=K (ak #[z,.bool G]):=by
 obtain⟨d,e,f⟩:=ajt b;refine gQ ?_;unfold a1J;simp only[a1C,run_underlying e,a1B];cases d<;>first | exact absurd J (f _) | simp [ES c]
def hasB(P:Program)(u t:TypeId):Bool:=
 match P.underlying u with
 | some (.interface want)=>match P.info? t with
  | some i=>(a3m want i.methods).isNone
  | none=>G
 | _=>G
def WD(P:Program)(u t:TypeId):Bool:=
 match P.underlying u with
 | some (.interface want)=>match P.info? t with
  | some i=>(a3m want i.methods).isSome
  | none=>G
 | _=>G
def aw7{u a t:TypeId}(h:hasB P u t=A)(v:Y):RD P (a1J (aj t v) a u A) w K X=K (ak #[aj t v,.bool A]):=by
 refine gQ ?_;unfold hasB at h;split at h
 .rename_i want hu;split at h
  .rename_i i hi;unfold a1J;simp only[a1C,run_underlying hu,a1B,typeInfo,program,Sem.run,hi,Sem.run_pure];cases hm:a3m want i.methods with
   | none=>simp
   | some m=>grind
  grind
 grind
def aw8{u a t:TypeId}{z:Y}(h:WD P u t=A)(b:Ae P u=O z)(v:Y):RD P (a1J (aj t v) a u A) w K X=K (ak #[z,.bool G]):=by
 refine gQ ?_;unfold WD at h;split at h
 .rename_i want hu;split at h
  .rename_i i hi;unfold a1J;simp only[a1C,run_underlying hu,a1B,typeInfo,program,Sem.run,hi,Sem.run_pure];cases hm:a3m want i.methods with
   | none=>grind
   | some m=>simp [ES b]
  grind
 grind
def aw9{u a:TypeId}{z:Y}(h:yA P u=A)(b:Ae P u=O z):RD P (a1J ai a u A) w K X=K (ak #[z,.bool G]):=by
 refine gQ ?_;unfold a1J;simp only[a1C,run_underlying (Gq h),a1B];simp [ES b]
def J1(P:Program)(t:TypeId):Bool:=match P.info? t with | some i=>i.comparable | none=>G
def wo(P:Program)(t:TypeId):Bool:=match P.underlying t with | some .string=>A | _=>G
def abC(P:Program)(t:TypeId):Bool:=match P.underlying t with | some (.int _)=>A | _=>G
def Ai(P:Program)(t:TypeId):Bool:=match P.underlying t with | some (.pointer e)=>(match P.info? e with | some i=>i.size != 0 | none=>G) | _=>G
def axa{T:TypeId}(h:yA P T=A){t a:TypeId}(b:t≠a)(v v':Y):(a4l T (aj t v) (aj a v')).run P w = .ok G w:=by
 have k:∀ d:Nat,(a3s (d+1) T (aj t v) (aj a v')).run P w = .ok G w:=fun d=>by simp [a3s,run_underlying (Gq h),b]
 exact k 9999
def abD{t:TypeId}(h:J1 P t=A):∃ i,P.info? t=O i/\i.comparable=true:=by
 grind [J1]
def axb{T t:TypeId}(h:yA P T=A)(e:J1 P t=A)(c:wo P t=A)(a b:List UInt8):(a4l T (aj t (aT a)) (aj t (aT b))).run P w = .ok (decide (a=b)) w:=by
 obtain⟨i,hi,f⟩:=abD e;unfold wo at c;split at c
 .rename_i hu;have k:∀ d:Nat,(a3s (d+2) T (aj t (aT a)) (aj t (aT b))).run P w = .ok (decide (a=b)) w:=fun d=>by
   simp [a3s,run_underlying (Gq h),run_underlying hu,typeInfo,hi,f,abB]
  exact k 9998
 grind
def axc{T t:TypeId}(h:yA P T=A)(e:J1 P t=A)(c:abC P t=A)(k:IntKind)(a b:Int):(a4l T (aj t (.int k a)) (aj t (.int k b))).run P w = .ok (decide (a=b)) w:=by
 obtain⟨i,hi,f⟩:=abD e;unfold abC at c;split at c
 .rename_i hu;have k':∀ d:Nat,(a3s (d+2) T (aj t (.int k a)) (aj t (.int k b))).run P w = .ok (decide (a=b)) w:=fun d=>by
   simp [a3s,run_underlying (Gq h),run_underlying hu,typeInfo,hi,f];grind
  exact k' 9998
 grind
def abE{t:TypeId}(h:Ai P t=A){a:Nat}{cb:Array Y}{g tb:TypeId}(j:w.heap[a]?=aO iB g)(l:w.heap[b]?=aO cb tb) :
  (a4l t (pp a) (pp b)).run P w = .ok (decide (a=b)) w:=by
 unfold Ai at h;split at h
 .rename_i e hu;split at h
  .rename_i i hi;have c:i.size≠0:=zg;have k:∀ d:Nat,(a3s (d+1) t (pp a) (pp b)).run P w = .ok (decide (a=b)) w:=fun d=>by
    by_cases f:a=b
    .subst f;simp [a3s,run_underlying hu,sizeOf,typeInfo,hi,c,run_sameAddr_same]
    .have m:(⟨a,0,V⟩:Addr)≠⟨b,0,V⟩:=zg;simp [a3s,run_underlying hu,sizeOf,typeInfo,hi,c,run_sameAddr_other w m j l,f]
   exact k 9999
  grind
 grind
def axd{T t:TypeId}(h:yA P T=A)(k:J1 P t=A)(c:Ai P t=A){a:Nat}{cb:Array Y}{l tb:TypeId}(m:w.heap[a]?=aO iB l)(n:w.heap[b]?=aO cb tb) :
  (a4l T (aj t (pp a)) (aj t (pp b))).run P w = .ok (decide (a=b)) w:=by
 obtain⟨i,hi,f⟩:=abD k;unfold Ai at c;split at c
 .rename_i e hu;split at c
  .rename_i j g;have o:j.size≠0:=by simpa using c
   unfold a4l Op.maxDepth;by_cases d:a=b
   .subst d;rw[run_equalIn_iface_ptr_same w 9998 ⟨a,0,V⟩ (Gq h) hu hi f g];simp
   .have p:(⟨a,0,V⟩:Addr)≠⟨b,0,V⟩:=by simp [d]
    rw[run_equalIn_iface_ptr_other w 9998 (Gq h) hu hi f g o p m n];simp [d]
  .cases c
 .cases c
def DB{T:TypeId}(h:yA P T=A){t a:TypeId}(b:t≠a)(v v':Y):RD P (bo .eql T x y (aj t v) (aj a v')) w K X=K (.bool G):=gQ (by simp [bo,eqGuard,binOp,a1C,axa h b v v'])
def axe{T t:TypeId}(h:yA P T=A)(c:J1 P t=A)(d:wo P t=A)(a b:List UInt8):RD P (bo .eql T x y (aj t (aT a)) (aj t (aT b))) w K X=K (.bool (decide (a=b))):=gQ (by simp [bo,eqGuard,binOp,a1C,axb h c d a b])
def axf{T t:TypeId}(h:yA P T=A)(c:J1 P t=A)(d:abC P t=A)(k:IntKind)(a b:Int):RD P (bo .eql T x y (aj t (.int k a)) (aj t (.int k b))) w K X=K (.bool (decide (a=b))):=gQ (by simp [bo,eqGuard,binOp,a1C,axc h c d k a b])
def axg{T t:TypeId}(h:yA P T=A)(c:J1 P t=A)(d:Ai P t=A){a:Nat}{cb:Array Y}{e tb:TypeId}(f:w.heap[a]?=aO iB e)(g:w.heap[b]?=aO cb tb) :
 RD P (bo .eql T x y (aj t (pp a)) (aj t (pp b))) w K X=K (.bool (decide (a=b))):=gQ (by simp [bo,eqGuard,binOp,a1C,axd h c d f g])
def axh{t:TypeId}(h:Ai P t=A){a:Nat}{cb:Array Y}{c tb:TypeId}(d:w.heap[a]?=aO iB c)(e:w.heap[b]?=aO cb tb) :
 RD P (bo .eql t x y (pp a) (pp b)) w K X=K (.bool (decide (a=b))):=gQ (by simp [bo,eqGuard,binOp,a1C,abE h d e])
end
section
variable{P:Program}{w:Z}{K:Y->Prop}{X:Y->Z->Prop}
def aju{ts:Array TypeId}{t:TypeId}{k k':IntKind}(a b:Int):RD P (Builtin.min_ ts t #[.int k a,.int k' b]) w K X=K (.int k (if b<a then b else a)):=gQ (by simp [Builtin.min_,Builtin.min2])
def axi{ts:Array TypeId}{t:TypeId}{k:IntKind}(a b:Int):RD P (Builtin.max_ ts t #[.int k a,.int ET b]) w K X=K (.int k (if b > a then b else a)):=gQ (by simp [Builtin.max_,Builtin.max2])
def WE{t:TypeId}{x:Operand}(k:IntKind)(a b:Int)(h:b≠0):RD P (bo .rem t x y (.int k a) (.int k b)) w K X=K (.int k (a.tmod b)):=gQ (by simp [bo,eqGuard,binOp,Op.intDiv,h])
def Sq{t:TypeId}{x y:Operand}(k:IntKind)(a b:Int)(h:b≠0):RD P (bo .quo t x y (.int k a) (.int k b)) w K X=K (.int k (k.wrap (a.tdiv b))):=gQ (by simp [bo,eqGuard,binOp,Op.intDiv,h])
def ajv{s d:TypeId}(b:(P.underlying s).isSome=A)(c:wo P d=A){k:IntKind}(a:n<128){K:Y->Z->Prop}:WR P (convert s d (.int k n)) w K X=K (aT [UInt8.ofNat n]) w:=by
 have f:P.underlying d=O .string:=by
  grind [wo]
 have h:∀ m:Fin 128,(Utf8.encode (m.val:Int)).data=#[UInt8.ofNat m.val]:=zd;have e:Utf8.encode (n:Int)=bs [UInt8.ofNat n]:=by
  have:=h ⟨n,a⟩;apply ByteArray.ext;omega
 refine xF ?_;grind [run_convert_int_string]
end
section
variable{P:Program}{w:Z}{K:Y->Z->Prop}{X:Y->Z->Prop}
def msB(P:Program)(T:TypeId):Option (TypeId×Y×Nat×Nat):=
 match P.underlying T with
 | some (.slice e)=>match P.info? e with
  | some i=>match i.zero with
   | some z=>O (e,z,i.size,i.bytes)
   | none=>V
  | none=>V
 | _=>V
def abF{T e:TypeId}{z:Y}{by_:Nat}(h:msB P T=O (e,z,pb,by_))(d:n<=m)(a:by_<=1000)(hm:m<=1000000) :
  WR P (Instr.makeSlice T (.int ET n) (.int Pn m)) w K X=K (cS w.heap.size n m) (w.alloc (ae (madeCells z.cells (m*pb)) e)):=by
 unfold msB at h;split at h
 .rename_i e' hu;split at h
  .rename_i i hi;split at h
   .rename_i b c;simp only[a1o,Prod.mk.injEq] at h;obtain⟨rfl,rfl,rfl,rfl⟩:=h;refine xF ?_;have f:i.bytes*m<=1000*1000000:=Nat.mul_le_mul a hm;have:=run_make (P:=P) w T e' i b hu hi c ET Pn n m zo zo zo zo;exact yH
   .cases h
  .cases h
 .cases h
def ajx(P:Program)(t u e:TypeId):Bool:=
 (match P.underlying t with | some (.slice e')=>e' == e | _=>G) && wo P u && (match P.info? e with | some i=>(match i.zero with | some (.int .u8 0)=>A | _=>G) && i.size == 1 && i.bytes == 1 | none=>G)
def ajy{t u ty e:TypeId}(m:ajx P t u e=A)(d:w.ownsRow base e 1 v n xs)(s:List UInt8)
  (E:n+s.length<=1000000000) (y:base<=w.heap.size)
  (h:∀ v' w',w'.ownsRow base e 1 v' (n+s.length) (xs++s.map fun c=>.int .u8 c.toNat)->w.grownBy w' v.ownBlock->(v'.ownBlock=v.ownBlock\/∀ k,v'.ownBlock=O k->w.heap.size<=k)->K v' w') :
  WR P (Builtin.append_ #[t,u] ty #[v,aT s]) w K X:=by
 unfold ajx at m;simp only[Bool.and_eq_true] at m;obtain⟨⟨F,H⟩,f⟩:=m;have ht:P.underlying t=O (.slice e):=by
  grind
 have hu:P.underlying u=O .string:=by
  grind [wo]
 split at f
 .rename_i i hi;simp only[Bool.and_eq_true,beq_iff_eq] at f;obtain⟨⟨l,o⟩,p⟩:=f;have l:i.zero=O (.int .u8 0):=by
   grind
  have r:(bs s).size=s.length:=by simp [ByteArray.size]
  have x:Lib.strCells (bs s)=s.map fun c=>.int .u8 c.toNat:=by simp [Lib.strCells]
  rcases d.2 with⟨rfl,rfl⟩| ⟨g,cap,cur,rfl,z,B,I,L,M,C⟩
  .have hx:xs=[]:=List.eq_nil_of_length_eq_zero (by simpa using d.1);subst hx;obtain⟨v',w',a,b,q,_⟩:=a5m (P:=P) w w.heap.size t u ty e i ht hu hi l o p bW 0 [] (World.ownsRow_nil _ _ _ _) (bs s) (by grind [maxLen]) zo zo;rw[xF a];rw[r,x] at b;exact h v' w' (by grind [aal]) q (.inr fun k hk=>(b.lt k hk).1)
  .obtain⟨v',w',a,b,q,_⟩:=a5m (P:=P) w base t u ty e i ht hu hi l o p _ n xs d (bs s) (by grind [maxLen]) zo y;rw[xF a];rw[r,x] at b;refine h v' w' b q ?_;by_cases N:n+s.length<=cap
   .refine .inl ?_;have D:cur.size=cap:=zo;have:=Lib.run_append_room_string (P:=P) w t u ty e i ht hu hi o g n cap cur B (bs s) zo zo;rw[this] at a;injection a with a _;rw[<- a];rfl
   .refine .inr fun k hk=>?_;have holds:∀ j u,xs[j]?=O u->w.cell? ((⟨g,0,V⟩:Addr).add j)=O u:=d.cells (g:=g) J;have Q:xs.length=n:=zg;have:=Lib.run_append_grow_string (P:=P) w t u ty e i (.int .u8 0) ht hu hi l ⟨g,0,V⟩ n cap xs zg holds (bs s) zo zo (by rw[p];exact growslice_fits zo zo);grind [Value.ownBlock,a1o]
 .cases f
end
def DC{P:Program}{t ty e:TypeId}{i:TypeInfo}{z:Y}{size bytes:Nat}(ht:P.underlying t=O (.slice e))(hi:P.info? e=O i)(d:i.zero=O z)
  (f:i.size=size) (g:i.bytes=bytes) (l:z.cells.size=size) (o:0<size)
 (p:w.ownsRow base e size v n xs) {T:TypeId} {q:Nat×Nat} (C:w.heap[b]?=O (ae cs T q)) (r:cs.toList.length=m*size) (s:∀ u∈cs.toList,u.oneCell'=A)
  (x:n+m<=1000000000) (a:bytes<=1000) (y:base<=w.heap.size) {K:Y->Z->Prop}
  (h:∀ v' w',w'.ownsRow base e size v' (n+m) (xs++cs.toList)->w.grownBy w' v.ownBlock->(v'.ownBlock=v.ownBlock\/∀ k,v'.ownBlock=O k->w.heap.size<=k)->K v' w') :
  WR P (Builtin.append_ #[t,t] ty #[v,cS b m c]) w K X:=by
 have D:(n+m)*bytes<=1000000000*1000:=Nat.mul_le_mul x a;obtain⟨v',w',B,E,F,H⟩:=Wj (P:=P) w base t ty e i z size bytes ht hi d f g l o v n xs p ⟨b,0,V⟩ m c cs.toList r (fun j u hu=>by
  rw[addr_add,Nat.zero_add];grind [cellOf]) s (by grind [maxLen]) zo y
 rw[xF B];grind
section
variable{P:Program}{w:Z}{X:Y->Z->Prop}
def Ss{t:TypeId}{K:Y->Z->Prop}:WR P (Instr.makeMap t V) w K X=K (.map (O w.heap.size)) (w.alloc (.map #[] 0)):=xF J
def WG{b:Bool}{t:TypeId}{s:ByteArray}(h:wo P t=A):(a5i b (n+1) t (.string s)).run P w = .ok () w:=by
 unfold wo at h;split at h
 .rename_i hu;simp [a5i,run_underlying hu]
 grind
def abH{b:Bool}{t:TypeId}{a:Option Addr}(h:Gp P t=A):(a5i b (n+1) t (.pointer a)).run P w = .ok () w:=by
 unfold Gp at h;split at h
 .rename_i hu;simp [a5i,run_underlying hu]
 grind
def Bh(P:Program)(t:TypeId):Option (TypeId×TypeId):=match P.underlying t with | some (.map k e)=>O (k,e) | _=>V
def Gr{t k e:TypeId}(h:Bh P t=O (k,e)):P.underlying t=O (.map k e):=by
 unfold Bh at h;grind
def Su:Y->Option (List UInt8) | .string b=>O b.data.toList | _=>V
def Bi(s:List UInt8):List MapEntry->Nat->Option (Nat×Y)
 | [],_=>V
 | e::r,i=>if Su e.key=O s then O (i,e.val) else Bi s r (i+1)
def MH(es:List MapEntry):Prop:=∀ e∈es,∃ s,e.key = aT s
def ajz{d:TypeDesc}(a:d = .string)(s:List UInt8):∀ (es:List MapEntry) (i:Nat),MH es->a4N d (aT s) es i=O (Bi s es i)
 | [],i,_=>rfl
 | e::r,i,h=>by
  subst a;obtain⟨u,hu⟩:=h e (List.mem_cons_self ..);unfold a4N Bi;rw[hu];have b:(bs s == bs u)=decide (u=s):=by
   rw[abB,Bool.eq_iff_iff];grind
  by_cases he:u=s
  .grind [Instr.sameNow,Su]
  .simp only[Instr.sameNow,b,decide_eq_false he,Su,a1o,bM he];exact ajz J s r (i+1) fun e he=>h e zg
def WH{k:TypeId}(h:wo P k=A)(s:List UInt8){es:List MapEntry}(hk:MH es):(a4O k (aT s) es).run P w = .ok (Bi s es 0) w:=by
 unfold wo at h;split at h
 .rename_i hu;simp [a4O,run_underlying hu,ajz J s es 0 hk]
 grind
def Gs{r:Nat}(a:w.heap[r]?=O (.map es c)):(getObj r).run P w = .ok (.map es c) w:=MapKept.run_getObj_map a
def ajA{t k e:TypeId}{z:Y}{r c:Nat}{es:Array MapEntry}{K:Y->Prop}(ht:Bh P t=O (k,e))(d:wo P k=A)(h:Ae P e=O z)(f:w.heap[r]?=O (.map es c))(hk:MH es.toList)(s:List UInt8)(b:Bool) :
  RD P (a2A t (.map (O r)) (aT s) b) w K X =
   match Bi s es.toList 0 with
   | some (_,v)=>K (if b then ak #[v,.bool A] else v)
   | none=>K (if b then ak #[z,.bool G] else z):=by
 have g:=WG (P:=P) (w:=w) (b:=es.isEmpty) (n:=9999) (t:=k) (s:=bs s) d;have a:=WH (P:=P) (w:=w) d s hk;split
 .rename_i i v hi;rw[hi] at a;refine gQ ?_;simp [a2A,run_underlying (Gr ht),Gs f,g,a]
 .rename_i hi;rw[hi] at a;refine gQ ?_;simp [a2A,run_underlying (Gr ht),Gs f,g,a,ES h]
def axj{t k e:TypeId}{z:Y}(ht:Bh P t=O (k,e))(f:Gp P k=A)(g:Ae P e=O z)(a:Option Addr)(b:Bool) :
  RD P (a2A t (.map V) (.pointer a) b) w K X=K (if b then ak #[z,.bool G] else z):=by
 have h:=abH (P:=P) (w:=w) (b:=true) (n:=9999) (t:=k) (a:=a) f;refine gQ ?_;have c:∃ d,P.underlying k=O (.pointer d):=by
  grind [Gp]
 obtain⟨d,c⟩:=c;simp [a2A,run_underlying (Gr ht),h,a4O,a4N,run_underlying c,ES g]
def EX(l:List (Nat×Y)):List MapEntry->Prop
 | []=>l=[]
 | e::r=>∃ b v l',l=(b,v)::l'/\e.key = aq (O ⟨b,0,V⟩)/\e.val=v/\EX l' r
def Ie(b:Nat):List (Nat×Y)->Nat->Option (Nat×Y)
 | [],_=>V
 | (c,v)::r,i=>if b=c then O (i,v) else Ie b r (i+1)
def ajB{k:TypeId}(hk:Ai P k=A){b:Nat}{cb:Array Y}{tb:TypeId}(d:w.heap[b]?=aO cb tb):∀ (es:List MapEntry) (l:List (Nat×Y)) (i:Nat),EX l es ->
  (∀ c v,(c,v)∈l->∃ cs t,w.heap[c]?=aO cs t)->(Instr.findAsking k (pp b) es i).run P w = .ok (Ie b l i) w
 | [],l,i,h,_=>by
  have h:l=[]:=h;subst h;rfl
 | e::r,l,i,h,f=>by
  obtain⟨c,v,l',rfl,g,j,m⟩:=h;obtain⟨cs,t,n⟩:=f c v (List.mem_cons_self ..);have o:=abE (P:=P) hk d n;unfold Instr.findAsking Ie;rw[g,a1C,o];simp only[a1B];by_cases a:b=c
  .simp [a,j]
  .simp only[decide_eq_false a,bM a];exact ajB hk d r l' (i+1) m yH
def ajC{k:TypeId}(hk:Ai P k=A){cb:Array Y}{tb:TypeId}(f:w.heap[b]?=aO cb tb){es:List MapEntry}{l:List (Nat×Y)}(h:EX l es)
  (g:∀ c v,(c,v)∈l->∃ cs t,w.heap[c]?=aO cs t):(a4O k (pp b) es).run P w = .ok (Ie b l 0) w:=by
 have j:=ajB hk f es l 0 h g;have a:∃ d,P.underlying k=O (.pointer d):=by
  grind [Ai]
 obtain⟨d,a⟩:=a;unfold a4O;rw[a1C,run_underlying a];simp only[a1B];cases es with
 | nil=>
  have h:l=[]:=h;subst h;rfl
 | cons e r=>
  obtain⟨c,v,l',rfl,i,m,n⟩:=h;have:a4N (.pointer d) (pp b) (e::r) 0=none:=by
   unfold a4N;rw[i];rfl
  grind
def abI{k:TypeId}(h:Ai P k=A):Gp P k=true:=by
 grind [Ai,Gp]
def axk{t k e:TypeId}{z:Y}{r c:Nat}{es:Array MapEntry}{l:List (Nat×Y)}{K:Y->Prop}(ht:Bh P t=O (k,e))(f:Ai P k=A)(h:Ae P e=O z)(hm:w.heap[r]?=O (.map es c))(hk:EX l es.toList)
  (j:∀ c v,(c,v)∈l->∃ cs t,w.heap[c]?=aO cs t) {b:Nat} {cb:Array Y} {tb:TypeId} (m:w.heap[b]?=aO cb tb) (ok:Bool) :
  RD P (a2A t (.map (O r)) (pp b) ok) w K X =
   match Ie b l 0 with
   | some (_,v)=>K (if ok then ak #[v,.bool A] else v)
   | none=>K (if ok then ak #[z,.bool G] else z):=by
 have g:=abH (P:=P) (w:=w) (b:=es.isEmpty) (n:=9999) (t:=k) (a:=O ⟨b,0,V⟩) (abI f);have d:=ajC (P:=P) (w:=w) f m hk j;split
 .rename_i i v hi;rw[hi] at d;refine gQ ?_;simp [a2A,run_underlying (Gr ht),Gs hm,g,d]
 .rename_i hi;rw[hi] at d;refine gQ ?_;simp [a2A,run_underlying (Gr ht),Gs hm,g,d,ES h]
def axl{t k e:TypeId}{r:Nat}{l:List (Nat×Y)}{K:Z->Prop}(ht:Bh P t=O (k,e))(d:Ai P k=A)(hm:w.heap[r]?=O (.map es c))(hk:EX l es.toList)
  (g:∀ c v,(c,v)∈l->∃ cs t,w.heap[c]?=aO cs t) {cb:Array Y} {tb:TypeId} (h:w.heap[b]?=aO cb tb) (i:Ie b l 0=V) (v:Y) :
  WU P (a22 t (.map (O r)) (pp b) v) w K X=K (bQ w r (.map (es.push { key:=pp b,val:=v,born:=c }) (c+1))):=by
 have j:=abH (P:=P) (w:=w) (b:=false) (n:=9999) (t:=k) (a:=O ⟨b,0,V⟩) (abI d);have f:=ajC (P:=P) (w:=w) d h hk g;rw[i] at f;refine Sd ?_;simp [a22,run_underlying (Gr ht),Gs hm,j,f,a3n _ hm,bQ]
def axm{t k e:TypeId}{r:Nat}{K:Z->Prop}(ht:Bh P t=O (k,e))(a:wo P k=A)(hm:w.heap[r]?=O (.map es c))(hk:MH es.toList)(s:List UInt8)(f:Bi s es.toList 0=V)(v:Y) :
  WU P (a22 t (.map (O r)) (aT s) v) w K X=K (bQ w r (.map (es.push { key:=aT s,val:=v,born:=c }) (c+1))):=by
 have g:=WG (P:=P) (w:=w) (b:=false) (n:=9999) (t:=k) (s:=bs s) a;have d:=WH (P:=P) (w:=w) a s hk;rw[f] at d;refine Sd ?_;simp [a22,run_underlying (Gr ht),Gs hm,g,d,a3n _ hm,bQ]
def ajD{s:List UInt8}:∀ {es:List MapEntry} {i j:Nat} {v:Y},Bi s es i=O (j,v)->i<=j/\∃ e,es[j-i]?=O e/\e.key = aT s/\e.val=v
 | [],_,_,_,h=>by cases h
 | e::r,i,j,v,h=>by
  unfold Bi at h;split at h
  .rename_i hk;simp only[a1o,Prod.mk.injEq] at h;obtain⟨rfl,rfl⟩:=h;refine⟨Nat.le_refl _,e,zs,?_,J⟩;unfold Su at hk;split at hk
   .rename_i b a;injection hk with hk;rw[a,<- hk]
   grind
  .obtain⟨c,e',d,f⟩:=ajD h;grind
def axn{t k e:TypeId}{r:Nat}{K:Z->Prop}(ht:Bh P t=O (k,e))(a:wo P k=A)(hm:w.heap[r]?=O (.map es c))(hk:MH es.toList)(s:List UInt8)(d:Bi s es.toList 0=O (i,u))(v:Y) :
  WU P (a22 t (.map (O r)) (aT s) v) w K X=K (bQ w r (.map (es.modify i fun e=>{ e with key:=aT s,val:=v }) c)):=by
 have g:=WG (P:=P) (w:=w) (b:=false) (n:=9999) (t:=k) (s:=bs s) a;have f:=WH (P:=P) (w:=w) a s hk;rw[d] at f;obtain⟨-,e',l,m,-⟩:=ajD d;have h:(es[i]?).map (·.key)=O (aT s):=by
  grind
 have j:(Instr.keyThatStays (((es[i]?).map (·.key)).getD (aT s)) (aT s)).run P w = .ok (aT s) w:=by
  rw[h];simp [Instr.keyThatStays,Instr.sameBits,abB]
 refine Sd ?_;simp [a22,run_underlying (Gr ht),Gs hm,g,f,j,a3n _ hm,bQ]
end
end Sx
