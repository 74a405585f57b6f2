/- A part of one proof (SxO). -/
import Derived.Test.YtoegidfbnkaabaaGreatDoorPkIAC
import Derived.LaidEql
import Derived.Laws.MakeOwn
import Derived.Laws.StructEq
import Derived.Lib.AppendStr
import Derived.MapKept
import Derived.WideMake
import Derived.Laws.Runes
set_option linter.all false
set_option maxRecDepth 100000
set_option maxHeartbeats 8000000
open Option renaming some → O, none → V
open Go renaming Value → Y, World → Z
open Bool renaming true → A, false → G
open Go.Obj renaming cells → ae
open Go.Value renaming nilIface → ai, iface → aj, tuple → ak, pointer → aq
open Option.some renaming injEq → a07
open Go.Result renaming andThen_ok → a1k
open Go.Sem renaming run_bind → a1m
open Go.Instr renaming typeAssert → a1s, lookup → a2j, mapUpdate → a2K, missingMethod → a2X, findNow → a4A, findKey → a4B, checkKey → a43
open Go.MapKept renaming run_setObj_map → a2Z
open Go.Op renaming equalIn → a3v, equal → a4l
open Go.Lib renaming run_append_own_string → a48
namespace Go.Proofs.YtoegidfbnkaabaaGreatDoor
variable{K:Y->Prop}{X:Y->Z->Prop}{b base c i n pb:Nat}{cs iL:Array Y}{es:Array MapEntry}{u v z:Y}{Fb PL:IntKind}{xs:List Y}{y:Operand}
namespace Sx
open Go
def abK(a b:List UInt8):(bs a == bs b)=decide (a=b):=by
 change (a.toArray == b.toArray)=_;grind
section
variable{P:Program}{w:Z}{K:Y->Prop}{X:Y->Z->Prop}{x y:Operand}
def ajF{u:TypeId}(h:Kp P u=A):∃ d,P.underlying u=O d/\∀ ms,d≠.interface ms:=by
 grind [Kp]
def SC{u c:TypeId}(e:Kp P u=A)(f:Ao P u=O z)(t:TypeId)(v:Y) :
  RD P (a1s (aj t v) c u A) w K X=if t=u then K (ak #[v,.bool A]) else K (ak #[z,.bool G]):=by
 obtain⟨d,a,b⟩:=ajF e;split
 .rename_i h;subst h;refine ij ?_;unfold a1s;simp only[a1m,run_underlying a,a1k];cases d<;>first | exact absurd J (b _) | simp
 .rename_i h;refine ij ?_;unfold a1s;simp only[a1m,run_underlying a,a1k];cases d<;>first | exact absurd J (b _) | simp [h,Fa f]
def SD{u a:TypeId}(b:Kp P u=A)(c:Ao P u=O z) :
  RD P (a1s ai a u A) w K X=K (ak #[z,.bool G]):=by
 obtain⟨d,e,f⟩:=ajF b;refine ij ?_;unfold a1s;simp only[a1m,run_underlying e,a1k];cases d<;>first | exact absurd J (f _) | simp [Fa c]
def hasB(P:Program)(u t:TypeId):Bool:=
 match P.underlying u with
 | some (.interface want)=>match P.info? t with
  | some i=>(a2X want i.methods).isNone
  | none=>G
 | _=>G
def WG(P:Program)(u t:TypeId):Bool:=
 match P.underlying u with
 | some (.interface want)=>match P.info? t with
  | some i=>(a2X want i.methods).isSome
  | none=>G
 | _=>G
def axg{u a t:TypeId}(h:hasB P u t=A)(v:Y):RD P (a1s (aj t v) a u A) w K X=K (ak #[aj t v,.bool A]):=by
 refine ij ?_;unfold hasB at h;split at h
 .rename_i want hu;split at h
  .rename_i i b;unfold a1s;simp only[a1m,run_underlying hu,a1k,typeInfo,program,Sem.run,b,Sem.run_pure];cases hm:a2X want i.methods with
   | none=>simp
   | some m=>grind
  grind
 grind
def axh{u a t:TypeId}(h:WG P u t=A)(b:Ao P u=O z)(v:Y):RD P (a1s (aj t v) a u A) w K X=K (ak #[z,.bool G]):=by
 refine ij ?_;unfold WG at h;split at h
 .rename_i want hu;split at h
  .rename_i i c;unfold a1s;simp only[a1m,run_underlying hu,a1k,typeInfo,program,Sem.run,c,Sem.run_pure];cases hm:a2X want i.methods with
   | none=>grind
   | some m=>simp [Fa b]
  grind
 grind
def axi{u a:TypeId}(h:yT P u=A)(b:Ao P u=O z):RD P (a1s ai a u A) w K X=K (ak #[z,.bool G]):=by
 refine ij ?_;unfold a1s;simp only[a1m,run_underlying (GH h),a1k];simp [Fa b]
def Ks(P:Program)(t:TypeId):Bool:=match P.info? t with | some i=>i.comparable | none=>G
def wZ(P:Program)(t:TypeId):Bool:=match P.underlying t with | some .string=>A | _=>G
def abL(P:Program)(t:TypeId):Bool:=match P.underlying t with | some (.int _)=>A | _=>G
def Ar(P:Program)(t:TypeId):Bool:=match P.underlying t with | some (.pointer e)=>(match P.info? e with | some i=>i.size != 0 | none=>G) | _=>G
def axj{T:TypeId}(h:yT P T=A){t a:TypeId}(b:t≠a)(v v':Y):(a4l T (aj t v) (aj a v')).run P w = .ok G w:=by
 have k:∀ d:Nat,(a3v (d+1) T (aj t v) (aj a v')).run P w = .ok G w:=fun d=>by simp [a3v,run_underlying (GH h),b]
 exact k 9999
def abM{t:TypeId}(h:Ks P t=A):∃ i,P.info? t=O i/\i.comparable=true:=by
 grind [Ks]
def axk{T t:TypeId}(h:yT P T=A)(e:Ks P t=A)(c:wZ P t=A)(a b:List UInt8):(a4l T (aj t (aT a)) (aj t (aT b))).run P w = .ok (decide (a=b)) w:=by
 obtain⟨i,f,g⟩:=abM e;unfold wZ at c;split at c
 .rename_i hu;have k:∀ d:Nat,(a3v (d+2) T (aj t (aT a)) (aj t (aT b))).run P w = .ok (decide (a=b)) w:=fun d=>by
   simp [a3v,run_underlying (GH h),run_underlying hu,typeInfo,f,g,abK]
  exact k 9998
 grind
def axl{T t:TypeId}(h:yT P T=A)(e:Ks P t=A)(c:abL P t=A)(k:IntKind)(a b:Int):(a4l T (aj t (.int k a)) (aj t (.int k b))).run P w = .ok (decide (a=b)) w:=by
 obtain⟨i,f,g⟩:=abM e;unfold abL at c;split at c
 .rename_i hu;have k':∀ d:Nat,(a3v (d+2) T (aj t (.int k a)) (aj t (.int k b))).run P w = .ok (decide (a=b)) w:=fun d=>by
   simp [a3v,run_underlying (GH h),run_underlying hu,typeInfo,f,g];grind
  exact k' 9998
 grind
def abN{t:TypeId}(h:Ar P t=A){a:Nat}{cb:Array Y}{j tb:TypeId}(l:w.heap[a]?=aN iL j)(m:w.heap[b]?=aN cb tb) :
  (a4l t (pp a) (pp b)).run P w = .ok (decide (a=b)) w:=by
 unfold Ar at h;split at h
 .rename_i e hu;split at h
  .rename_i i c;have f:i.size≠0:=zg;have k:∀ d:Nat,(a3v (d+1) t (pp a) (pp b)).run P w = .ok (decide (a=b)) w:=fun d=>by
    by_cases g:a=b
    .subst g;simp [a3v,run_underlying hu,sizeOf,typeInfo,c,f,run_sameAddr_same]
    .have n:(⟨a,0,V⟩:Addr)≠⟨b,0,V⟩:=zg;simp [a3v,run_underlying hu,sizeOf,typeInfo,c,f,run_sameAddr_other w n l m,g]
   exact k 9999
  grind
 grind
def axm{T t:TypeId}(h:yT P T=A)(l:Ks P t=A)(c:Ar P t=A){a:Nat}{cb:Array Y}{m tb:TypeId}(n:w.heap[a]?=aN iL m)(o:w.heap[b]?=aN cb tb) :
  (a4l T (aj t (pp a)) (aj t (pp b))).run P w = .ok (decide (a=b)) w:=by
 obtain⟨i,f,g⟩:=abM l;unfold Ar at c;split at c
 .rename_i e hu;split at c
  .rename_i j k;have p:j.size≠0:=by simpa using c
   unfold a4l Op.maxDepth;by_cases d:a=b
   .subst d;rw[run_equalIn_iface_ptr_same w 9998 ⟨a,0,V⟩ (GH h) hu f g k];simp
   .have q:(⟨a,0,V⟩:Addr)≠⟨b,0,V⟩:=by simp [d]
    rw[run_equalIn_iface_ptr_other w 9998 (GH h) hu f g k p q n o];simp [d]
  .cases c
 .cases c
def DO{T:TypeId}(h:yT P T=A){t a:TypeId}(b:t≠a)(v v':Y):RD P (bo .eql T x y (aj t v) (aj a v')) w K X=K (.bool G):=ij (by simp [bo,eqGuard,binOp,a1m,axj h b v v'])
def axn{T t:TypeId}(h:yT P T=A)(c:Ks P t=A)(d:wZ P t=A)(a b:List UInt8):RD P (bo .eql T x y (aj t (aT a)) (aj t (aT b))) w K X=K (.bool (decide (a=b))):=ij (by simp [bo,eqGuard,binOp,a1m,axk h c d a b])
def axo{T t:TypeId}(h:yT P T=A)(c:Ks P t=A)(d:abL P t=A)(k:IntKind)(a b:Int):RD P (bo .eql T x y (aj t (.int k a)) (aj t (.int k b))) w K X=K (.bool (decide (a=b))):=ij (by simp [bo,eqGuard,binOp,a1m,axl h c d k a b])
def axp{T t:TypeId}(h:yT P T=A)(c:Ks P t=A)(d:Ar P t=A){a:Nat}{cb:Array Y}{e tb:TypeId}(f:w.heap[a]?=aN iL e)(g:w.heap[b]?=aN cb tb) :
 RD P (bo .eql T x y (aj t (pp a)) (aj t (pp b))) w K X=K (.bool (decide (a=b))):=ij (by simp [bo,eqGuard,binOp,a1m,axm h c d f g])
def axq{t:TypeId}(h:Ar P t=A){a:Nat}{cb:Array Y}{c tb:TypeId}(d:w.heap[a]?=aN iL c)(e:w.heap[b]?=aN cb tb) :
 RD P (bo .eql t x y (pp a) (pp b)) w K X=K (.bool (decide (a=b))):=ij (by simp [bo,eqGuard,binOp,a1m,abN h d e])
end
section
variable{P:Program}{w:Z}{K:Y->Prop}{X:Y->Z->Prop}
def ajG{ts:Array TypeId}{t:TypeId}{k k':IntKind}(a b:Int):RD P (Builtin.min_ ts t #[.int k a,.int k' b]) w K X=K (.int k (if b<a then b else a)):=ij (by simp [Builtin.min_,Builtin.min2])
def axr{ts:Array TypeId}{t:TypeId}{k:IntKind}(a b:Int):RD P (Builtin.max_ ts t #[.int k a,.int Fb b]) w K X=K (.int k (if b > a then b else a)):=ij (by simp [Builtin.max_,Builtin.max2])
def axs{t:TypeId}{x:Operand}(k:IntKind)(a b:Int)(h:b≠0):RD P (bo .rem t x y (.int k a) (.int k b)) w K X=K (.int k (a.tmod b)):=ij (by simp [bo,eqGuard,binOp,Op.intDiv,h])
def axt{t:TypeId}{x:Operand}(k:IntKind)(a b:Int)(h:b≠0):RD P (bo .quo t x y (.int k a) (.int k b)) w K X=K (.int k (k.wrap (a.tdiv b))):=ij (by simp [bo,eqGuard,binOp,Op.intDiv,h])
def ajH{s d:TypeId}(b:(P.underlying s).isSome=A)(c:wZ P d=A){k:IntKind}(a:n<128){K:Y->Z->Prop}:WR P (convert s d (.int k n)) w K X=K (aT [UInt8.ofNat n]) w:=by
 have f:P.underlying d=O .string:=by
  grind [wZ]
 have h:∀ m:Fin 128,(Utf8.encode (m.val:Int)).data=#[UInt8.ofNat m.val]:=zd;have e:Utf8.encode (n:Int)=bs [UInt8.ofNat n]:=by
  have:=h ⟨n,a⟩;apply ByteArray.ext;omega
 refine xR ?_;grind [run_convert_int_string]
end
section
variable{P:Program}{w:Z}{K:Y->Z->Prop}{X:Y->Z->Prop}
def msB(P:Program)(T:TypeId):Option (TypeId×Y×Nat×Nat):=
 match P.underlying T with
 | some (.slice e)=>match P.info? e with
  | some i=>match i.zero with
   | some z=>O (e,z,i.size,i.bytes)
   | none=>V
  | none=>V
 | _=>V
def abO{T e:TypeId}{by_:Nat}(h:msB P T=O (e,z,pb,by_)){m:Nat}(f:n<=m)(a:by_<=1000)(hm:m<=1000000) :
  WR P (Instr.makeSlice T (.int Fb n) (.int PL m)) w K X=K (cV w.heap.size n m) (w.alloc (ae (madeCells z.cells (m*pb)) e)):=by
 unfold msB at h;split at h
 .rename_i e' hu;split at h
  .rename_i i b;split at h
   .rename_i c d;simp only[a07,Prod.mk.injEq] at h;obtain⟨rfl,rfl,rfl,rfl⟩:=h;refine xR ?_;have g:i.bytes*m<=1000*1000000:=Nat.mul_le_mul a hm;have:=run_make (P:=P) w T e' i c hu b d Fb PL n m zo zo zo zo;exact yH
   .cases h
  .cases h
 .cases h
def ajJ(P:Program)(t u e:TypeId):Bool:=
 (match P.underlying t with | some (.slice e')=>e' == e | _=>G) && wZ P u && (match P.info? e with | some i=>(match i.zero with | some (.int .u8 0)=>A | _=>G) && i.size == 1 && i.bytes == 1 | none=>G)
def ajK{t u ty e:TypeId}(o:ajJ P t u e=A)(d:w.ownsRow base e 1 v n xs)(s:List UInt8)
  (F:n+s.length<=1000000000) (z:base<=w.heap.size)
  (h:∀ v' w',w'.ownsRow base e 1 v' (n+s.length) (xs++s.map fun c=>.int .u8 c.toNat)->w.grownBy w' v.ownBlock->(v'.ownBlock=v.ownBlock\/∀ k,v'.ownBlock=O k->w.heap.size<=k)->K v' w') :
  WR P (Builtin.append_ #[t,u] ty #[v,aT s]) w K X:=by
 unfold ajJ at o;simp only[Bool.and_eq_true] at o;obtain⟨⟨H,I⟩,f⟩:=o;have ht:P.underlying t=O (.slice e):=by
  grind
 have hu:P.underlying u=O .string:=by
  grind [wZ]
 split at f
 .rename_i i l;simp only[Bool.and_eq_true,beq_iff_eq] at f;obtain⟨⟨m,p⟩,q⟩:=f;have m:i.zero=O (.int .u8 0):=by
   grind
  have x:(bs s).size=s.length:=by simp [ByteArray.size]
  have y:Lib.strCells (bs s)=s.map fun c=>.int .u8 c.toNat:=by simp [Lib.strCells]
  rcases d.2 with⟨rfl,rfl⟩| ⟨g,cap,cur,rfl,B,C,L,M,N,D⟩
  .have hx:xs=[]:=List.eq_nil_of_length_eq_zero (by simpa using d.1);subst hx;obtain⟨v',w',a,b,r,_⟩:=a48 (P:=P) w w.heap.size t u ty e i ht hu l m p q bX 0 [] (World.ownsRow_nil _ _ _ _) (bs s) (by grind [maxLen]) zo zo;rw[xR a];rw[x,y] at b;exact h v' w' (by grind [aar]) r (.inr fun k hk=>(b.lt k hk).1)
  .obtain⟨v',w',a,b,r,_⟩:=a48 (P:=P) w base t u ty e i ht hu l m p q _ n xs d (bs s) (by grind [maxLen]) zo z;rw[xR a];rw[x,y] at b;refine h v' w' b r ?_;by_cases Q:n+s.length<=cap
   .refine .inl ?_;have E:cur.size=cap:=zo;have:=Lib.run_append_room_string (P:=P) w t u ty e i ht hu l p g n cap cur C (bs s) zo zo;rw[this] at a;injection a with a _;rw[<- a];rfl
   .refine .inr fun k hk=>?_;have holds:∀ j u,xs[j]?=O u->w.cell? ((⟨g,0,V⟩:Addr).add j)=O u:=d.cells (g:=g) J;have R:xs.length=n:=zg;have:=Lib.run_append_grow_string (P:=P) w t u ty e i (.int .u8 0) ht hu l m ⟨g,0,V⟩ n cap xs zg holds (bs s) zo zo (by rw[q];exact growslice_fits zo zo);grind [Value.ownBlock,a07]
 .cases f
end
def DP{P:Program}{t ty e:TypeId}{i:TypeInfo}{size bytes:Nat}(ht:P.underlying t=O (.slice e))(d:P.info? e=O i)(f:i.zero=O z)
  (g:i.size=size) (l:i.bytes=bytes) (o:z.cells.size=size) (p:0<size) {w:Z}
 (q:w.ownsRow base e size v n xs) {m:Nat} {T:TypeId} {r:Nat×Nat} (D:w.heap[b]?=O (ae cs T r)) (s:cs.toList.length=m*size) (x:∀ u∈cs.toList,u.oneCell'=A)
  (y:n+m<=1000000000) (a:bytes<=1000) (B:base<=w.heap.size) {K:Y->Z->Prop}
  (h:∀ v' w',w'.ownsRow base e size v' (n+m) (xs++cs.toList)->w.grownBy w' v.ownBlock->(v'.ownBlock=v.ownBlock\/∀ k,v'.ownBlock=O k->w.heap.size<=k)->K v' w') :
  WR P (Builtin.append_ #[t,t] ty #[v,cV b m c]) w K X:=by
 have E:(n+m)*bytes<=1000000000*1000:=Nat.mul_le_mul y a;obtain⟨v',w',C,F,H,I⟩:=Wm (P:=P) w base t ty e i z size bytes ht d f g l o p v n xs q ⟨b,0,V⟩ m c cs.toList s (fun j u hu=>by
  rw[addr_add,Nat.zero_add];grind [cellOf]) x (by grind [maxLen]) zo B
 rw[xR C];grind
section
variable{P:Program}{w:Z}{X:Y->Z->Prop}
def SE{t:TypeId}{K:Y->Z->Prop}:WR P (Instr.makeMap t V) w K X=K (.map (O w.heap.size)) (w.alloc (.map #[] 0)):=xR J
def WH{b:Bool}{t:TypeId}{s:ByteArray}(h:wZ P t=A):(a43 b (n+1) t (.string s)).run P w = .ok () w:=by
 unfold wZ at h;split at h
 .rename_i hu;simp [a43,run_underlying hu]
 grind
def abQ{b:Bool}{t:TypeId}{a:Option Addr}(h:GG P t=A):(a43 b (n+1) t (.pointer a)).run P w = .ok () w:=by
 unfold GG at h;split at h
 .rename_i hu;simp [a43,run_underlying hu]
 grind
def Bp(P:Program)(t:TypeId):Option (TypeId×TypeId):=match P.underlying t with | some (.map k e)=>O (k,e) | _=>V
def GI{t k e:TypeId}(h:Bp P t=O (k,e)):P.underlying t=O (.map k e):=by
 unfold Bp at h;grind
def SF:Y->Option (List UInt8) | .string b=>O b.data.toList | _=>V
def Bq(s:List UInt8):List MapEntry->Nat->Option (Nat×Y)
 | [],_=>V
 | e::r,i=>if SF e.key=O s then O (i,e.val) else Bq s r (i+1)
def Nf(es:List MapEntry):Prop:=∀ e∈es,∃ s,e.key = aT s
def ajL{d:TypeDesc}(a:d = .string)(s:List UInt8):∀ (es:List MapEntry) (i:Nat),Nf es->a4A d (aT s) es i=O (Bq s es i)
 | [],i,_=>rfl
 | e::r,i,h=>by
  subst a;obtain⟨u,hu⟩:=h e (List.mem_cons_self ..);unfold a4A Bq;rw[hu];have b:(bs s == bs u)=decide (u=s):=by
   rw[abK,Bool.eq_iff_iff];grind
  by_cases he:u=s
  .grind [Instr.sameNow,SF]
  .simp only[Instr.sameNow,b,decide_eq_false he,SF,a07,bI he];exact ajL J s r (i+1) fun e he=>h e zg
def WI{k:TypeId}(h:wZ P k=A)(s:List UInt8){es:List MapEntry}(hk:Nf es):(a4B k (aT s) es).run P w = .ok (Bq s es 0) w:=by
 unfold wZ at h;split at h
 .rename_i hu;simp [a4B,run_underlying hu,ajL J s es 0 hk]
 grind
def GJ{r:Nat}(a:w.heap[r]?=O (.map es c)):(getObj r).run P w = .ok (.map es c) w:=MapKept.run_getObj_map a
def ajM{t k e:TypeId}{z:Y}{r c:Nat}{es:Array MapEntry}{K:Y->Prop}(ht:Bp P t=O (k,e))(f:wZ P k=A)(j:Ao P e=O z)(g:w.heap[r]?=O (.map es c))(hk:Nf es.toList)(s:List UInt8)(b:Bool) :
  RD P (a2j t (.map (O r)) (aT s) b) w K X =
   match Bq s es.toList 0 with
   | some (_,v)=>K (if b then ak #[v,.bool A] else v)
   | none=>K (if b then ak #[z,.bool G] else z):=by
 have h:=WH (P:=P) (w:=w) (b:=es.isEmpty) (n:=9999) (t:=k) (s:=bs s) f;have a:=WI (P:=P) (w:=w) f s hk;split
 .rename_i i v d;rw[d] at a;refine ij ?_;simp [a2j,run_underlying (GI ht),GJ g,h,a]
 .rename_i d;rw[d] at a;refine ij ?_;simp [a2j,run_underlying (GI ht),GJ g,h,a,Fa j]
def axu{t k e:TypeId}(ht:Bp P t=O (k,e))(f:GG P k=A)(g:Ao P e=O z)(a:Option Addr)(b:Bool) :
  RD P (a2j t (.map V) (.pointer a) b) w K X=K (if b then ak #[z,.bool G] else z):=by
 have h:=abQ (P:=P) (w:=w) (b:=true) (n:=9999) (t:=k) (a:=a) f;refine ij ?_;have c:∃ d,P.underlying k=O (.pointer d):=by
  grind [GG]
 obtain⟨d,c⟩:=c;simp [a2j,run_underlying (GI ht),h,a4B,a4A,run_underlying c,Fa g]
def Fg(l:List (Nat×Y)):List MapEntry->Prop
 | []=>l=[]
 | e::r=>∃ b v l',l=(b,v)::l'/\e.key = aq (O ⟨b,0,V⟩)/\e.val=v/\Fg l' r
def IF(b:Nat):List (Nat×Y)->Nat->Option (Nat×Y)
 | [],_=>V
 | (c,v)::r,i=>if b=c then O (i,v) else IF b r (i+1)
def ajN{k:TypeId}(hk:Ar P k=A){b:Nat}{cb:Array Y}{tb:TypeId}(d:w.heap[b]?=aN cb tb):∀ (es:List MapEntry) (l:List (Nat×Y)) (i:Nat),Fg l es ->
  (∀ c v,(c,v)∈l->∃ cs t,w.heap[c]?=aN cs t)->(Instr.findAsking k (pp b) es i).run P w = .ok (IF b l i) w
 | [],l,i,h,_=>by
  have h:l=[]:=h;subst h;rfl
 | e::r,l,i,h,f=>by
  obtain⟨c,v,l',rfl,g,j,m⟩:=h;obtain⟨cs,t,n⟩:=f c v (List.mem_cons_self ..);have o:=abN (P:=P) hk d n;unfold Instr.findAsking IF;rw[g,a1m,o];simp only[a1k];by_cases a:b=c
  .simp [a,j]
  .simp only[decide_eq_false a,bI a];exact ajN hk d r l' (i+1) m yH
def ajO{k:TypeId}(hk:Ar P k=A){cb:Array Y}{tb:TypeId}(f:w.heap[b]?=aN cb tb){es:List MapEntry}{l:List (Nat×Y)}(h:Fg l es)
  (g:∀ c v,(c,v)∈l->∃ cs t,w.heap[c]?=aN cs t):(a4B k (pp b) es).run P w = .ok (IF b l 0) w:=by
 have j:=ajN hk f es l 0 h g;have a:∃ d,P.underlying k=O (.pointer d):=by
  grind [Ar]
 obtain⟨d,a⟩:=a;unfold a4B;rw[a1m,run_underlying a];simp only[a1k];cases es with
 | nil=>
  have h:l=[]:=h;subst h;rfl
 | cons e r=>
  obtain⟨c,v,l',rfl,i,m,n⟩:=h;have:a4A (.pointer d) (pp b) (e::r) 0=none:=by
   unfold a4A;rw[i];rfl
  grind
def abR{k:TypeId}(h:Ar P k=A):GG P k=true:=by
 grind [Ar,GG]
def axv{t k e:TypeId}{z:Y}{r c:Nat}{es:Array MapEntry}{l:List (Nat×Y)}{K:Y->Prop}(ht:Bp P t=O (k,e))(g:Ar P k=A)(j:Ao P e=O z)(hm:w.heap[r]?=O (.map es c))(hk:Fg l es.toList)
  (m:∀ c v,(c,v)∈l->∃ cs t,w.heap[c]?=aN cs t) {b:Nat} {cb:Array Y} {tb:TypeId} (o:w.heap[b]?=aN cb tb) (ok:Bool) :
  RD P (a2j t (.map (O r)) (pp b) ok) w K X =
   match IF b l 0 with
   | some (_,v)=>K (if ok then ak #[v,.bool A] else v)
   | none=>K (if ok then ak #[z,.bool G] else z):=by
 have h:=abQ (P:=P) (w:=w) (b:=es.isEmpty) (n:=9999) (t:=k) (a:=O ⟨b,0,V⟩) (abR g);have d:=ajO (P:=P) (w:=w) g o hk m;split
 .rename_i i v f;rw[f] at d;refine ij ?_;simp [a2j,run_underlying (GI ht),GJ hm,h,d]
 .rename_i f;rw[f] at d;refine ij ?_;simp [a2j,run_underlying (GI ht),GJ hm,h,d,Fa j]
def axw{t k e:TypeId}{r:Nat}{l:List (Nat×Y)}{K:Z->Prop}(ht:Bp P t=O (k,e))(d:Ar P k=A)(hm:w.heap[r]?=O (.map es c))(hk:Fg l es.toList)
  (g:∀ c v,(c,v)∈l->∃ cs t,w.heap[c]?=aN cs t) {cb:Array Y} {tb:TypeId} (h:w.heap[b]?=aN cb tb) (i:IF b l 0=V) (v:Y) :
  WU P (a2K t (.map (O r)) (pp b) v) w K X=K (bS w r (.map (es.push { key:=pp b,val:=v,born:=c }) (c+1))):=by
 have j:=abQ (P:=P) (w:=w) (b:=false) (n:=9999) (t:=k) (a:=O ⟨b,0,V⟩) (abR d);have f:=ajO (P:=P) (w:=w) d h hk g;rw[i] at f;refine So ?_;simp [a2K,run_underlying (GI ht),GJ hm,j,f,a2Z _ hm,bS]
def axx{t k e:TypeId}{r:Nat}{K:Z->Prop}(ht:Bp P t=O (k,e))(a:wZ P k=A)(hm:w.heap[r]?=O (.map es c))(hk:Nf es.toList)(s:List UInt8)(f:Bq s es.toList 0=V)(v:Y) :
  WU P (a2K t (.map (O r)) (aT s) v) w K X=K (bS w r (.map (es.push { key:=aT s,val:=v,born:=c }) (c+1))):=by
 have g:=WH (P:=P) (w:=w) (b:=false) (n:=9999) (t:=k) (s:=bs s) a;have d:=WI (P:=P) (w:=w) a s hk;rw[f] at d;refine So ?_;simp [a2K,run_underlying (GI ht),GJ hm,g,d,a2Z _ hm,bS]
def ajP{s:List UInt8}:∀ {es:List MapEntry} {i j:Nat} {v:Y},Bq s es i=O (j,v)->i<=j/\∃ e,es[j-i]?=O e/\e.key = aT s/\e.val=v
 | [],_,_,_,h=>by cases h
 | e::r,i,j,v,h=>by
  unfold Bq at h;split at h
  .rename_i hk;simp only[a07,Prod.mk.injEq] at h;obtain⟨rfl,rfl⟩:=h;refine⟨Nat.le_refl _,e,zs,?_,J⟩;unfold SF at hk;split at hk
   .rename_i b a;injection hk with hk;rw[a,<- hk]
   grind
  .obtain⟨c,e',d,f⟩:=ajP h;grind
def axy{t k e:TypeId}{r:Nat}{K:Z->Prop}(ht:Bp P t=O (k,e))(a:wZ P k=A)(hm:w.heap[r]?=O (.map es c))(hk:Nf es.toList)(s:List UInt8)(d:Bq s es.toList 0=O (i,u))(v:Y) :
  WU P (a2K t (.map (O r)) (aT s) v) w K X=K (bS w r (.map (es.modify i fun e=>{ e with key:=aT s,val:=v }) c)):=by
 have g:=WH (P:=P) (w:=w) (b:=false) (n:=9999) (t:=k) (s:=bs s) a;have f:=WI (P:=P) (w:=w) a s hk;rw[d] at f;obtain⟨-,e',l,m,-⟩:=ajP d;have h:(es[i]?).map (·.key)=O (aT s):=by
  grind
 have j:(Instr.keyThatStays (((es[i]?).map (·.key)).getD (aT s)) (aT s)).run P w = .ok (aT s) w:=by
  rw[h];simp [Instr.keyThatStays,Instr.sameBits,abK]
 refine So ?_;simp [a2K,run_underlying (GI ht),GJ hm,g,f,j,a2Z _ hm,bS]
end
end Sx
