/- A part of one proof (SxO). -/
import Derived.Test.YtoegidfbnkaabaaGreatDoorPkHAC
import Derived.LaidEql
import Derived.Laws.MakeOwn
import Derived.Laws.StructEq
import Derived.Lib.AppendStr
import Derived.MapKept
import Derived.WideMake
import Derived.Laws.Runes
set_option linter.all false
set_option maxRecDepth 100000
set_option maxHeartbeats 8000000
open Option renaming some → O, none → V
open Go renaming Value → Y, World → Z
open Bool renaming true → A, false → G
open Go.Obj renaming cells → ae
open Go.Value renaming nilIface → ai, iface → aj, tuple → ak, pointer → aq
open Option.some renaming injEq → aZ9
open Go.Result renaming andThen_ok → a0k
open Go.Sem renaming run_bind → a0l
open Go.Instr renaming typeAssert → a0t, lookup → a1c, mapUpdate → a1H, missingMethod → a1W, findNow → a3w, findKey → a3x, checkKey → a3Y
open Go.MapKept renaming run_setObj_map → a1X
open Go.Op renaming equalIn → a18, equal → a2Y
open Go.Lib renaming run_append_own_string → a33
namespace Go.Proofs.YtoegidfbnkaabaaGreatDoor
variable{K:Y->Prop}{X:Y->Z->Prop}{b base c i m n pb:Nat}{cs iC:Array Y}{es:Array MapEntry}{u v z:Y}{Ev OF:IntKind}{w:Z}{xs:List Y}{y:Operand}
namespace Sx
open Go
def aaI(a b:List UInt8):(bs a == bs b)=decide (a=b):=by
 change (a.toArray == b.toArray)=_;grind
section
variable{P:Program}{w:Z}{K:Y->Prop}{X:Y->Z->Prop}{x y:Operand}
def aix{u:TypeId}(h:Ju P u=A):∃ d,P.underlying u=O d/\∀ ms,d≠.interface ms:=by
 grind [Ju]
def Rx{u c:TypeId}(e:Ju P u=A)(f:zK P u=O z)(t:TypeId)(v:Y) :
  RD P (a0t (aj t v) c u A) w K X=if t=u then K (ak #[v,.bool A]) else K (ak #[z,.bool G]):=by
 obtain⟨d,a,b⟩:=aix e;split
 .rename_i h;subst h;refine gW ?_;unfold a0t;simp only[a0l,run_underlying a,a0k];cases d<;>first | exact absurd J (b _) | simp
 .rename_i h;refine gW ?_;unfold a0t;simp only[a0l,run_underlying a,a0k];cases d<;>first | exact absurd J (b _) | simp [h,Eu f]
def Ry{u a:TypeId}(b:Ju P u=A)(c:zK P u=O z) :
  RD P (a0t ai a u A) w K X=K (ak #[z,.bool G]):=by
 obtain⟨d,e,f⟩:=aix b;refine gW ?_;unfold a0t;simp only[a0l,run_underlying e,a0k];cases d<;>first | exact absurd J (f _) | simp [Eu c]
def hasB(P:Program)(u t:TypeId):Bool:=
 match P.underlying u with
 | some (.interface want)=>match P.info? t with
  | some i=>(a1W want i.methods).isNone
  | none=>G
 | _=>G
def VH(P:Program)(u t:TypeId):Bool:=
 match P.underlying u with
 | some (.interface want)=>match P.info? t with
  | some i=>(a1W want i.methods).isSome
  | none=>G
 | _=>G
def awc{u a t:TypeId}(h:hasB P u t=A)(v:Y):RD P (a0t (aj t v) a u A) w K X=K (ak #[aj t v,.bool A]):=by
 refine gW ?_;unfold hasB at h;split at h
 .rename_i want hu;split at h
  .rename_i i b;unfold a0t;simp only[a0l,run_underlying hu,a0k,typeInfo,program,Sem.run,b,Sem.run_pure];cases hm:a1W want i.methods with
   | none=>simp
   | some m=>grind
  grind
 grind
def awd{u a t:TypeId}(h:VH P u t=A)(b:zK P u=O z)(v:Y):RD P (a0t (aj t v) a u A) w K X=K (ak #[z,.bool G]):=by
 refine gW ?_;unfold VH at h;split at h
 .rename_i want hu;split at h
  .rename_i i c;unfold a0t;simp only[a0l,run_underlying hu,a0k,typeInfo,program,Sem.run,c,Sem.run_pure];cases hm:a1W want i.methods with
   | none=>grind
   | some m=>simp [Eu b]
  grind
 grind
def awe{u a:TypeId}(h:yp P u=A)(b:zK P u=O z):RD P (a0t ai a u A) w K X=K (ak #[z,.bool G]):=by
 refine gW ?_;unfold a0t;simp only[a0l,run_underlying (FZ h),a0k];simp [Eu b]
def Jy(P:Program)(t:TypeId):Bool:=match P.info? t with | some i=>i.comparable | none=>G
def vT(P:Program)(t:TypeId):Bool:=match P.underlying t with | some .string=>A | _=>G
def aaJ(P:Program)(t:TypeId):Bool:=match P.underlying t with | some (.int _)=>A | _=>G
def zM(P:Program)(t:TypeId):Bool:=match P.underlying t with | some (.pointer e)=>(match P.info? e with | some i=>i.size != 0 | none=>G) | _=>G
def awf{T:TypeId}(h:yp P T=A){t a:TypeId}(b:t≠a)(v v':Y):(a2Y T (aj t v) (aj a v')).run P w = .ok G w:=by
 have k:∀ d:Nat,(a18 (d+1) T (aj t v) (aj a v')).run P w = .ok G w:=fun d=>by simp [a18,run_underlying (FZ h),b]
 exact k 9999
def aaK{t:TypeId}(h:Jy P t=A):∃ i,P.info? t=O i/\i.comparable=true:=by
 grind [Jy]
def awg{T t:TypeId}(h:yp P T=A)(e:Jy P t=A)(c:vT P t=A)(a b:List UInt8):(a2Y T (aj t (aM a)) (aj t (aM b))).run P w = .ok (decide (a=b)) w:=by
 obtain⟨i,f,g⟩:=aaK e;unfold vT at c;split at c
 .rename_i hu;have k:∀ d:Nat,(a18 (d+2) T (aj t (aM a)) (aj t (aM b))).run P w = .ok (decide (a=b)) w:=fun d=>by
   simp [a18,run_underlying (FZ h),run_underlying hu,typeInfo,f,g,aaI]
  exact k 9998
 grind
def awh{T t:TypeId}(h:yp P T=A)(e:Jy P t=A)(c:aaJ P t=A)(k:IntKind)(a b:Int):(a2Y T (aj t (.int k a)) (aj t (.int k b))).run P w = .ok (decide (a=b)) w:=by
 obtain⟨i,f,g⟩:=aaK e;unfold aaJ at c;split at c
 .rename_i hu;have k':∀ d:Nat,(a18 (d+2) T (aj t (.int k a)) (aj t (.int k b))).run P w = .ok (decide (a=b)) w:=fun d=>by
   simp [a18,run_underlying (FZ h),run_underlying hu,typeInfo,f,g];grind
  exact k' 9998
 grind
def aaL{t:TypeId}(h:zM P t=A){a:Nat}{cb:Array Y}{j tb:TypeId}(l:w.heap[a]?=aN iC j)(m:w.heap[b]?=aN cb tb) :
  (a2Y t (pp a) (pp b)).run P w = .ok (decide (a=b)) w:=by
 unfold zM at h;split at h
 .rename_i e hu;split at h
  .rename_i i c;have f:i.size≠0:=zg;have k:∀ d:Nat,(a18 (d+1) t (pp a) (pp b)).run P w = .ok (decide (a=b)) w:=fun d=>by
    by_cases g:a=b
    .subst g;simp [a18,run_underlying hu,sizeOf,typeInfo,c,f,run_sameAddr_same]
    .have n:(⟨a,0,V⟩:Addr)≠⟨b,0,V⟩:=zg;simp [a18,run_underlying hu,sizeOf,typeInfo,c,f,run_sameAddr_other w n l m,g]
   exact k 9999
  grind
 grind
def awi{T t:TypeId}(h:yp P T=A)(l:Jy P t=A)(c:zM P t=A){a:Nat}{cb:Array Y}{m tb:TypeId}(n:w.heap[a]?=aN iC m)(o:w.heap[b]?=aN cb tb) :
  (a2Y T (aj t (pp a)) (aj t (pp b))).run P w = .ok (decide (a=b)) w:=by
 obtain⟨i,f,g⟩:=aaK l;unfold zM at c;split at c
 .rename_i e hu;split at c
  .rename_i j k;have p:j.size≠0:=by simpa using c
   unfold a2Y Op.maxDepth;by_cases d:a=b
   .subst d;rw[run_equalIn_iface_ptr_same w 9998 ⟨a,0,V⟩ (FZ h) hu f g k];simp
   .have q:(⟨a,0,V⟩:Addr)≠⟨b,0,V⟩:=by simp [d]
    rw[run_equalIn_iface_ptr_other w 9998 (FZ h) hu f g k p q n o];simp [d]
  .cases c
 .cases c
def C5{T:TypeId}(h:yp P T=A){t a:TypeId}(b:t≠a)(v v':Y):RD P (bo .eql T x y (aj t v) (aj a v')) w K X=K (.bool G):=gW (by simp [bo,eqGuard,binOp,a0l,awf h b v v'])
def awj{T t:TypeId}(h:yp P T=A)(c:Jy P t=A)(d:vT P t=A)(a b:List UInt8):RD P (bo .eql T x y (aj t (aM a)) (aj t (aM b))) w K X=K (.bool (decide (a=b))):=gW (by simp [bo,eqGuard,binOp,a0l,awg h c d a b])
def awk{T t:TypeId}(h:yp P T=A)(c:Jy P t=A)(d:aaJ P t=A)(k:IntKind)(a b:Int):RD P (bo .eql T x y (aj t (.int k a)) (aj t (.int k b))) w K X=K (.bool (decide (a=b))):=gW (by simp [bo,eqGuard,binOp,a0l,awh h c d k a b])
def awl{T t:TypeId}(h:yp P T=A)(c:Jy P t=A)(d:zM P t=A){a:Nat}{cb:Array Y}{e tb:TypeId}(f:w.heap[a]?=aN iC e)(g:w.heap[b]?=aN cb tb) :
 RD P (bo .eql T x y (aj t (pp a)) (aj t (pp b))) w K X=K (.bool (decide (a=b))):=gW (by simp [bo,eqGuard,binOp,a0l,awi h c d f g])
def awm{t:TypeId}(h:zM P t=A){a:Nat}{cb:Array Y}{c tb:TypeId}(d:w.heap[a]?=aN iC c)(e:w.heap[b]?=aN cb tb) :
 RD P (bo .eql t x y (pp a) (pp b)) w K X=K (.bool (decide (a=b))):=gW (by simp [bo,eqGuard,binOp,a0l,aaL h d e])
end
section
variable{P:Program}{w:Z}{K:Y->Prop}{X:Y->Z->Prop}
def aiy{c:Array TypeId}{t:TypeId}{k k':IntKind}(a b:Int):RD P (Builtin.min_ c t #[.int k a,.int k' b]) w K X=K (.int k (if b<a then b else a)):=gW (by simp [Builtin.min_,Builtin.min2])
def awn{c:Array TypeId}{t:TypeId}{k:IntKind}(a b:Int):RD P (Builtin.max_ c t #[.int k a,.int Ev b]) w K X=K (.int k (if b > a then b else a)):=gW (by simp [Builtin.max_,Builtin.max2])
def aiz{t:TypeId}{x:Operand}(k:IntKind)(a b:Int)(h:b≠0):RD P (bo .rem t x y (.int k a) (.int k b)) w K X=K (.int k (a.tmod b)):=gW (by simp [bo,eqGuard,binOp,Op.intDiv,h])
def awo{t:TypeId}{x:Operand}(k:IntKind)(a b:Int)(h:b≠0):RD P (bo .quo t x y (.int k a) (.int k b)) w K X=K (.int k (k.wrap (a.tdiv b))):=gW (by simp [bo,eqGuard,binOp,Op.intDiv,h])
def aiA{s d:TypeId}(b:(P.underlying s).isSome=A)(c:vT P d=A){k:IntKind}(a:n<128){K:Y->Z->Prop}:WR P (convert s d (.int k n)) w K X=K (aM [UInt8.ofNat n]) w:=by
 have f:P.underlying d=O .string:=by
  grind [vT]
 have h:∀ m:Fin 128,(Utf8.encode (m.val:Int)).data=#[UInt8.ofNat m.val]:=zd;have e:Utf8.encode (n:Int)=bs [UInt8.ofNat n]:=by
  have:=h ⟨n,a⟩;apply ByteArray.ext;omega
 refine xk ?_;grind [run_convert_int_string]
end
section
variable{P:Program}{w:Z}{K:Y->Z->Prop}{X:Y->Z->Prop}
def msB(P:Program)(T:TypeId):Option (TypeId×Y×Nat×Nat):=
 match P.underlying T with
 | some (.slice e)=>match P.info? e with
  | some i=>match i.zero with
   | some z=>O (e,z,i.size,i.bytes)
   | none=>V
  | none=>V
 | _=>V
def aaM{T e:TypeId}{by_:Nat}(h:msB P T=O (e,z,pb,by_))(f:n<=m)(a:by_<=1000)(hm:m<=1000000) :
  WR P (Instr.makeSlice T (.int Ev n) (.int OF m)) w K X=K (cM w.heap.size n m) (w.alloc (ae (madeCells z.cells (m*pb)) e)):=by
 unfold msB at h;split at h
 .rename_i e' hu;split at h
  .rename_i i b;split at h
   .rename_i c d;simp only[aZ9,Prod.mk.injEq] at h;obtain⟨rfl,rfl,rfl,rfl⟩:=h;refine xk ?_;have g:i.bytes*m<=1000*1000000:=Nat.mul_le_mul a hm;have:=run_make (P:=P) w T e' i c hu b d Ev OF n m zo zo zo zo;exact yH
   .cases h
  .cases h
 .cases h
def aiC(P:Program)(t u e:TypeId):Bool:=
 (match P.underlying t with | some (.slice e')=>e' == e | _=>G) && vT P u && (match P.info? e with | some i=>(match i.zero with | some (.int .u8 0)=>A | _=>G) && i.size == 1 && i.bytes == 1 | none=>G)
def aiD{t u ty e:TypeId}(o:aiC P t u e=A)(d:w.ownsRow base e 1 v n xs)(s:List UInt8)
  (D:n+s.length<=1000000000) (z:base<=w.heap.size)
  (h:∀ v' w',w'.ownsRow base e 1 v' (n+s.length) (xs++s.map fun c=>.int .u8 c.toNat)->w.grownBy w' v.ownBlock->(v'.ownBlock=v.ownBlock\/∀ k,v'.ownBlock=O k->w.heap.size<=k)->K v' w') :
  WR P (Builtin.append_ #[t,u] ty #[v,aM s]) w K X:=by
 unfold aiC at o;simp only[Bool.and_eq_true] at o;obtain⟨⟨E,F⟩,f⟩:=o;have ht:P.underlying t=O (.slice e):=by
  grind
 have hu:P.underlying u=O .string:=by
  grind [vT]
 split at f
 .rename_i i l;simp only[Bool.and_eq_true,beq_iff_eq] at f;obtain⟨⟨m,p⟩,q⟩:=f;have m:i.zero=O (.int .u8 0):=by
   grind
  have x:(bs s).size=s.length:=by simp [ByteArray.size]
  have y:Lib.strCells (bs s)=s.map fun c=>.int .u8 c.toNat:=by simp [Lib.strCells]
  rcases d.2 with⟨rfl,rfl⟩| ⟨g,cap,cur,rfl,H,B,I,L,M,N⟩
  .have hx:xs=[]:=List.eq_nil_of_length_eq_zero (by simpa using d.1);subst hx;obtain⟨v',w',a,b,r,_⟩:=a33 (P:=P) w w.heap.size t u ty e i ht hu l m p q bH 0 [] (World.ownsRow_nil _ _ _ _) (bs s) (by grind [maxLen]) zo zo;rw[xk a];rw[x,y] at b;exact h v' w' (by grind [Zt]) r (.inr fun k hk=>(b.lt k hk).1)
  .obtain⟨v',w',a,b,r,_⟩:=a33 (P:=P) w base t u ty e i ht hu l m p q _ n xs d (bs s) (by grind [maxLen]) zo z;rw[xk a];rw[x,y] at b;refine h v' w' b r ?_;by_cases Q:n+s.length<=cap
   .refine .inl ?_;have C:cur.size=cap:=zo;have:=Lib.run_append_room_string (P:=P) w t u ty e i ht hu l p g n cap cur B (bs s) zo zo;rw[this] at a;injection a with a _;rw[<- a];rfl
   .refine .inr fun k hk=>?_;have holds:∀ j u,xs[j]?=O u->w.cell? ((⟨g,0,V⟩:Addr).add j)=O u:=d.cells (g:=g) J;have R:xs.length=n:=zg;have:=Lib.run_append_grow_string (P:=P) w t u ty e i (.int .u8 0) ht hu l m ⟨g,0,V⟩ n cap xs zg holds (bs s) zo zo (by rw[q];exact growslice_fits zo zo);grind [Value.ownBlock,aZ9]
 .cases f
end
def C6{P:Program}{t ty e:TypeId}{i:TypeInfo}{size bytes:Nat}(ht:P.underlying t=O (.slice e))(d:P.info? e=O i)(f:i.zero=O z)
  (g:i.size=size) (l:i.bytes=bytes) (o:z.cells.size=size) (p:0<size)
 (q:w.ownsRow base e size v n xs) {T:TypeId} {r:Nat×Nat} (D:w.heap[b]?=O (ae cs T r)) (s:cs.toList.length=m*size) (x:∀ u∈cs.toList,u.oneCell'=A)
  (y:n+m<=1000000000) (a:bytes<=1000) (B:base<=w.heap.size) {K:Y->Z->Prop}
  (h:∀ v' w',w'.ownsRow base e size v' (n+m) (xs++cs.toList)->w.grownBy w' v.ownBlock->(v'.ownBlock=v.ownBlock\/∀ k,v'.ownBlock=O k->w.heap.size<=k)->K v' w') :
  WR P (Builtin.append_ #[t,t] ty #[v,cM b m c]) w K X:=by
 have E:(n+m)*bytes<=1000000000*1000:=Nat.mul_le_mul y a;obtain⟨v',w',C,F,H,I⟩:=Vn (P:=P) w base t ty e i z size bytes ht d f g l o p v n xs q ⟨b,0,V⟩ m c cs.toList s (fun j u hu=>by
  rw[addr_add,Nat.zero_add];grind [cellOf]) x (by grind [maxLen]) zo B
 rw[xk C];grind
section
variable{P:Program}{w:Z}{X:Y->Z->Prop}
def Rz{t:TypeId}{K:Y->Z->Prop}:WR P (Instr.makeMap t V) w K X=K (.map (O w.heap.size)) (w.alloc (.map #[] 0)):=xk J
def VI{b:Bool}{t:TypeId}{s:ByteArray}(h:vT P t=A):(a3Y b (n+1) t (.string s)).run P w = .ok () w:=by
 unfold vT at h;split at h
 .rename_i hu;simp [a3Y,run_underlying hu]
 grind
def aaO{b:Bool}{t:TypeId}{a:Option Addr}(h:FY P t=A):(a3Y b (n+1) t (.pointer a)).run P w = .ok () w:=by
 unfold FY at h;split at h
 .rename_i hu;simp [a3Y,run_underlying hu]
 grind
def AS(P:Program)(t:TypeId):Option (TypeId×TypeId):=match P.underlying t with | some (.map k e)=>O (k,e) | _=>V
def F0{t k e:TypeId}(h:AS P t=O (k,e)):P.underlying t=O (.map k e):=by
 unfold AS at h;grind
def RA:Y->Option (List UInt8) | .string b=>O b.data.toList | _=>V
def AT(s:List UInt8):List MapEntry->Nat->Option (Nat×Y)
 | [],_=>V
 | e::r,i=>if RA e.key=O s then O (i,e.val) else AT s r (i+1)
def Ma(es:List MapEntry):Prop:=∀ e∈es,∃ s,e.key = aM s
def aiE{d:TypeDesc}(a:d = .string)(s:List UInt8):∀ (es:List MapEntry) (i:Nat),Ma es->a3w d (aM s) es i=O (AT s es i)
 | [],i,_=>rfl
 | e::r,i,h=>by
  subst a;obtain⟨u,hu⟩:=h e (List.mem_cons_self ..);unfold a3w AT;rw[hu];have b:(bs s == bs u)=decide (u=s):=by
   rw[aaI,Bool.eq_iff_iff];grind
  by_cases he:u=s
  .grind [Instr.sameNow,RA]
  .simp only[Instr.sameNow,b,decide_eq_false he,RA,aZ9,bX he];exact aiE J s r (i+1) fun e he=>h e zg
def VJ{k:TypeId}(h:vT P k=A)(s:List UInt8){es:List MapEntry}(hk:Ma es):(a3x k (aM s) es).run P w = .ok (AT s es 0) w:=by
 unfold vT at h;split at h
 .rename_i hu;simp [a3x,run_underlying hu,aiE J s es 0 hk]
 grind
def F1{r:Nat}(a:w.heap[r]?=O (.map es c)):(getObj r).run P w = .ok (.map es c) w:=MapKept.run_getObj_map a
def aiF{t k e:TypeId}{z:Y}{r c:Nat}{es:Array MapEntry}{K:Y->Prop}(ht:AS P t=O (k,e))(f:vT P k=A)(j:zK P e=O z)(g:w.heap[r]?=O (.map es c))(hk:Ma es.toList)(s:List UInt8)(b:Bool) :
  RD P (a1c t (.map (O r)) (aM s) b) w K X =
   match AT s es.toList 0 with
   | some (_,v)=>K (if b then ak #[v,.bool A] else v)
   | none=>K (if b then ak #[z,.bool G] else z):=by
 have h:=VI (P:=P) (w:=w) (b:=es.isEmpty) (n:=9999) (t:=k) (s:=bs s) f;have a:=VJ (P:=P) (w:=w) f s hk;split
 .rename_i i v d;rw[d] at a;refine gW ?_;simp [a1c,run_underlying (F0 ht),F1 g,h,a]
 .rename_i d;rw[d] at a;refine gW ?_;simp [a1c,run_underlying (F0 ht),F1 g,h,a,Eu j]
def awp{t k e:TypeId}(ht:AS P t=O (k,e))(f:FY P k=A)(g:zK P e=O z)(a:Option Addr)(b:Bool) :
  RD P (a1c t (.map V) (.pointer a) b) w K X=K (if b then ak #[z,.bool G] else z):=by
 have h:=aaO (P:=P) (w:=w) (b:=true) (n:=9999) (t:=k) (a:=a) f;refine gW ?_;have c:∃ d,P.underlying k=O (.pointer d):=by
  grind [FY]
 obtain⟨d,c⟩:=c;simp [a1c,run_underlying (F0 ht),h,a3x,a3w,run_underlying c,Eu g]
def EA(l:List (Nat×Y)):List MapEntry->Prop
 | []=>l=[]
 | e::r=>∃ b v l',l=(b,v)::l'/\e.key = aq (O ⟨b,0,V⟩)/\e.val=v/\EA l' r
def Hq(b:Nat):List (Nat×Y)->Nat->Option (Nat×Y)
 | [],_=>V
 | (c,v)::r,i=>if b=c then O (i,v) else Hq b r (i+1)
def aiG{k:TypeId}(hk:zM P k=A){b:Nat}{cb:Array Y}{tb:TypeId}(d:w.heap[b]?=aN cb tb):∀ (es:List MapEntry) (l:List (Nat×Y)) (i:Nat),EA l es ->
  (∀ c v,(c,v)∈l->∃ cs t,w.heap[c]?=aN cs t)->(Instr.findAsking k (pp b) es i).run P w = .ok (Hq b l i) w
 | [],l,i,h,_=>by
  have h:l=[]:=h;subst h;rfl
 | e::r,l,i,h,f=>by
  obtain⟨c,v,l',rfl,g,j,m⟩:=h;obtain⟨cs,t,n⟩:=f c v (List.mem_cons_self ..);have o:=aaL (P:=P) hk d n;unfold Instr.findAsking Hq;rw[g,a0l,o];simp only[a0k];by_cases a:b=c
  .simp [a,j]
  .simp only[decide_eq_false a,bX a];exact aiG hk d r l' (i+1) m yH
def aiH{k:TypeId}(hk:zM P k=A){cb:Array Y}{tb:TypeId}(f:w.heap[b]?=aN cb tb){es:List MapEntry}{l:List (Nat×Y)}(h:EA l es)
  (g:∀ c v,(c,v)∈l->∃ cs t,w.heap[c]?=aN cs t):(a3x k (pp b) es).run P w = .ok (Hq b l 0) w:=by
 have j:=aiG hk f es l 0 h g;have a:∃ d,P.underlying k=O (.pointer d):=by
  grind [zM]
 obtain⟨d,a⟩:=a;unfold a3x;rw[a0l,run_underlying a];simp only[a0k];cases es with
 | nil=>
  have h:l=[]:=h;subst h;rfl
 | cons e r=>
  obtain⟨c,v,l',rfl,i,m,n⟩:=h;have:a3w (.pointer d) (pp b) (e::r) 0=none:=by
   unfold a3w;rw[i];rfl
  grind
def aaP{k:TypeId}(h:zM P k=A):FY P k=true:=by
 grind [zM,FY]
def awq{t k e:TypeId}{z:Y}{r c:Nat}{es:Array MapEntry}{l:List (Nat×Y)}{K:Y->Prop}(ht:AS P t=O (k,e))(g:zM P k=A)(j:zK P e=O z)(hm:w.heap[r]?=O (.map es c))(hk:EA l es.toList)
  (m:∀ c v,(c,v)∈l->∃ cs t,w.heap[c]?=aN cs t) {b:Nat} {cb:Array Y} {tb:TypeId} (o:w.heap[b]?=aN cb tb) (ok:Bool) :
  RD P (a1c t (.map (O r)) (pp b) ok) w K X =
   match Hq b l 0 with
   | some (_,v)=>K (if ok then ak #[v,.bool A] else v)
   | none=>K (if ok then ak #[z,.bool G] else z):=by
 have h:=aaO (P:=P) (w:=w) (b:=es.isEmpty) (n:=9999) (t:=k) (a:=O ⟨b,0,V⟩) (aaP g);have d:=aiH (P:=P) (w:=w) g o hk m;split
 .rename_i i v f;rw[f] at d;refine gW ?_;simp [a1c,run_underlying (F0 ht),F1 hm,h,d]
 .rename_i f;rw[f] at d;refine gW ?_;simp [a1c,run_underlying (F0 ht),F1 hm,h,d,Eu j]
def awr{t k e:TypeId}{r:Nat}{l:List (Nat×Y)}{K:Z->Prop}(ht:AS P t=O (k,e))(d:zM P k=A)(hm:w.heap[r]?=O (.map es c))(hk:EA l es.toList)
  (g:∀ c v,(c,v)∈l->∃ cs t,w.heap[c]?=aN cs t) {cb:Array Y} {tb:TypeId} (h:w.heap[b]?=aN cb tb) (i:Hq b l 0=V) (v:Y) :
  WU P (a1H t (.map (O r)) (pp b) v) w K X=K (bO w r (.map (es.push { key:=pp b,val:=v,born:=c }) (c+1))):=by
 have j:=aaO (P:=P) (w:=w) (b:=false) (n:=9999) (t:=k) (a:=O ⟨b,0,V⟩) (aaP d);have f:=aiH (P:=P) (w:=w) d h hk g;rw[i] at f;refine Rn ?_;simp [a1H,run_underlying (F0 ht),F1 hm,j,f,a1X _ hm,bO]
def aws{t k e:TypeId}{r:Nat}{K:Z->Prop}(ht:AS P t=O (k,e))(a:vT P k=A)(hm:w.heap[r]?=O (.map es c))(hk:Ma es.toList)(s:List UInt8)(f:AT s es.toList 0=V)(v:Y) :
  WU P (a1H t (.map (O r)) (aM s) v) w K X=K (bO w r (.map (es.push { key:=aM s,val:=v,born:=c }) (c+1))):=by
 have g:=VI (P:=P) (w:=w) (b:=false) (n:=9999) (t:=k) (s:=bs s) a;have d:=VJ (P:=P) (w:=w) a s hk;rw[f] at d;refine Rn ?_;simp [a1H,run_underlying (F0 ht),F1 hm,g,d,a1X _ hm,bO]
def aiI{s:List UInt8}:∀ {es:List MapEntry} {i j:Nat} {v:Y},AT s es i=O (j,v)->i<=j/\∃ e,es[j-i]?=O e/\e.key = aM s/\e.val=v
 | [],_,_,_,h=>by cases h
 | e::r,i,j,v,h=>by
  unfold AT at h;split at h
  .rename_i hk;simp only[aZ9,Prod.mk.injEq] at h;obtain⟨rfl,rfl⟩:=h;refine⟨Nat.le_refl _,e,zs,?_,J⟩;unfold RA at hk;split at hk
   .rename_i b a;injection hk with hk;rw[a,<- hk]
   grind
  .obtain⟨c,e',d,f⟩:=aiI h;grind
def awt{t k e:TypeId}{r:Nat}{K:Z->Prop}(ht:AS P t=O (k,e))(a:vT P k=A)(hm:w.heap[r]?=O (.map es c))(hk:Ma es.toList)(s:List UInt8)(d:AT s es.toList 0=O (i,u))(v:Y) :
  WU P (a1H t (.map (O r)) (aM s) v) w K X=K (bO w r (.map (es.modify i fun e=>{ e with key:=aM s,val:=v }) c)):=by
 have g:=VI (P:=P) (w:=w) (b:=false) (n:=9999) (t:=k) (s:=bs s) a;have f:=VJ (P:=P) (w:=w) a s hk;rw[d] at f;obtain⟨-,e',l,m,-⟩:=aiI d;have h:(es[i]?).map (·.key)=O (aM s):=by
  grind
 have j:(Instr.keyThatStays (((es[i]?).map (·.key)).getD (aM s)) (aM s)).run P w = .ok (aM s) w:=by
  rw[h];simp [Instr.keyThatStays,Instr.sameBits,aaI]
 refine Rn ?_;simp [a1H,run_underlying (F0 ht),F1 hm,g,f,j,a1X _ hm,bO]
end
end Sx
