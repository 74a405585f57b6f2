/- A part of one proof (SxO). -/
import Derived.Test.YtoegidfbnkaabaaGreatDoorPkJAC
import Derived.LaidEql
import Derived.Laws.MakeOwn
import Derived.Laws.StructEq
import Derived.Lib.AppendStr
import Derived.MapKept
import Derived.WideMake
import Derived.Laws.Runes
set_option linter.all false
set_option maxRecDepth 100000
set_option maxHeartbeats 8000000
open Option renaming some → O, none → V
open Go renaming Value → Y, World → Z
open Bool renaming true → A, false → G
open Go.Obj renaming cells → ae
open Go.Value renaming nilIface → ai, iface → aj, tuple → ak, pointer → aq
open Option.some renaming injEq → aZG
open Go.Result renaming andThen_ok → aZR
open Go.Sem renaming run_bind → aZS
open Go.Instr renaming typeAssert → aZ0, lookup → a0J, mapUpdate → a1b, missingMethod → a1p, findNow → a2X, findKey → a2Y, checkKey → a3t
open Go.MapKept renaming run_setObj_map → a1r
open Go.Op renaming equalIn → a1O, equal → a2H
open Go.Lib renaming run_append_own_string → a3x
namespace Go.Proofs.YtoegidfbnkaabaaGreatDoor
variable{K:Y->Prop}{X:Y->Z->Prop}{b base c i m n pb:Nat}{cs iB:Array Y}{es:Array MapEntry}{u v z:Y}{El OA:IntKind}{w:Z}{xs:List Y}{y:Operand}
namespace Sx
open Go
def aaK(a b:List UInt8):(bs a == bs b)=decide (a=b):=by
 change (a.toArray == b.toArray)=_;grind
section
variable{P:Program}{w:Z}{K:Y->Prop}{X:Y->Z->Prop}{x y:Operand}
def aiy{u:TypeId}(h:Js P u=A):∃ d,P.underlying u=O d/\∀ ms,d≠.interface ms:=by
 grind [Js]
def Rx{u c:TypeId}(e:Js P u=A)(f:zm P u=O z)(t:TypeId)(v:Y) :
  RD P (aZ0 (aj t v) c u A) w K X=if t=u then K (ak #[v,.bool A]) else K (ak #[z,.bool G]):=by
 obtain⟨d,a,b⟩:=aiy e;split
 .rename_i h;subst h;refine gU ?_;unfold aZ0;simp only[aZS,run_underlying a,aZR];cases d<;>first | exact absurd J (b _) | simp
 .rename_i h;refine gU ?_;unfold aZ0;simp only[aZS,run_underlying a,aZR];cases d<;>first | exact absurd J (b _) | simp [h,Ek f]
def Ry{u a:TypeId}(b:Js P u=A)(c:zm P u=O z) :
  RD P (aZ0 ai a u A) w K X=K (ak #[z,.bool G]):=by
 obtain⟨d,e,f⟩:=aiy b;refine gU ?_;unfold aZ0;simp only[aZS,run_underlying e,aZR];cases d<;>first | exact absurd J (f _) | simp [Ek c]
def hasB(P:Program)(u t:TypeId):Bool:=
 match P.underlying u with
 | some (.interface want)=>match P.info? t with
  | some i=>(a1p want i.methods).isNone
  | none=>G
 | _=>G
def VD(P:Program)(u t:TypeId):Bool:=
 match P.underlying u with
 | some (.interface want)=>match P.info? t with
  | some i=>(a1p want i.methods).isSome
  | none=>G
 | _=>G
def av0{u a t:TypeId}(h:hasB P u t=A)(v:Y):RD P (aZ0 (aj t v) a u A) w K X=K (ak #[aj t v,.bool A]):=by
 refine gU ?_;unfold hasB at h;split at h
 .rename_i want hu;split at h
  .rename_i i b;unfold aZ0;simp only[aZS,run_underlying hu,aZR,typeInfo,program,Sem.run,b,Sem.run_pure];cases hm:a1p want i.methods with
   | none=>simp
   | some m=>grind
  grind
 grind
def av4{u a t:TypeId}(h:VD P u t=A)(b:zm P u=O z)(v:Y):RD P (aZ0 (aj t v) a u A) w K X=K (ak #[z,.bool G]):=by
 refine gU ?_;unfold VD at h;split at h
 .rename_i want hu;split at h
  .rename_i i c;unfold aZ0;simp only[aZS,run_underlying hu,aZR,typeInfo,program,Sem.run,c,Sem.run_pure];cases hm:a1p want i.methods with
   | none=>grind
   | some m=>simp [Ek b]
  grind
 grind
def av5{u a:TypeId}(h:yd P u=A)(b:zm P u=O z):RD P (aZ0 ai a u A) w K X=K (ak #[z,.bool G]):=by
 refine gU ?_;unfold aZ0;simp only[aZS,run_underlying (FQ h),aZR];simp [Ek b]
def Jv(P:Program)(t:TypeId):Bool:=match P.info? t with | some i=>i.comparable | none=>G
def vF(P:Program)(t:TypeId):Bool:=match P.underlying t with | some .string=>A | _=>G
def aaL(P:Program)(t:TypeId):Bool:=match P.underlying t with | some (.int _)=>A | _=>G
def zv(P:Program)(t:TypeId):Bool:=match P.underlying t with | some (.pointer e)=>(match P.info? e with | some i=>i.size != 0 | none=>G) | _=>G
def av7{T:TypeId}(h:yd P T=A){t a:TypeId}(b:t≠a)(v v':Y):(a2H T (aj t v) (aj a v')).run P w = .ok G w:=by
 have k:∀ d:Nat,(a1O (d+1) T (aj t v) (aj a v')).run P w = .ok G w:=fun d=>by simp [a1O,run_underlying (FQ h),b]
 exact k 9999
def aaM{t:TypeId}(h:Jv P t=A):∃ i,P.info? t=O i/\i.comparable=true:=by
 grind [Jv]
def av8{T t:TypeId}(h:yd P T=A)(e:Jv P t=A)(c:vF P t=A)(a b:List UInt8):(a2H T (aj t (aT a)) (aj t (aT b))).run P w = .ok (decide (a=b)) w:=by
 obtain⟨i,f,g⟩:=aaM e;unfold vF at c;split at c
 .rename_i hu;have k:∀ d:Nat,(a1O (d+2) T (aj t (aT a)) (aj t (aT b))).run P w = .ok (decide (a=b)) w:=fun d=>by
   simp [a1O,run_underlying (FQ h),run_underlying hu,typeInfo,f,g,aaK]
  exact k 9998
 grind
def av9{T t:TypeId}(h:yd P T=A)(e:Jv P t=A)(c:aaL P t=A)(k:IntKind)(a b:Int):(a2H T (aj t (.int k a)) (aj t (.int k b))).run P w = .ok (decide (a=b)) w:=by
 obtain⟨i,f,g⟩:=aaM e;unfold aaL at c;split at c
 .rename_i hu;have k':∀ d:Nat,(a1O (d+2) T (aj t (.int k a)) (aj t (.int k b))).run P w = .ok (decide (a=b)) w:=fun d=>by
   simp [a1O,run_underlying (FQ h),run_underlying hu,typeInfo,f,g];grind
  exact k' 9998
 grind
def aaN{t:TypeId}(h:zv P t=A){a:Nat}{cb:Array Y}{j tb:TypeId}(l:w.heap[a]?=aM iB j)(m:w.heap[b]?=aM cb tb) :
  (a2H t (pp a) (pp b)).run P w = .ok (decide (a=b)) w:=by
 unfold zv at h;split at h
 .rename_i e hu;split at h
  .rename_i i c;have f:i.size≠0:=zg;have k:∀ d:Nat,(a1O (d+1) t (pp a) (pp b)).run P w = .ok (decide (a=b)) w:=fun d=>by
    by_cases g:a=b
    .subst g;simp [a1O,run_underlying hu,sizeOf,typeInfo,c,f,run_sameAddr_same]
    .have n:(⟨a,0,V⟩:Addr)≠⟨b,0,V⟩:=zg;simp [a1O,run_underlying hu,sizeOf,typeInfo,c,f,run_sameAddr_other w n l m,g]
   exact k 9999
  grind
 grind
def awa{T t:TypeId}(h:yd P T=A)(l:Jv P t=A)(c:zv P t=A){a:Nat}{cb:Array Y}{m tb:TypeId}(n:w.heap[a]?=aM iB m)(o:w.heap[b]?=aM cb tb) :
  (a2H T (aj t (pp a)) (aj t (pp b))).run P w = .ok (decide (a=b)) w:=by
 obtain⟨i,f,g⟩:=aaM l;unfold zv at c;split at c
 .rename_i e hu;split at c
  .rename_i j k;have p:j.size≠0:=by simpa using c
   unfold a2H Op.maxDepth;by_cases d:a=b
   .subst d;rw[run_equalIn_iface_ptr_same w 9998 ⟨a,0,V⟩ (FQ h) hu f g k];simp
   .have q:(⟨a,0,V⟩:Addr)≠⟨b,0,V⟩:=by simp [d]
    rw[run_equalIn_iface_ptr_other w 9998 (FQ h) hu f g k p q n o];simp [d]
  .cases c
 .cases c
def C2{T:TypeId}(h:yd P T=A){t a:TypeId}(b:t≠a)(v v':Y):RD P (bo .eql T x y (aj t v) (aj a v')) w K X=K (.bool G):=gU (by simp [bo,eqGuard,binOp,aZS,av7 h b v v'])
def awb{T t:TypeId}(h:yd P T=A)(c:Jv P t=A)(d:vF P t=A)(a b:List UInt8):RD P (bo .eql T x y (aj t (aT a)) (aj t (aT b))) w K X=K (.bool (decide (a=b))):=gU (by simp [bo,eqGuard,binOp,aZS,av8 h c d a b])
def awc{T t:TypeId}(h:yd P T=A)(c:Jv P t=A)(d:aaL P t=A)(k:IntKind)(a b:Int):RD P (bo .eql T x y (aj t (.int k a)) (aj t (.int k b))) w K X=K (.bool (decide (a=b))):=gU (by simp [bo,eqGuard,binOp,aZS,av9 h c d k a b])
def awd{T t:TypeId}(h:yd P T=A)(c:Jv P t=A)(d:zv P t=A){a:Nat}{cb:Array Y}{e tb:TypeId}(f:w.heap[a]?=aM iB e)(g:w.heap[b]?=aM cb tb) :
 RD P (bo .eql T x y (aj t (pp a)) (aj t (pp b))) w K X=K (.bool (decide (a=b))):=gU (by simp [bo,eqGuard,binOp,aZS,awa h c d f g])
def awe{t:TypeId}(h:zv P t=A){a:Nat}{cb:Array Y}{c tb:TypeId}(d:w.heap[a]?=aM iB c)(e:w.heap[b]?=aM cb tb) :
 RD P (bo .eql t x y (pp a) (pp b)) w K X=K (.bool (decide (a=b))):=gU (by simp [bo,eqGuard,binOp,aZS,aaN h d e])
end
section
variable{P:Program}{w:Z}{K:Y->Prop}{X:Y->Z->Prop}
def aiz{c:Array TypeId}{t:TypeId}{k k':IntKind}(a b:Int):RD P (Builtin.min_ c t #[.int k a,.int k' b]) w K X=K (.int k (if b<a then b else a)):=gU (by simp [Builtin.min_,Builtin.min2])
def awf{c:Array TypeId}{t:TypeId}{k:IntKind}(a b:Int):RD P (Builtin.max_ c t #[.int k a,.int El b]) w K X=K (.int k (if b > a then b else a)):=gU (by simp [Builtin.max_,Builtin.max2])
def VE{t:TypeId}{x:Operand}(k:IntKind)(a b:Int)(h:b≠0):RD P (bo .rem t x y (.int k a) (.int k b)) w K X=K (.int k (a.tmod b)):=gU (by simp [bo,eqGuard,binOp,Op.intDiv,h])
def aaO{t:TypeId}{x y:Operand}(k:IntKind)(a b:Int)(h:b≠0):RD P (bo .quo t x y (.int k a) (.int k b)) w K X=K (.int k (k.wrap (a.tdiv b))):=gU (by simp [bo,eqGuard,binOp,Op.intDiv,h])
def aiA{s d:TypeId}(b:(P.underlying s).isSome=A)(c:vF P d=A){k:IntKind}(a:n<128){K:Y->Z->Prop}:WR P (convert s d (.int k n)) w K X=K (aT [UInt8.ofNat n]) w:=by
 have f:P.underlying d=O .string:=by
  grind [vF]
 have h:∀ m:Fin 128,(Utf8.encode (m.val:Int)).data=#[UInt8.ofNat m.val]:=zd;have e:Utf8.encode (n:Int)=bs [UInt8.ofNat n]:=by
  have:=h ⟨n,a⟩;apply ByteArray.ext;omega
 refine wU ?_;grind [run_convert_int_string]
end
section
variable{P:Program}{w:Z}{K:Y->Z->Prop}{X:Y->Z->Prop}
def msB(P:Program)(T:TypeId):Option (TypeId×Y×Nat×Nat):=
 match P.underlying T with
 | some (.slice e)=>match P.info? e with
  | some i=>match i.zero with
   | some z=>O (e,z,i.size,i.bytes)
   | none=>V
  | none=>V
 | _=>V
def aaP{T e:TypeId}{by_:Nat}(h:msB P T=O (e,z,pb,by_))(f:n<=m)(a:by_<=1000)(hm:m<=1000000) :
  WR P (Instr.makeSlice T (.int El n) (.int OA m)) w K X=K (cR w.heap.size n m) (w.alloc (ae (madeCells z.cells (m*pb)) e)):=by
 unfold msB at h;split at h
 .rename_i e' hu;split at h
  .rename_i i b;split at h
   .rename_i c d;simp only[aZG,Prod.mk.injEq] at h;obtain⟨rfl,rfl,rfl,rfl⟩:=h;refine wU ?_;have g:i.bytes*m<=1000*1000000:=Nat.mul_le_mul a hm;have:=run_make (P:=P) w T e' i c hu b d El OA n m zo zo zo zo;exact yH
   .cases h
  .cases h
 .cases h
def aiC(P:Program)(t u e:TypeId):Bool:=
 (match P.underlying t with | some (.slice e')=>e' == e | _=>G) && vF P u && (match P.info? e with | some i=>(match i.zero with | some (.int .u8 0)=>A | _=>G) && i.size == 1 && i.bytes == 1 | none=>G)
def aiD{t u ty e:TypeId}(o:aiC P t u e=A)(d:w.ownsRow base e 1 v n xs)(s:List UInt8)
  (D:n+s.length<=1000000000) (z:base<=w.heap.size)
  (h:∀ v' w',w'.ownsRow base e 1 v' (n+s.length) (xs++s.map fun c=>.int .u8 c.toNat)->w.grownBy w' v.ownBlock->(v'.ownBlock=v.ownBlock\/∀ k,v'.ownBlock=O k->w.heap.size<=k)->K v' w') :
  WR P (Builtin.append_ #[t,u] ty #[v,aT s]) w K X:=by
 unfold aiC at o;simp only[Bool.and_eq_true] at o;obtain⟨⟨E,F⟩,f⟩:=o;have ht:P.underlying t=O (.slice e):=by
  grind
 have hu:P.underlying u=O .string:=by
  grind [vF]
 split at f
 .rename_i i l;simp only[Bool.and_eq_true,beq_iff_eq] at f;obtain⟨⟨m,p⟩,q⟩:=f;have m:i.zero=O (.int .u8 0):=by
   grind
  have x:(bs s).size=s.length:=by simp [ByteArray.size]
  have y:Lib.strCells (bs s)=s.map fun c=>.int .u8 c.toNat:=by simp [Lib.strCells]
  rcases d.2 with⟨rfl,rfl⟩| ⟨g,cap,cur,rfl,H,B,I,L,M,N⟩
  .have hx:xs=[]:=List.eq_nil_of_length_eq_zero (by simpa using d.1);subst hx;obtain⟨v',w',a,b,r,_⟩:=a3x (P:=P) w w.heap.size t u ty e i ht hu l m p q bV 0 [] (World.ownsRow_nil _ _ _ _) (bs s) (by grind [maxLen]) zo zo;rw[wU a];rw[x,y] at b;exact h v' w' (by grind [Zu]) r (.inr fun k hk=>(b.lt k hk).1)
  .obtain⟨v',w',a,b,r,_⟩:=a3x (P:=P) w base t u ty e i ht hu l m p q _ n xs d (bs s) (by grind [maxLen]) zo z;rw[wU a];rw[x,y] at b;refine h v' w' b r ?_;by_cases Q:n+s.length<=cap
   .refine .inl ?_;have C:cur.size=cap:=zo;have:=Lib.run_append_room_string (P:=P) w t u ty e i ht hu l p g n cap cur B (bs s) zo zo;rw[this] at a;injection a with a _;rw[<- a];rfl
   .refine .inr fun k hk=>?_;have holds:∀ j u,xs[j]?=O u->w.cell? ((⟨g,0,V⟩:Addr).add j)=O u:=d.cells (g:=g) J;have R:xs.length=n:=zg;have:=Lib.run_append_grow_string (P:=P) w t u ty e i (.int .u8 0) ht hu l m ⟨g,0,V⟩ n cap xs zg holds (bs s) zo zo (by rw[q];exact growslice_fits zo zo);grind [Value.ownBlock,aZG]
 .cases f
end
def C3{P:Program}{t ty e:TypeId}{i:TypeInfo}{size bytes:Nat}(ht:P.underlying t=O (.slice e))(d:P.info? e=O i)(f:i.zero=O z)
  (g:i.size=size) (l:i.bytes=bytes) (o:z.cells.size=size) (p:0<size)
 (q:w.ownsRow base e size v n xs) {T:TypeId} {r:Nat×Nat} (D:w.heap[b]?=O (ae cs T r)) (s:cs.toList.length=m*size) (x:∀ u∈cs.toList,u.oneCell'=A)
  (y:n+m<=1000000000) (a:bytes<=1000) (B:base<=w.heap.size) {K:Y->Z->Prop}
  (h:∀ v' w',w'.ownsRow base e size v' (n+m) (xs++cs.toList)->w.grownBy w' v.ownBlock->(v'.ownBlock=v.ownBlock\/∀ k,v'.ownBlock=O k->w.heap.size<=k)->K v' w') :
  WR P (Builtin.append_ #[t,t] ty #[v,cR b m c]) w K X:=by
 have E:(n+m)*bytes<=1000000000*1000:=Nat.mul_le_mul y a;obtain⟨v',w',C,F,H,I⟩:=Vk (P:=P) w base t ty e i z size bytes ht d f g l o p v n xs q ⟨b,0,V⟩ m c cs.toList s (fun j u hu=>by
  rw[addr_add,Nat.zero_add];grind [cellOf]) x (by grind [maxLen]) zo B
 rw[wU C];grind
section
variable{P:Program}{w:Z}{X:Y->Z->Prop}
def Rz{t:TypeId}{K:Y->Z->Prop}:WR P (Instr.makeMap t V) w K X=K (.map (O w.heap.size)) (w.alloc (.map #[] 0)):=wU J
def VF{b:Bool}{t:TypeId}{s:ByteArray}(h:vF P t=A):(a3t b (n+1) t (.string s)).run P w = .ok () w:=by
 unfold vF at h;split at h
 .rename_i hu;simp [a3t,run_underlying hu]
 grind
def aaR{b:Bool}{t:TypeId}{a:Option Addr}(h:FP P t=A):(a3t b (n+1) t (.pointer a)).run P w = .ok () w:=by
 unfold FP at h;split at h
 .rename_i hu;simp [a3t,run_underlying hu]
 grind
def AG(P:Program)(t:TypeId):Option (TypeId×TypeId):=match P.underlying t with | some (.map k e)=>O (k,e) | _=>V
def FR{t k e:TypeId}(h:AG P t=O (k,e)):P.underlying t=O (.map k e):=by
 unfold AG at h;grind
def RA:Y->Option (List UInt8) | .string b=>O b.data.toList | _=>V
def AH(s:List UInt8):List MapEntry->Nat->Option (Nat×Y)
 | [],_=>V
 | e::r,i=>if RA e.key=O s then O (i,e.val) else AH s r (i+1)
def LW(es:List MapEntry):Prop:=∀ e∈es,∃ s,e.key = aT s
def aiE{d:TypeDesc}(a:d = .string)(s:List UInt8):∀ (es:List MapEntry) (i:Nat),LW es->a2X d (aT s) es i=O (AH s es i)
 | [],i,_=>rfl
 | e::r,i,h=>by
  subst a;obtain⟨u,hu⟩:=h e (List.mem_cons_self ..);unfold a2X AH;rw[hu];have b:(bs s == bs u)=decide (u=s):=by
   rw[aaK,Bool.eq_iff_iff];grind
  by_cases he:u=s
  .grind [Instr.sameNow,RA]
  .simp only[Instr.sameNow,b,decide_eq_false he,RA,aZG,bZ he];exact aiE J s r (i+1) fun e he=>h e zg
def VG{k:TypeId}(h:vF P k=A)(s:List UInt8){es:List MapEntry}(hk:LW es):(a2Y k (aT s) es).run P w = .ok (AH s es 0) w:=by
 unfold vF at h;split at h
 .rename_i hu;simp [a2Y,run_underlying hu,aiE J s es 0 hk]
 grind
def FT{r:Nat}(a:w.heap[r]?=O (.map es c)):(getObj r).run P w = .ok (.map es c) w:=MapKept.run_getObj_map a
def aiF{t k e:TypeId}{z:Y}{r c:Nat}{es:Array MapEntry}{K:Y->Prop}(ht:AG P t=O (k,e))(f:vF P k=A)(j:zm P e=O z)(g:w.heap[r]?=O (.map es c))(hk:LW es.toList)(s:List UInt8)(b:Bool) :
  RD P (a0J t (.map (O r)) (aT s) b) w K X =
   match AH s es.toList 0 with
   | some (_,v)=>K (if b then ak #[v,.bool A] else v)
   | none=>K (if b then ak #[z,.bool G] else z):=by
 have h:=VF (P:=P) (w:=w) (b:=es.isEmpty) (n:=9999) (t:=k) (s:=bs s) f;have a:=VG (P:=P) (w:=w) f s hk;split
 .rename_i i v d;rw[d] at a;refine gU ?_;simp [a0J,run_underlying (FR ht),FT g,h,a]
 .rename_i d;rw[d] at a;refine gU ?_;simp [a0J,run_underlying (FR ht),FT g,h,a,Ek j]
def awg{t k e:TypeId}(ht:AG P t=O (k,e))(f:FP P k=A)(g:zm P e=O z)(a:Option Addr)(b:Bool) :
  RD P (a0J t (.map V) (.pointer a) b) w K X=K (if b then ak #[z,.bool G] else z):=by
 have h:=aaR (P:=P) (w:=w) (b:=true) (n:=9999) (t:=k) (a:=a) f;refine gU ?_;have c:∃ d,P.underlying k=O (.pointer d):=by
  grind [FP]
 obtain⟨d,c⟩:=c;simp [a0J,run_underlying (FR ht),h,a2Y,a2X,run_underlying c,Ek g]
def Er(l:List (Nat×Y)):List MapEntry->Prop
 | []=>l=[]
 | e::r=>∃ b v l',l=(b,v)::l'/\e.key = aq (O ⟨b,0,V⟩)/\e.val=v/\Er l' r
def Hn(b:Nat):List (Nat×Y)->Nat->Option (Nat×Y)
 | [],_=>V
 | (c,v)::r,i=>if b=c then O (i,v) else Hn b r (i+1)
def aiG{k:TypeId}(hk:zv P k=A){b:Nat}{cb:Array Y}{tb:TypeId}(d:w.heap[b]?=aM cb tb):∀ (es:List MapEntry) (l:List (Nat×Y)) (i:Nat),Er l es ->
  (∀ c v,(c,v)∈l->∃ cs t,w.heap[c]?=aM cs t)->(Instr.findAsking k (pp b) es i).run P w = .ok (Hn b l i) w
 | [],l,i,h,_=>by
  have h:l=[]:=h;subst h;rfl
 | e::r,l,i,h,f=>by
  obtain⟨c,v,l',rfl,g,j,m⟩:=h;obtain⟨cs,t,n⟩:=f c v (List.mem_cons_self ..);have o:=aaN (P:=P) hk d n;unfold Instr.findAsking Hn;rw[g,aZS,o];simp only[aZR];by_cases a:b=c
  .simp [a,j]
  .simp only[decide_eq_false a,bZ a];exact aiG hk d r l' (i+1) m yH
def aiH{k:TypeId}(hk:zv P k=A){cb:Array Y}{tb:TypeId}(f:w.heap[b]?=aM cb tb){es:List MapEntry}{l:List (Nat×Y)}(h:Er l es)
  (g:∀ c v,(c,v)∈l->∃ cs t,w.heap[c]?=aM cs t):(a2Y k (pp b) es).run P w = .ok (Hn b l 0) w:=by
 have j:=aiG hk f es l 0 h g;have a:∃ d,P.underlying k=O (.pointer d):=by
  grind [zv]
 obtain⟨d,a⟩:=a;unfold a2Y;rw[aZS,run_underlying a];simp only[aZR];cases es with
 | nil=>
  have h:l=[]:=h;subst h;rfl
 | cons e r=>
  obtain⟨c,v,l',rfl,i,m,n⟩:=h;have:a2X (.pointer d) (pp b) (e::r) 0=none:=by
   unfold a2X;rw[i];rfl
  grind
def aaS{k:TypeId}(h:zv P k=A):FP P k=true:=by
 grind [zv,FP]
def awh{t k e:TypeId}{z:Y}{r c:Nat}{es:Array MapEntry}{l:List (Nat×Y)}{K:Y->Prop}(ht:AG P t=O (k,e))(g:zv P k=A)(j:zm P e=O z)(hm:w.heap[r]?=O (.map es c))(hk:Er l es.toList)
  (m:∀ c v,(c,v)∈l->∃ cs t,w.heap[c]?=aM cs t) {b:Nat} {cb:Array Y} {tb:TypeId} (o:w.heap[b]?=aM cb tb) (ok:Bool) :
  RD P (a0J t (.map (O r)) (pp b) ok) w K X =
   match Hn b l 0 with
   | some (_,v)=>K (if ok then ak #[v,.bool A] else v)
   | none=>K (if ok then ak #[z,.bool G] else z):=by
 have h:=aaR (P:=P) (w:=w) (b:=es.isEmpty) (n:=9999) (t:=k) (a:=O ⟨b,0,V⟩) (aaS g);have d:=aiH (P:=P) (w:=w) g o hk m;split
 .rename_i i v f;rw[f] at d;refine gU ?_;simp [a0J,run_underlying (FR ht),FT hm,h,d]
 .rename_i f;rw[f] at d;refine gU ?_;simp [a0J,run_underlying (FR ht),FT hm,h,d,Ek j]
def awi{t k e:TypeId}{r:Nat}{l:List (Nat×Y)}{K:Z->Prop}(ht:AG P t=O (k,e))(d:zv P k=A)(hm:w.heap[r]?=O (.map es c))(hk:Er l es.toList)
  (g:∀ c v,(c,v)∈l->∃ cs t,w.heap[c]?=aM cs t) {cb:Array Y} {tb:TypeId} (h:w.heap[b]?=aM cb tb) (i:Hn b l 0=V) (v:Y) :
  WU P (a1b t (.map (O r)) (pp b) v) w K X=K (bO w r (.map (es.push { key:=pp b,val:=v,born:=c }) (c+1))):=by
 have j:=aaR (P:=P) (w:=w) (b:=false) (n:=9999) (t:=k) (a:=O ⟨b,0,V⟩) (aaS d);have f:=aiH (P:=P) (w:=w) d h hk g;rw[i] at f;refine Rn ?_;simp [a1b,run_underlying (FR ht),FT hm,j,f,a1r _ hm,bO]
def awj{t k e:TypeId}{r:Nat}{K:Z->Prop}(ht:AG P t=O (k,e))(a:vF P k=A)(hm:w.heap[r]?=O (.map es c))(hk:LW es.toList)(s:List UInt8)(f:AH s es.toList 0=V)(v:Y) :
  WU P (a1b t (.map (O r)) (aT s) v) w K X=K (bO w r (.map (es.push { key:=aT s,val:=v,born:=c }) (c+1))):=by
 have g:=VF (P:=P) (w:=w) (b:=false) (n:=9999) (t:=k) (s:=bs s) a;have d:=VG (P:=P) (w:=w) a s hk;rw[f] at d;refine Rn ?_;simp [a1b,run_underlying (FR ht),FT hm,g,d,a1r _ hm,bO]
def aiI{s:List UInt8}:∀ {es:List MapEntry} {i j:Nat} {v:Y},AH s es i=O (j,v)->i<=j/\∃ e,es[j-i]?=O e/\e.key = aT s/\e.val=v
 | [],_,_,_,h=>by cases h
 | e::r,i,j,v,h=>by
  unfold AH at h;split at h
  .rename_i hk;simp only[aZG,Prod.mk.injEq] at h;obtain⟨rfl,rfl⟩:=h;refine⟨Nat.le_refl _,e,zs,?_,J⟩;unfold RA at hk;split at hk
   .rename_i b a;injection hk with hk;rw[a,<- hk]
   grind
  .obtain⟨c,e',d,f⟩:=aiI h;grind
def awk{t k e:TypeId}{r:Nat}{K:Z->Prop}(ht:AG P t=O (k,e))(a:vF P k=A)(hm:w.heap[r]?=O (.map es c))(hk:LW es.toList)(s:List UInt8)(d:AH s es.toList 0=O (i,u))(v:Y) :
  WU P (a1b t (.map (O r)) (aT s) v) w K X=K (bO w r (.map (es.modify i fun e=>{ e with key:=aT s,val:=v }) c)):=by
 have g:=VF (P:=P) (w:=w) (b:=false) (n:=9999) (t:=k) (s:=bs s) a;have f:=VG (P:=P) (w:=w) a s hk;rw[d] at f;obtain⟨-,e',l,m,-⟩:=aiI d;have h:(es[i]?).map (·.key)=O (aT s):=by
  grind
 have j:(Instr.keyThatStays (((es[i]?).map (·.key)).getD (aT s)) (aT s)).run P w = .ok (aT s) w:=by
  rw[h];simp [Instr.keyThatStays,Instr.sameBits,aaK]
 refine Rn ?_;simp [a1b,run_underlying (FR ht),FT hm,g,f,j,a1r _ hm,bO]
end
end Sx
