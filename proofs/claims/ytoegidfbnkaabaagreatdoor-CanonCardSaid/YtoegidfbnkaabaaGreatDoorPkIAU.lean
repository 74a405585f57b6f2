/- A part of one proof (KM1, KW8, KQ1, ShX6, ShX6b, KE1, ShB2, PX3, PX4). -/
import Derived.Test.YtoegidfbnkaabaaGreatDoorPkIAT
import Derived.Recover
import Derived.Tactics
import Derived.Tactics2
set_option linter.all false
set_option maxRecDepth 100000
set_option maxHeartbeats 8000000
open Option renaming some → O, none → V
open Go renaming Value → Y, World → Z
open Bool renaming true → A, false → G
open Go.Obj renaming cells → ae
open Go.Ending renaming returned → ah
open Go.Value renaming nilIface → ai, iface → aj, tuple → ak, pointer → aq
open Option.some renaming injEq → a07
open Go.Calls renaming mono → a1a
open Nat renaming le_trans → a1d
open Go.Instr renaming typeAssert → a1s
open List renaming range → a1t, getElem?_cons_zero → a2w, toList_toArray → a2U
open Go.World renaming ownsRow_nil → a1A
open Bool renaming false_eq_true → a1F
open Go.Exit renaming thenS → a1P
open Go.Value renaming ownBlock → a1R
open Go.MapKept renaming run_setObj_map → a2Z
open Go.Act renaming eval → a3F
open Go.Proofs.Tryz renaming prog → bbo
open Go.Proofs.Tryz
namespace Go.Proofs.YtoegidfbnkaabaaGreatDoor
open P
variable{F:Nat->Prop}{T:List P.Tok}{a:Act}{av nm u v z:Y}{b base e i k mb n nv o pb tb xb:Nat}{cs:Array Y}{vs:List Y}{w0:Z}
namespace Sx
open Go
def pj(l:List (List UInt8×Y))(i:Nat):List MapEntry:=match l with
 | []=>[]
 | (s,v)::r=>{ key:=.string (bs s),val:=v,born:=i }::pj r (i+1)
def eO(l:List (List UInt8×Y)):Obj:=.map (pj l 0).toArray l.length
def fO(s:List UInt8):List (List UInt8×Y)->Nat->Option (Nat×Y)
 | [],_=>V
 | (u,v)::r,i=>if u=s then O (i,v) else fO s r (i+1)
theorem Q1:∀ (l:List (List UInt8×Y)) (i:Nat),Nf (pj l i)
 | [],_=>fun e he=>by cases he
 | (s,v)::r,i=>fun e he=>by
  rcases List.mem_cons.1 he with rfl | he
  .grind
  .exact Q1 r (i+1) e he
def aLR(s:List UInt8):SF (aT s)=O s:=rfl
def Q2(s:List UInt8):∀ (l:List (List UInt8×Y)) (i j:Nat),Bq s (pj l i) j=fO s l j
 | [],_,_=>rfl
 | (u,v)::r,i,j=>by
  unfold pj Bq fO;rw[aLR,Q2 s r (i+1) (j+1)];grind
def afs(s:List UInt8)(v:Y):∀ (l:List (List UInt8×Y)) (i:Nat),pj l i++[{ key:=aT s,val:=v,born:=i+l.length }]=pj (l++[(s,v)]) i
 | [],i=>rfl
 | (u,x)::r,i=>by
  show _::(pj r (i+1)++_)=_::pj (r++[(s,v)]) (i+1);rw[<- afs s v r (i+1)];grind
def YQ{s:List UInt8}:∀ {l:List (List UInt8×Y)} {i j:Nat} {v:Y},fO s l i=O (j,v)->i<=j/\l[j-i]?=O (s,v)
 | [],_,_,_,h=>by cases h
 | (u,x)::r,i,j,v,h=>by
  unfold fO at h;split at h
  .grind
  .obtain⟨a,b⟩:=YQ h;grind
theorem YR(s t:List UInt8)(v:Y):∀ (l:List (List UInt8×Y)) (i:Nat),fO s (l++[(t,v)]) i=match fO s l i with | some p=>O p | none=>if t=s then O (i+l.length,v) else V
 | [],i=>by simp [fO]
 | (u,x)::r,i=>by
  show fO s ((u,x)::(r++[(t,v)])) i=_;unfold fO;split
  .rfl
  .rw[YR s t v r (i+1)];grind
def apB{s t:List UInt8}{v u:Y}:∀ {l:List (List UInt8×Y)} {i j:Nat},fO t l i=O (j,u)->fO s (l.set (j-i) (t,v)) i=if s=t then O (j,v) else fO s l i
 | [],_,_,h=>by cases h
 | (x,y)::r,i,j,h=>by
  unfold fO at h;split at h
  .rename_i hx;simp only[a07,Prod.mk.injEq] at h;obtain⟨rfl,rfl⟩:=h;subst hx;rw[Nat.sub_self,List.set_cons_zero];unfold fO;grind
  .rename_i hx;have b:=(YQ h).1;rw[show j-i=(j-(i+1))+1 by omega,List.set_cons_succ];unfold fO;by_cases a:x=s
   .grind
   .rw[bI a,bI a,apB h]
def aft{s:List UInt8}{v u:Y}{g:MapEntry->MapEntry}(a:∀ b,g { key:=aT s,val:=u,born:=b }={ key:=aT s,val:=v,born:=b }) :
  ∀ {l:List (List UInt8×Y)} {i j:Nat},l[j]?=O (s,u)->(pj l i).modify j g=pj (l.set j (s,v)) i
 | (x,y)::r,i,0,h=>by
  simp only[a2w,a07,Prod.mk.injEq] at h;obtain⟨rfl,rfl⟩:=h;simp only[pj,List.set_cons_zero,List.modify_zero_cons,a]
 | (x,y)::r,i,j+1,h=>by
  have h:r[j]?=O (s,u):=zg;simp only[pj,List.set_cons_succ,List.modify_succ_cons,aft a h]
section
variable{P:Program}{w:Z}{X:Y->Z->Prop}{l:List (List UInt8×Y)}{r:Nat}
def LZ{t k e:TypeId}{z:Y}{K:Y->Prop}(ht:Bp P t=O (k,e))(a:wZ P k=A)(c:Ao P e=O z)(d:w.heap[r]?=O (eO l))(s:List UInt8)(b:Bool) :
  RD P (Instr.lookup t (.map (O r)) (aT s) b) w K X =
   match fO s l 0 with
   | some (_,v)=>K (if b then ak #[v,.bool A] else v)
   | none=>K (if b then ak #[z,.bool G] else z):=by
 rw[ajM ht a c d (by grind [Q1])];rw[a2U,Q2];grind
def yz{t k e:TypeId}{K:Z->Prop}(ht:Bp P t=O (k,e))(a:wZ P k=A)(hm:w.heap[r]?=O (eO l))(s:List UInt8)(b:fO s l 0=V)(v:Y) :
  WU P (Instr.mapUpdate t (.map (O r)) (aT s) v) w K X=K (bS w r (eO (l++[(s,v)]))):=by
 rw[axx ht a hm (by grind [Q1]) s (by rw[a2U,Q2];omega) v]
 congr 2
 unfold eO;have:=afs s v l 0;grind
def apC{t k e:TypeId}{K:Z->Prop}(ht:Bp P t=O (k,e))(d:wZ P k=A)(hm:w.heap[r]?=O (eO l))(s:List UInt8)(a:fO s l 0=O (i,u))(v:Y) :
  WU P (Instr.mapUpdate t (.map (O r)) (aT s) v) w K X=K (bS w r (eO (l.set i (s,v)))):=by
 rw[axy ht d hm (by grind [Q1]) s (by rw[a2U,Q2];exact a) v]
 congr 2
 unfold eO;have c:=(YQ a).2;rw[Nat.sub_zero] at c;rw[List.length_set,<- aft (g:=fun e=>{ e with key:=aT s,val:=v }) (fun b=>rfl) c];grind
def aLS{t k e:TypeId}{K:Y->Z->Prop}(ht:Bp P t=O (k,e))(a:wZ P k=A)(d:Ao P e=O z)(hm:w.heap[r]?=O (eO l))(s:List UInt8)(f:fO s l 0=V) :
  WR P (Instr.mapEntry t (.map (O r)) (aT s)) w K X=K (ak #[z,zi l.length]) (bS w r (eO (l++[(s,z)]))):=by
 have g:=WH (P:=P) (w:=w) (b:=false) (n:=9999) (t:=k) (s:=bs s) a;have c:=WI (P:=P) (w:=w) a s (es:=(pj l 0).toArray.toList) (by simpa using Q1 l 0);rw[a2U,Q2,f] at c;have h:bS w r (eO (l++[(s,z)]))=bS w r (.map ((pj l 0).toArray.push { key:=aT s,val:=z,born:=l.length }) (l.length+1)):=by
  unfold eO;have:=afs s z l 0;grind
 rw[h];refine xR ?_;simp [Instr.mapEntry,run_underlying (GI ht),GJ (show w.heap[r]?=O (.map (pj l 0).toArray l.length) from hm),g,c,Fa d,a2Z _ (show w.heap[r]?=O (.map (pj l 0).toArray l.length) from hm),bS,goInt]
def find_born{i:Nat}:∀ {l:List (List UInt8×Y)} {j:Nat},i<l.length->(pj l j).findIdx? (fun e=>(e.born:Int) == ((j+i:Nat):Int))=O i
 | [],_,h=>zg
 | (u,x)::r,j,h=>by
  unfold pj;rw[List.findIdx?_cons];cases i with
  | zero=>simp
  | succ i=>
   have a:(j:Int)≠((j+(i+1):Nat):Int):=zo;have b:=find_born (i:=i) (l:=r) (j:=j+1) zg;grind
def aLT{t:TypeId}{K:Z->Prop}(hm:w.heap[r]?=O (eO l)){s:List UInt8}(a:l[i]?=O (s,u))(v:Y) :
  WU P (Instr.entryStore t (.map (O r)) (zi i) v) w K X=K (bS w r (eO (l.set i (s,v)))):=by
 have d:=(List.getElem?_eq_some_iff.1 a).1;have c:=find_born (l:=l) (j:=0) d;rw[Nat.zero_add] at c;have f:bS w r (eO (l.set i (s,v)))=bS w r (.map ((pj l 0).toArray.modify i fun e=>{ e with val:=v }) l.length):=by
  unfold eO;rw[List.length_set,<- aft (g:=fun e=>{ e with val:=v }) (fun b=>rfl) a];grind
 rw[f];refine So ?_;simp [Instr.entryStore,GJ (show w.heap[r]?=O (.map (pj l 0).toArray l.length) from hm),c,a2Z _ (show w.heap[r]?=O (.map (pj l 0).toArray l.length) from hm),bS,asInt,asIntOf]
end
end Sx
open Go.RowKit Sx
def yA(l:List Cl)(s:Bs):List Cl:=l.filter fun c=>P.keyOf c.name c.args.length == s
def aLU(l:List Cl)(c:Cl)(s:Bs):yA (l++[c]) s=if P.keyOf c.name c.args.length=s then yA l s++[c] else yA l s:=by
 unfold yA;grind
def kE.Dh{F:Nat->Prop}{w:Z}:∀ {xs:List Cl} {vs:List Y} (j:Nat) (b:j<xs.length),kE F w vs xs->∃ v,vs[j]?=O v/\Fw F w v xs[j]
 | x::xs,vs,0,_,⟨u,r,c,d,a⟩=>zg
 | x::xs,vs,j+1,b,⟨u,r,c,d,a⟩=>by
  obtain⟨v,g1,g2⟩:=kE.Dh j zg a;grind
def kE.len{F:Nat->Prop}{w:Z}:∀ {xs:List Cl} {vs:List Y},kE F w vs xs->vs.length=xs.length
 | [],vs,h=>by have h:vs=[]:=h;grind
 | y::c,vs,⟨u,r,a,d,b⟩=>by rw[a];simp [kE.len b]
structure UE(w0 w:Z)(l:List (List UInt8×Y))(cs:List Cl):Prop where
 row:∀ s,match fO s l 0 with
  | none=>yA cs s=[]
  | some (_,v)=>yA cs s≠[]/\∃ vs,w.ownsRow (w0.heap.size+1) 79 1 v (yA cs s).length vs/\kE (fun _=>True) w0 vs (yA cs s)
 sep:∀ s t i j v u,fO s l 0=O (i,v)->fO t l 0=O (j,u)->s≠t->v.ownBlock≠u.ownBlock
def UE.own{w:Z}{l:List (List UInt8×Y)}{cs:List Cl}(h:UE w0 w l cs){s:Bs}(a:fO s l 0=O (i,v)):∃ g,v.ownBlock=O g:=by
 have:=h.row s;rw[a] at this;obtain⟨c,vs,b,-⟩:=this;rcases b.2 with⟨-,d⟩| ⟨g,cap,cur,rfl,-⟩
 .grind
 .exact⟨g,J⟩
theorem UF{w:Z}(h:w.ownsRow base e 1 v n vs)(b:n=vs.length):fJ (fun _=>True) w e v vs:=by
 subst b;rcases h.2 with⟨c,a⟩| ⟨g,cap,cur,rfl,a,d,f,i,j,k⟩
 .have a:vs.length=0:=a;exact .inl zg
 .have l:cur.size=cap:=zo;exact .inr yH
def aLV{w:Z}{base:List Cl}(hv:fJ (fun _=>True) w 79 v vs)(U:kE (fun _=>True) w vs base)(dj:∀ c∈base,c.name.length<=100/\c.args.length<=4)(hn:base.length<=100000) :
  Calls bbo 39 #[v] w fun e w'=>Ext w w'/\∃ mb,e = ah (.map (O mb))/\w.heap.size<=mb/\B0 w' mb base:=by
 have JI:vs.length=base.length:=U.len;obtain⟨sa,sc,rfl⟩:=hv.sl;refine aK9 ?_;obtain⟨w1,j3⟩:=cg (w.alloc (eO []));have YS:w.alloc (.map #[] 0)=w1:=j3.symm;have dE:Ext w w1:=yF;have m1:w1.heap[w.heap.size]?=O (eO []):=yH;refine bG ?_;rw[YS];refine⟨fun m z w'=>∃ (j:Nat) (l:List (List UInt8×Y)),z 10=zi (j:Nat)/\j<=base.length/\m=base.length-j/\Ext w w'/\w'.heap[w.heap.size]?=O (eO l)/\UE w w' l (base.take j),
  ⟨_,0,[],J,Nat.zero_le _,J,dE,m1,⟨(by grind [fO,yA]),(by grind [fO])⟩⟩,?_⟩
 intro m z d w2 hI;refine toPr ?_;obtain⟨j,l,W,hj,rfl,C,m2,D⟩:=hI;by_cases hlt:j<base.length
 .obtain⟨rb,rcs,M,-,N,K⟩:=hv.at' (j:=j) zo;obtain⟨cv,e2,jo⟩:=U.Dh j hlt;rw[e2] at K;simp only[Value.slice.injEq,true_and] at M;obtain⟨rfl,rfl⟩:=M;obtain⟨cb,cav,cbv,YD,Ur,rfl,-,gN,⟨xus,lJ,xU⟩,nW⟩:=id jo;obtain⟨xa,xc,rfl⟩:=lJ.sl;have Kt:xus.length=(base[j]).args.length:=eM.FV xU;have r2':=C.ext _ _ N;have JC:=C.ext _ _ gN;have qY:(j:Int)<(base.length:Int):=zo;have ej:(j:Int).toNat=j:=zo;obtain⟨mU,lp⟩:=dj _ (List.getElem_mem hlt);refine dM JI W @r2' (zA @K (zA JC @ej)) ?_;rw[Kt];refine a1a (ao8 (base[j]).name (base[j]).args.length mU zo _) ?_;rintro e w3 ⟨rfl,rfl⟩;have m3:w2.drew.heap[w.heap.size]?=O (eO l):=m2;obtain⟨key,PU⟩:=cg (P.keyOf (base[j]).name (base[j]).args.length);rw[<- PU];refine bG ?_;rw[LZ (k:=9) (e:=68) zk zk (z:=bX) zk m3];have X:=D.row key;obtain⟨F,jB⟩:=cg (w2.drew.alloc (ae #[pp cb] 79));have y:Ext w2 F:=yF;have g4:F.heap[w2.heap.size]?=aN #[pp cb] 79:=yH;have m4:=y.ext _ _ m2;have s2:=C.size;have s4:=y.size;have acb:w.heap.size<w2.heap.size:=yH;have Q:∀ {x:Y} {n:Nat} {xs:List Y},F.ownsRow (w.heap.size+1) 79 1 x n xs->O w.heap.size≠x.ownBlock:=fun h e=>by
   rcases h.2 with⟨a,-⟩| ⟨g,cap,cur,a,f,-⟩
   .rw[a] at e;cases e
   grind [a1R,a07]
  have ll:∀ {x v':Y} {n:Nat} {xs:List Y} {q:Z} {l':List (List UInt8×Y)},F.ownsRow (w.heap.size+1) 79 1 x n xs->q.ownsRow (w.heap.size+1) 79 1 v' (n+1) (xs++[pp cb]) ->
    F.grownBy q x.ownBlock->(v'.ownBlock=x.ownBlock\/∀ k,v'.ownBlock=O k->F.heap.size<=k)->n=(yA (base.take j) key).length->kE (fun _=>True) w xs (yA (base.take j) key) ->
    (∀ t i u,t≠key->fO t l 0=O (i,u)->u.ownBlock≠x.ownBlock)->(∀ t,t≠key->fO t l' 0=fO t l 0)->(∃ i,fO key l' 0=O (i,v')) ->
    Ext w (bS q w.heap.size (eO l'))/\(bS q w.heap.size (eO l')).heap[w.heap.size]?=O (eO l')/\UE w (bS q w.heap.size (eO l')) l' (base.take (j+1)):=by
   intro x v' n xs q l' hx Ej E dY yg aLX ed gw R;obtain⟨ik,R⟩:=R;have S:q.heap[w.heap.size]?=O (eO l):=by rw[E.block _ (bh m4) (Q hx)];exact m4
   have lm5:=bh S;have uf:Ext w q:=⟨E.os.trans (y.os.trans C.os),E.tape.trans (y.tape.trans C.tape),E.output.trans (y.output.trans C.output),zo,fun b o hb _=>by
    rw[E.block b (yH) (fun e=>?_)]
    .exact y.ext _ _ (C.ext _ _ hb)
    .have:=bh hb;rcases hx.2 with⟨a,-⟩| ⟨g,cap,cur,a,f,-⟩
     .rw[a] at e;cases e
     grind [a1R,a07]⟩
   have hold:∀ {u:Y} {k:Nat} {us:List Y},w2.ownsRow (w.heap.size+1) 79 1 u k us->∀ g,u.ownBlock=O g->g<F.heap.size:=fun h g E=>by
    rcases h.2 with⟨a,-⟩| ⟨g',cap,cur,a,f,r,-⟩
    .rw[a] at E;cases E
    grind [a1R,a07,bh]
   refine⟨yF,yH,?_,?_⟩
   .intro t;rw[List.take_succ_eq_append_getElem hlt,aLU,<- PU];by_cases ht:key=t
    .subst ht;rw[zip J,R];simp only;refine⟨zs,xs++[pp cb],?_,aLX.snoc jo⟩;grind [List.length_append,List.length_singleton,Js,a1R,a07]
    .rw[bI ht,gw t (fun e=>ht e.symm)];have hr:=D.row t;cases L:fO t l 0 with
     | none=>exact yH
     | some p=>
      obtain⟨i,u⟩:=p;rw[L] at hr;obtain⟨a,us,f,r⟩:=hr;refine⟨a,us,?_,r⟩;have B:F.ownsRow (w.heap.size+1) 79 1 u (yA (base.take j) t).length us:=jY y.ext f;have aLY:=ed t i u (fun e=>ht e.symm) L;have h5:q.ownsRow (w.heap.size+1) 79 1 u (yA (base.take j) t).length us:=by
       refine⟨B.1,?_⟩;rcases B.2 with h6 | ⟨g,cap,cur,M,e2,e3,e4⟩
       .exact yH
       .refine .inr ⟨g,cap,cur,M,e2,?_,e4⟩;rw[E.block g (bh e3) (fun e=>aLY (by rw[M,<- e];rfl))];omega
      grind [Js]
   .intro s t i i' u u' a f gY;by_cases hs:s=key
    .subst hs;rw[R] at a;cases a;rw[gw t (fun e=>gY e.symm)] at f;have hr:=D.row t;rw[f] at hr;obtain⟨_,us,r,-⟩:=hr;obtain⟨g,H⟩:=D.own f;rcases dY with B | B
     .rw[B];exact fun e=>ed t i' u' (fun e=>gY e.symm) f e.symm
     .intro e;have h5:=B g (by rw[e];exact H);have h6:=hold r g H;omega
    .rw[gw s hs] at a;by_cases ht:t=key
     .subst ht;rw[R] at f;cases f;have hr:=D.row s;rw[a] at hr;obtain⟨_,us,r,-⟩:=hr;obtain⟨g,H⟩:=D.own a;rcases dY with B | B
      .rw[B];exact ed s i u hs a
      .intro e;have h5:=B g (by rw[<- e];exact H);have h6:=hold r g H;omega
     .rw[gw t ht] at f;exact D.sep s t i i' u u' a f gY
  have aLZ:(yA (base.take j) key).length<=100000:=a1d (List.length_filter_le _ _) zg;cases hk:fO key l 0 with
  | none=>
   rw[hk] at X;simp only;refine bG ?_;rw[<- jB];refine acY (base:=w.heap.size+1) (a1A _ _ _ _) g4 J zo zo ?_;intro v' q I T yu;have S:q.heap[w.heap.size]?=O (eO l):=by rw[T.block _ (bh m4) (by intro e;cases e)];omega
   rw[yz (k:=9) (e:=68) zk zk S key hk];obtain⟨r1,N,K⟩:=ll (l':=l++[(key,v')]) (a1A _ _ _ _) I T yu zg (by rw[show yA (base.take j) key=[] from X];rfl)
    (fun t i u _ L=>by obtain⟨g,H⟩:=D.own L;rw[H];intro e;cases e)
    (fun t ht=>by rw[YR];grind) ⟨0+l.length,by grind [YR]⟩
   refine cO W ?_;exact⟨base.length-(j+1),zo,j+1,l++[(key,v')],zg,zo,J,r1,N,K⟩
  | some p=>
   obtain⟨i,x⟩:=p;rw[hk] at X;obtain⟨a,us,f,r⟩:=X;simp only;obtain⟨xa',xc',rW⟩:=il f;refine bG ?_;rw[<- jB];refine acY (base:=w.heap.size+1) (jY y.ext f) g4 J aLZ zo ?_;intro v' q I T yu;have S:q.heap[w.heap.size]?=O (eO l):=by rw[T.block _ (bh m4) (Q (jY y.ext f))];omega
   rw[apC (k:=9) (e:=68) zk zk S key hk];have CT:=fun s=>apB (s:=s) (v:=v') hk;rw[Nat.sub_zero] at CT;obtain⟨r1,N,K⟩:=ll (l':=l.set i (key,v')) (jY y.ext f) I T yu J r
    (by grind [UE.sep])
    zg zg
   refine cO W ?_;exact⟨base.length-(j+1),zo,j+1,l.set i (key,v'),zg,zo,J,r1,N,K⟩
 .have fD:j=base.length:=zo;subst fD;refine dF JI W ?_;refine⟨C,_,J,Nat.le_refl _,(pj l 0).toArray,l.length,m2,by grind [Q1],fun name n hn4=>?_⟩;rw[a2U,Q2];have hr:=D.row (P.keyOf name n);rw[List.take_length] at hr;have iV:yA base (P.keyOf name n)=HU base name n:=by
   unfold yA HU;refine List.filter_congr fun c U=>?_;have:=(dj c U).2;rw[Bool.eq_iff_iff];simp only[beq_iff_eq,Bool.and_eq_true];grind [P.afi]
  rw[iV] at hr;cases L:fO (P.keyOf name n) l 0 with
  | none=>grind
  | some p=>
   rw[L] at hr;obtain⟨a,us,f,r⟩:=hr;exact⟨a,us,UF f r.len.symm,r.jn (eR.eo C)⟩
def aL0{w:Z}{u:Option Addr}{body:Bd}(y:n<=100000)(m:w.heap[b]?=aN #[nm,av,pp xb,.slice u n pb] 86)
  (z:dP (fun _=>True) w (pp xb) body) :
  Calls bbo 38 #[.map (O mb),pp b] w fun e w'=>Ext w w'/\∃ q fb ρ todo,e = ah (pp q)/\w.heap.size<=q /\
   fJ (fun _=>True) w' 89 (cV fb n n) (mM ρ (a1t n)) /\
   ∀ D:Nat->Prop,(∀ b,w.heap.size<=b->D b)->kA D ρ q mb todo bX (cV fb n n) bX [] w' (Wk.new body n):=by
 refine aoW ?_;refine cO m ?_;refine a1a (aoY n y w) ?_;rintro e w1 ⟨r,s1,vcs,rfl,U,B,C⟩;have d:=r.ext _ _ m;have W:=bh d;refine cO d ?_;obtain⟨w2,E⟩:=cg (w1.alloc (ae #[.map (O mb),bX,zi 0,aq V,bX,cV w.heap.size n n] 130));have F:w1.alloc (ae (Value.agg #[.map (O mb),bX,zi 0,aq V,bX,cV w.heap.size n n]).cells 130 (0,0))=w2:=E.symm;rw[F];have H:Ext w1 w2:=yF;have g2:w2.heap[w1.heap.size]?=aN #[.map (O mb),bX,zi 0,aq V,bX,cV w.heap.size n n] 130:=yH;have s2:w2.heap.size=w1.heap.size+1:=yH;have s:=H.ext _ _ d;have X:=bh g2;refine⟨fun w'=>w'.heap[b]?=w2.heap[b]?,J,?_⟩;rw[jI];refine cS (pq b 2) (fun w' a=>by rw[s] at a;exact fm a) (cS (pp xb) (fun w' a=>by rw[s] at a;have:=bh a;exact fm a) ?_);refine cO @g2 ?_;obtain⟨w3,I⟩:=cg (w2.drew.alloc (ae #[pp xb,cV w.heap.size n n,zi 0,aq V] 207));have K:Ext w2 w3:=yF;have g3:w3.heap[w2.heap.size]?=aN #[pp xb,cV w.heap.size n n,zi 0,aq V] 207:=yH;have e3:w2.drew.heap.size=w2.heap.size:=rfl;rw[<- I];have Hy:Ext w w3:=yF;have L:=K.ext _ _ g2;have l3:=bh L;obtain⟨c,M⟩:=cg (bS w3 w1.heap.size (ae #[.map (O mb),bX,zi 0,pp w2.heap.size,bX,cV w.heap.size n n] 130));rw[<- M];have f:=r.size;have t:Ext w c:=yF;have N:∀ x o,x≠w1.heap.size->w3.heap[x]?=O o->c.heap[x]?=O o:=yH;have c4:c.heap[w1.heap.size]?=aN #[.map (O mb),bX,zi 0,pp w2.heap.size,bX,cV w.heap.size n n] 130:=yH;have P:∀ j,j<n->c.heap[w.heap.size+1+j]?=aN #[ai] 91:=yH;have Q:c.heap[w.heap.size]?=aN vcs 89:=yH;have h:=aoZ (ρ:=fun _=>0) (n:=0) Q B (fun j R=>(C j R).1);rw[<- List.range_eq_range'] at h;refine⟨t,w1.heap.size,w.heap.size,yv (fun _=>0) 0 (w.heap.size+1),pp w2.heap.size,J,f,h,fun D hD=>?_⟩;have S:∀ i,yv (fun _=>0) 0 (w.heap.size+1) i=w.heap.size+1+i:=(by grind [yv]);refine⟨⟨⟨yH,fun i k=>⟨ai,by rw[S];exact P i k,J⟩⟩,yH,c4,a1A _ _ _ _,fun g l=>(by cases l),yH,List.nodup_nil,(fun p T=>by cases T),trivial⟩,
  ⟨_,_,_,_,J,N _ _ zo g3,dP.jn (eR.eo t) z,h,fun i k=>List.mem_range.1 k,J⟩,a1A _ _ _ _,J,fun g l=>(by cases l)⟩
def Q4(F:Nat->Prop)(w:Z)(b:Nat)(x:Bd)(vs:List Bs):Prop:=
 F b/\vs.length<=12/\∃ xb a c,w.heap[b]?=aN #[aT [],bX,pp xb,.slice a vs.length c] 86/\dP F w (pp xb) x /\
  fJ F w 9 (.slice a vs.length c) (vs.map fun s=>aT s)
def Q4.afv(F F':Nat->Prop)(w w':Z)(b:Nat)(x:Bd)(vs:List Bs)(a:∀ b,F b->F' b)(hw:∀ b o,F b->w.heap[b]?=O o->w'.heap[b]?=O o)(h:Q4 F w b x vs):Q4 F' w' b x vs:=by
 obtain⟨c,d,xb,e,f,g,i,j⟩:=h;exact⟨a _ c,d,xb,e,f,yH,(by grind [dP.mono]),(by grind [fJ.mono])⟩
def aL2{w:Z}(h:w.ownsRow base e 1 v n vs)(c:n=vs.length)(d:∀ b cs,base<=b->w.heap[b]?=aN cs e->F b):fJ F w e v vs:=by
 subst c;rcases h.2 with⟨f,a⟩| ⟨g,cap,cur,rfl,a,i,j,k,l,m⟩
 .have a:vs.length=0:=a;exact .inl zg
 .have o:cur.size=cap:=zo;exact .inr yH
def aL3{w:Z}(h:SP w pb tb T 0 [] 0)(z:mZ w tb)(L:w.heap.size=pb+1):Calls bbo 76 #[pp pb] w (adq Q4 pb w (vH T)):=by
 refine aHP ?_;cases l:mT T (rY T) 0 [] 0 with
 | none=>
  obtain⟨r,hr⟩:=(totB T (rY T)).body 0 [] 0 (by grind [rY]);grind
 | some q=>
 refine a1a ((al5 (rY T)).go h z zo l) ?_;rintro e w1 p;cases q with
 | err c a=>
  obtain⟨⟨b,rfl,B,C⟩,g,M⟩:=p;refine bG ?_;refine⟨g,?_⟩;simp only[vH,l];exact⟨b,J,B,C⟩
 | ok x k vs=>
  obtain⟨v,rfl,hx,s,g⟩:=p;obtain⟨xb,rfl,-⟩:=hx.shape;have s1:=g.size;have N:=s.yW;cases i:mj T [46] x k vs with
  | none=>unfold mj at i;split at i<;>cases i
  | some P=>
  refine bG ?_;refine(ac1 s [46] zd x i).mono ?_;rintro e w2 ⟨m,(⟨rfl,hr,n⟩| ⟨c,a,hr,j⟩)⟩
  .have s2:=m.size;obtain⟨cap,t,u,cs,f,Q,R,D,S,g0,g1,g2,g3,g4,g5⟩:=n.x;have U:=bh f;refine bG ?_;refine⟨fun _ w'=>w'=w2/\(tk T (k+1)).kind=0,?_,?_⟩
   .by_cases o:(tk T (k+1)).kind=0
    .have E:(((tk T (k+1)).kind:Nat):Int)=0:=zo;refine jk f @g0 @g3 ?_;omega
    .have E:¬ (((tk T (k+1)).kind:Nat):Int)=0:=zo;refine jk f @g0 @g3 ?_;refine(PN n).mono ?_;rintro e w3 ⟨j,F,-⟩;have H:=KQ j (a1d s1 s2);obtain⟨b,rfl,-,-⟩:=j;refine bG ?_;refine⟨(g.trans m).trans F,?_⟩;simp only[vH,l,i,hr,bI o];omega
   .rintro _ w3 ⟨rfl,o⟩ d;refine cO f ?_;have y:Ext w3 (w3.alloc (ae #[aT [],bX,pp xb,.slice t vs.length u] 86)):=yF;refine⟨(g.trans m).trans y.toM,?_⟩;simp only[vH,l,i,hr,zip o];obtain⟨W,I,q1,q2,q3,q4⟩:=n.yW;rw[q3] at f;injection f with f;injection f with f _ _;have f:=congrArg (fun a:Array Y=>a[1]?) f;simp only[List.getElem?_toArray,List.getElem?_cons_succ,a2w,a07] at f;subst f;refine⟨_,J,yH,n.nv,xb,t,u,yH,?_,?_⟩
    .have K:dP (Nu w w3) w3 (pp xb) x:=dP.mono zg (by grind [dc.lG]) _ _ hx;exact dP.mono (by grind [size_alloc]) yH _ _ K
    .refine aL2 (jY y.ext q4) zs yH
  .have H:=KQ j s1;obtain⟨b,rfl,-,-⟩:=j;refine bG ?_;refine⟨g.trans m,?_⟩;grind [vH]
def apE(s:Bs)(w:Z)(j:s.length<=100000)(l:Ef w)(hC:mZ w w.heap.size):Calls bbo 37 #[aT s] w (Tx Q4 w (nY vH s)):=by
 refine aHQ ?_;refine(amp Q4.afv (g:=vH) zk s w j l fun _ h m n=>aL3 h (m hC) n).mono ?_;rintro e w1 ⟨i,d⟩;cases hr:nY vH s with
 | err c a=>
  rw[hr] at d;obtain⟨b,rfl,f⟩:=d;refine bG ?_;exact⟨i,b,J,f⟩
 | ok x k vs=>
  rw[hr] at d;obtain⟨b,rfl,f⟩:=d;refine bG ?_;exact⟨i,b,J,f⟩
open Go.Proofs.YtoegidfbnkaabaaGreatDoor.Sx
section
variable{p0 p1 p2 p3 p4 p5 p6 p7:Y}{w:Z}{R:Ending->Z->Prop}
def aL4:=cz w R [p0] (gc [] [] [13]) func25
def aL5:=cz w R [p0] (gc [] [] []) func40
def aL6:=cz w R [p0] (gc [] [] []) func16
end
section
variable{p0 p1 p2 p3 p4 p5 p6 p7:Y}{w:Z}{R:Ending->Z->Prop}
def aL7:=cy w R [p0] (gd [(10,[49])] [(14001,[]),(16001,[])] [(16,11)] [(2,[6,0,1,2,3,4,5]),(7,[6,0,1,2,3,4,5])] [] [] [11,27,28,50,68,69,74,83,104]) func27
end
def apF(w:Z):(a1s ai 20 27 A).run bbo w = .ok (ak #[zi 0,.bool G]) w:=zk
def apG(v:Y)(w:Z):(a1s (aj 27 v) 20 27 A).run bbo w = .ok (ak #[v,.bool A]) w:=zk
def aL8(w:Z):(a1s ai 20 134 A).run bbo w = .ok (ak #[.agg #[],.bool G]) w:=zk
def aL9(v:Y)(w:Z):(a1s (aj 134 v) 20 27 A).run bbo w = .ok (ak #[zi 0,.bool G]) w:=zk
def aMa(v:Y)(w:Z):(a1s (aj 134 v) 20 134 A).run bbo w = .ok (ak #[v,.bool A]) w:=zk
def Q5(id:Nat)(Q:Exit->Act->List Frame->Z->Prop):Exit->Act->List Frame->Z->Prop
 | .exit b,a,cs,w=>if b=id then Q .normal a cs w else Q (.exit b) a cs w
 | e,a,cs,w=>Q e a cs w
def afw{P:Program}{Q:Exit->Act->List Frame->Z->Prop}{cs:List Frame}{w:Z}{id:Nat}{c:Code}(h:c.wpS P (Q5 id Q) a cs w):(Code.block id c).wpS P Q a cs w:=fun b k m hr=>by
 obtain⟨e,d,f,w1,g,i⟩:=h b (.inBlock id::k) m hr;cases e with
 | normal=>exact⟨.normal,d,f,w1,g,.head step_block (Steps.trans i (.one step_inBlock))⟩
 | exit j=>
  by_cases hid:j=id
  .have g:Q .normal d f w1:=by grind [Q5,hid]
   exact⟨.normal,d,f,w1,g,.head step_block (i k (by simp [exitTo,hid]))⟩
  .have g:Q (.exit j) d f w1:=by grind [Q5,hid]
   refine⟨.exit j,d,f,w1,g,fun k' hk=>.head step_block (i k' ?_)⟩;grind [id,hid,exitTo]
 | goto l=>exact⟨_,d,f,w1,g,fun k' hk=>.head step_block (i k' (by grind [gotoIn]))⟩
 | ret=>exact⟨_,d,f,w1,g,.of_steps (.one step_block) i⟩
 | panic n=>exact⟨_,d,f,w1,g,.of_steps (.one step_block) i⟩
 | outgrown=>exact⟨_,d,f,w1,g,.of_steps (b:=b) (k:=k) (e:=.outgrown) (.one step_block) i⟩
def aMb(v0 v1 v2:Y)(w:Z):CallsD bbo 42 #[v0,v1,v2] .returning w fun e u' w'=>e = ah (ak #[])/\u' = .returning/\w'=w:=by
 refine callsD_of_wpS func42 J fun AM cs hu=>?_;apply wpS_seq;apply wpS_region;simp [wpOpsS,go_sem,recoverD,hu,ntmps42,a1P];apply afw;apply wpS_seq;apply wpS_region;simp [wpOpsS,go_sem,recoverD,hu,ntmps42,a1P,apF];refine wpS_cond (t:=false) (by simp [a3F]) ?_;simp only[a1F,if_false];apply wpS_seq;apply wpS_region;simp [wpOpsS,go_sem,recoverD,hu,ntmps42,a1P,aL8];refine wpS_cond (t:=false) (by simp [a3F]) ?_;simp only[a1F,if_false];refine wpS_of_wp (wp_skip ?_);cases AM;simp_all [Q5,bodyPostS,results,Tryz.results42]
section
variable{w:Z}{qb b0 b1 b2:Nat}{q0 q1 q2 q3 q4 o1 o2:Y}
structure OD(w:Z)(qb b0 b1 b2:Nat)(q0 q1 q2 q3 q4 o1 o2:Y):Prop where
 q:w.heap[qb]?=aN #[q0,q1,q2,q3,q4] 121
 x0:w.heap[b0]?=aN #[pp qb] 35
 x1:w.heap[b1]?=aN #[o1] 9
 x2:w.heap[b2]?=aN #[o2] 57
 lt:qb<b0/\b0<b1/\b1<b2
def EJ{w:Z}{T:Nat}(h:w.heap[b]?=aN cs T)(hv:cs[o]?=O v):w.cell? ⟨b,o,V⟩=O v:=by
 grind [World.cell?]
def aMc(h:OD w qb b0 b1 b2 q0 q1 q2 q3 q4 o1 o2)(k:Int)(yj:List PanicEntry) :
  CallsD bbo 42 #[pp b0,pp b1,pp b2] (.panicking ({ v:=aj 27 (zi k),recovered:=false }::yj)) w fun e u' w'=>
   e = ah (ak #[])/\u' = .panicking ({ v:=aj 27 (zi k),recovered:=true }::yj) /\
   w'=bS (bS (bS w qb (ae #[q0,q1,q2,q3,aj 27 (zi k)] 121)) b1 (ae #[aT []] 9 (0,0))) b2 (ae #[aj 27 (zi k)] 57):=by
 obtain⟨hq,h0,h1,h2,BK,pG,gH⟩:=h;have c0:w.cell? ⟨b0,0,V⟩=O (pp qb):=EJ h0 J;have z0:=jX h0 0;have c4:w.cell? ⟨qb,4,V⟩=O q4:=EJ hq J;have z4:=jX hq 4;have e1:w.setCell ⟨qb,4,V⟩ (aj 27 (zi k))=bS w qb (ae #[q0,q1,q2,q3,aj 27 (zi k)] 121):=vq hq _;obtain⟨w1,j3⟩:=cg (bS w qb (ae #[q0,q1,q2,q3,aj 27 (zi k)] 121));rw[<- j3] at e1;have rV:w1.heap[b1]?=aN #[o1] 9:=yH;have c1:w1.cell? ⟨b1,0,V⟩=O o1:=EJ rV J;have z1:=jX rV 0;have e2:w1.setCell ⟨b1,0,V⟩ (aT [])=bS w1 b1 (ae #[aT []] 9 (0,0)):=vq rV _;obtain⟨w2,jx⟩:=cg (bS w1 b1 (ae #[aT []] 9 (0,0)));rw[<- jx] at e2;have yd:w2.heap[b2]?=aN #[o2] 57:=yH;have c2:w2.cell? ⟨b2,0,V⟩=O o2:=EJ yd J;have z2:=jX yd 0;have e3:w2.setCell ⟨b2,0,V⟩ (aj 27 (zi k))=bS w2 b2 (ae #[aj 27 (zi k)] 57):=vq yd _;refine callsD_of_wpS func42 J fun AM cs hu=>?_;apply wpS_seq;apply wpS_region;simp [wpOpsS,go_sem,recoverD,hu,ntmps42,a1P];apply afw;apply wpS_seq;apply wpS_region;simp [wpOpsS,go_sem,recoverD,hu,ntmps42,a1P,apG];refine wpS_cond (t:=true) (by simp [a3F]) ?_;simp only[if_true];apply wpS_seq;apply wpS_region;simp [wpOpsS,go_sem,recoverD,hu,ntmps42,a1P];apply wpS_seq;apply wpS_region;simp [wpOpsS,go_sem,recoverD,hu,ntmps42,a1P,c0,z0,c4,z4,e1];have e2':w1.setCell ⟨b1,0,V⟩ (.string { data:=#[] })=w2:=e2;apply wpS_region;simp [wpOpsS,go_sem,recoverD,hu,ntmps42,a1P,c1,z1,c2,z2,e2',e3];simp [Q5,bodyPostS,results,Tryz.results42,j3,jx]
def aMd(h:OD w qb b0 b1 b2 q0 q1 q2 q3 q4 o1 o2)(yj:List PanicEntry) :
  CallsD bbo 42 #[pp b0,pp b1,pp b2] (.panicking ({ v:=aj 134 (.agg #[]),recovered:=false }::yj)) w fun e u' w'=>
   e = ah (ak #[])/\u' = .panicking ({ v:=aj 134 (.agg #[]),recovered:=true }::yj)/\∃ w0,w0=w.alloc (ae #[] 134) /\
   w'=bS (bS (bS w0 qb (ae #[q0,q1,q2,q3,aj 27 (zi 11)] 121)) b1 (ae #[aT []] 9 (0,0))) b2 (ae #[aj 27 (zi 11)] 57):=by
 refine callsD_of_wpS func42 J fun AM cs hu=>?_;apply wpS_seq;apply wpS_region;simp [wpOpsS,go_sem,recoverD,hu,ntmps42,a1P];apply afw;apply wpS_seq;apply wpS_region;simp [wpOpsS,go_sem,recoverD,hu,ntmps42,a1P,aL9];refine wpS_cond (t:=false) (by simp [a3F]) ?_;simp only[a1F,if_false];apply wpS_seq;apply wpS_region;simp [wpOpsS,go_sem,recoverD,hu,ntmps42,a1P,aMa];refine wpS_cond (t:=true) (by simp [a3F]) ?_;simp only[if_true];apply wpS_seq;apply wpS_region;simp [wpOpsS,go_sem,recoverD,hu,ntmps42,a1P];obtain⟨w0,yB⟩:=cg (w.alloc (ae #[] 134));have nZ:Ext w w0:=yF;rw[<- yB];obtain⟨hq,h0,h1,h2,BK,pG,gH⟩:=h;have hq:=nZ.ext _ _ hq;have h0:=nZ.ext _ _ h0;have h1:=nZ.ext _ _ h1;have h2:=nZ.ext _ _ h2;clear yB nZ;have c0:w0.cell? ⟨b0,0,V⟩=O (pp qb):=EJ h0 J;have z0:=jX h0 0;have c4:w0.cell? ⟨qb,4,V⟩=O q4:=EJ hq J;have z4:=jX hq 4;have e1:w0.setCell ⟨qb,4,V⟩ (aj 27 (zi 11))=bS w0 qb (ae #[q0,q1,q2,q3,aj 27 (zi 11)] 121):=vq hq _;obtain⟨w1,j3⟩:=cg (bS w0 qb (ae #[q0,q1,q2,q3,aj 27 (zi 11)] 121));rw[<- j3] at e1;have Lq:w1.heap[qb]?=aN #[q0,q1,q2,q3,aj 27 (zi 11)] 121:=yH;have c4':w1.cell? ⟨qb,4,V⟩=O (aj 27 (zi 11)):=EJ Lq J;have vW:w1.heap[b0]?=aN #[pp qb] 35:=yH;have EK:w1.cell? ⟨b0,0,V⟩=O (pp qb):=EJ vW J;have rV:w1.heap[b1]?=aN #[o1] 9:=yH;have c1:w1.cell? ⟨b1,0,V⟩=O o1:=EJ rV J;have z1:=jX rV 0;have e2:w1.setCell ⟨b1,0,V⟩ (aT [])=bS w1 b1 (ae #[aT []] 9 (0,0)):=vq rV _;obtain⟨w2,jx⟩:=cg (bS w1 b1 (ae #[aT []] 9 (0,0)));rw[<- jx] at e2;have yd:w2.heap[b2]?=aN #[o2] 57:=yH;have c2:w2.cell? ⟨b2,0,V⟩=O o2:=EJ yd J;have z2:=jX yd 0;have e3:w2.setCell ⟨b2,0,V⟩ (aj 27 (zi 11))=bS w2 b2 (ae #[aj 27 (zi 11)] 57):=vq yd _;have e2':w1.setCell ⟨b1,0,V⟩ (.string { data:=#[] })=w2:=e2;apply wpS_seq;apply wpS_region;simp [wpOpsS,go_sem,recoverD,hu,ntmps42,a1P,c0,z0,c4,z4,e1];apply wpS_region;simp [wpOpsS,go_sem,recoverD,hu,ntmps42,a1P,EK,c4',c1,z1,c2,z2,e2',e3];simp [Q5,bodyPostS,results,Tryz.results42,j3,jx]
end
section
variable{p0 p1 p2 p3 p4 p5 p6 p7:Y}{w:Z}{R:Ending->Z->Prop}
def aMf:=cz w R [p0] (gc [] [] []) func43
end
def Q6(F:Nat->Prop)(w:Z)(b:Nat)(x:Ex)(vs:List Bs):Prop:=
 F b/\vs.length<=12/\∃ av a c,w.heap[b]?=aN #[aT [],av,aq V,.slice a vs.length c] 86/\lH F w av [x]
def Q6.afv(F F':Nat->Prop)(w w':Z)(b:Nat)(x:Ex)(vs:List Bs)(a:∀ b,F b->F' b)(hw:∀ b o,F b->w.heap[b]?=O o->w'.heap[b]?=O o)(h:Q6 F w b x vs):Q6 F' w' b x vs:=by
 obtain⟨c,d,av,e,f,g,us,i,j⟩:=h;exact⟨a _ c,d,av,e,f,yH,us,(by grind [fJ.mono]),(by grind [eM.mono])⟩
def aMg{w:Z}(h:SP w pb tb T 0 [] 0):Calls bbo 59 #[pp pb] w (adq Q6 pb w (tX T)):=by
 refine aJE ?_;cases g:gW T (rY T) 0 0 [] 0 with
 | none=>
  obtain⟨r,hr⟩:=(tot T (rY T)).oper 0 0 [] 0 zo (by grind [rY]);grind
 | some q=>
 refine a1a ((acB (rY T)).go h zo g) ?_;rintro e w1 m;cases q with
 | err c a=>
  obtain⟨⟨b,rfl,s,t⟩,f,C⟩:=m;refine bG ?_;refine⟨f,?_⟩;simp only[tX,g];exact⟨b,J,s,t⟩
 | ok x k vs=>
  obtain⟨v,rfl,hx,j,f⟩:=m;have s1:=f.size;obtain⟨cap,n,o,cs,i,D,E,u,F,g0,g1,g2,g3,g4,g5⟩:=j.x;have H:=bh i;refine bG ?_;refine⟨fun _ w'=>w'=w1/\(tk T k).kind=0,?_,?_⟩
  .by_cases l:(tk T k).kind=0
   .have y:(((tk T k).kind:Nat):Int)=0:=zo;refine jk i @g0 @g3 ?_;omega
   .have y:¬ (((tk T k).kind:Nat):Int)=0:=zo;refine jk i @g0 @g3 ?_;refine(PN j).mono ?_;rintro e w2 ⟨p,z,-⟩;have I:=KQ p s1;obtain⟨b,rfl,-,-⟩:=p;refine bG ?_;refine⟨f.trans z,?_⟩;simp only[tX,g,bI l];omega
  .rintro _ w2 ⟨rfl,l⟩ d;obtain⟨xb,rfl⟩:∃ xb,v=pp xb:=by
    cases x;unfold eL at hx;grind
   refine cO i ?_;have B:Ext w2 ((w2.alloc (ae #[pp xb] 106)).alloc (ae #[aT [],cV w2.heap.size 1 1,aq V,.slice n vs.length o] 86)):=yF;refine⟨f.trans B.toM,?_⟩;simp only[tX,g,zip l];refine⟨_,J,⟨zo,by rw[size_alloc,size_alloc];omega⟩,j.nv,_,n,o,rR (by rw[size_alloc]),[pp xb],?_,?_⟩
   .refine .inr ⟨w2.heap.size,#[pp xb],J,yH,?_,zs,J⟩;exact yH
   .unfold eM;refine⟨_,[],J,eL.mono yH yH _ _ hx,?_⟩;unfold eM;rfl
def P.term(s:Bs):cd Ex:=nY tX s
def aMh(s:Bs)(w:Z)(j:s.length<=100000)(l:Ef w):Calls bbo 30 #[aT s] w (Tx Q6 w (P.term s)):=by
 refine aJF ?_;refine(amp Q6.afv (g:=tX) zk s w j l fun _ h _ _=>aMg h).mono ?_;rintro e w1 ⟨i,d⟩;rw[show nY tX s=P.term s from rfl] at d;cases hr:P.term s with
 | err c a=>
  rw[hr] at d;obtain⟨b,rfl,f⟩:=d;refine bG ?_;exact⟨i,b,J,f⟩
 | ok x k vs=>
  rw[hr] at d;obtain⟨b,rfl,f⟩:=d;refine bG ?_;exact⟨i,b,J,f⟩
def apH(v:Y)(n i:Nat)(h:i<n):(madeCells #[v] (n*1))[i]?=O v:=by
 simp [madeCells,h,Nat.mod_one]
def aMi(w:Z)(s:Bs)(e:Ending)(w':Z):Prop:=
 Ext w w'/\match P.term s with
 | .err c a=>∃ b,e = ah (ak #[.string (bs []),aj 73 (aq (O ⟨b,0,V⟩))])/\w'.heap[b]?=O (ae #[.int .i64 c,.int .i64 a] 77 (0,0))
 | .ok x _ vs=>e = ah (ak #[.string (bs (xD vs.length x).out),ai])
def aMj{w:Z}{rb:Nat}{row:Array Y}(a:F rb)(b:w.heap[rb]?=aN row 89)(c:row.size=nv)(d:∀ i,i<nv->row[i]?=O (aj 87 (pp (rb+1+i)))) :
  fJ F w 89 (cV rb nv nv) (mM (fun i=>rb+1+i) (a1t nv)):=by
 refine .inr ⟨rb,row,zg,a,b,zg,?_⟩;apply List.ext_getElem?;grind
def P.apI{s:Bs}{x:Ex}{vs:List Bs}(h:P.term s = .ok x k vs):gR vs.length x/\gy x<=2001:=by
 unfold P.term nY at h;split at h
 .grind
 .rename_i l;split at h
  .grind
  .rename_i T b;have a:=NY b;have f:AP T:=⟨Jc _ _ _ _ (by rw[IU,b]),fun u hu hk=>by
    obtain⟨c,r,e,-⟩:=(a.tok u hu).2.2.1 hk;grind,fun u hu hk=>((a.tok u hu).2.1 hk).2.1⟩
   unfold tX at h;split at h
   .rename_i y k' m d;split at h
    .rename_i n;injection h with g i j;subst g i j;obtain⟨g1,-,g3⟩:=(N1 f _).oper _ _ _ _ _ _ _ d;have o:k'<=T.length:=(TB T _).oper _ _ _ _ _ _ _ d;have:=a.len;grind
    grind
   .grind
   grind
def aMk(s:Bs)(w:Z)(W:s.length<=100000)(X:Ef w)(M:kZ w):Calls bbo 24 #[aT s] w (aMi w s):=by
 refine aJG ?_;refine(aMh s w W X).mono ?_;rintro e w1 ⟨t,q⟩;have s1:=t.size;cases hr:P.term s with
 | err c a=>
  rw[hr] at q;obtain⟨b,rfl,h1⟩:=q;refine bG ?_;refine⟨t,?_⟩;exact yH
 | ok x k vs=>
  rw[hr] at q;obtain⟨cb,rfl,hcN,JI,av,va,vc,y,us,nE,N⟩:=q;obtain⟨B,jh⟩:=P.apI hr;unfold eM at N;obtain⟨xv,r0,rfl,hx,Q⟩:=N;unfold eM at Q;subst Q;obtain⟨ab,C,rfl,vn,wS,D⟩:=nE.at' (j:=0) zs;refine cO y ?_;obtain⟨nv,kP⟩:=cg vs.length;rw[<- kP] at y B JI ⊢;refine⟨fun m z w'=>∃ j row,z 25=zi (j:Nat)/\j<=nv/\m=nv-j/\Ext w1 w'/\w'.heap.size=w1.heap.size+1+j/\w'.heap[w1.heap.size]?=aN row 89/\row.size=nv /\
   (∀ i,i<j->row[i]?=O (aj 87 (pp (w1.heap.size+1+i))))/\(∀ i,i<j->w'.heap[w1.heap.size+1+i]?=aN #[ai] 91),
   ⟨_,0,_,J,Nat.zero_le _,J,by(repeat (first | assumption | exact bB.refl _ _ | (refine bB.bS ?_ (.inr (by(try simp only[zS])<;>omega))) | refine bB.alloc ?_ _ | refine bB.drew ?_)),by rw[size_alloc],rR J,by rw[size_madeCells],fun i R=>zo,fun i R=>zo⟩,?_⟩
  intro m z d w2 hI;refine toPr ?_;obtain⟨j,row,S,hj,rfl,E,s2,q2,F0,eS,De⟩:=hI;have l2:=bh q2;by_cases hlt:j<nv
  .have jV:((j:Nat):Int).toNat=j:=zo;have hjr:j<row.size:=zo;refine jk S @q2 @jV ?_;refine⟨_,zo,j+1,row.setIfInBounds j (aj 87 (pp w2.heap.size)),zs,zo,J,?_,zo,J,yH,?_,?_⟩
   .exact yF
   .exact yH
   exact yH
  .have BW:j=nv:=zo;subst BW;have T:=E.ext _ _ y;have f:=E.ext _ _ wS;have l3:=bh T;have l4:=bh f;have e0:((0:Int)).toNat=0:=rfl;have gx:C[0]?=O xv:=D;refine dM S T f (zA @e0 gx) ?_;obtain⟨g,K8⟩:=cg ((w2.alloc (ae #[bX,zi 1000000] 96)).alloc (ae #[aq V,bX,pp w2.heap.size,.map V] 103));have sB:g.heap.size=w2.heap.size+2:=yH;have He:Ext w2 g:=yF;have qS:g.heap[w2.heap.size]?=aN #[bX,zi 1000000] 96:=yH;have qW:g.heap[w2.heap.size+1]?=aN #[aq V,bX,pp w2.heap.size,.map V] 103:=yH;rw[size_alloc,<- K8];have aXo:Ext w1 g:=yF;have gY:∀ w',Ext w2 w'->C7 (fun i=>w1.heap.size+1+i) j [] w':=fun w' hE'=>⟨yH,fun i R=>⟨ai,(by grind [bB.ext]),J⟩⟩;have JE:∀ i∈a1t j,i<j:=zg;refine a1a (Yx (ρ:=fun i=>w1.heap.size+1+i) (n:=j) (ids:=a1t j) JE 2001 x jh zg
    (eL.mono (F':=fun _=>True) zg (by grind [bB.ext]) _ _ hx) (aMj (F:=fun _=>True) trivial yH F0 eS)) ?_
   rintro e r ⟨H,u,rfl,hu⟩;have I:=H.ext _ _ qS;have K:=H.ext _ _ qW;have L:kZ r:=(((M.ext t).ext E).ext He).ext H;have hgp:4<w.heap.size:=by
    have:=M;unfold kZ Lib.TabIs World.var? at this;rw[Yd] at this;simp only[Option.bind_some] at this;rcases Nat.lt_or_ge 4 w.heap.size with h | h
    .exact h
    .rw[Array.getElem?_eq_none h] at this;cases this
   have L0:xE [] (w2.heap.size+1) w2.heap.size 0 96 #[bX,zi 1000000]:=
    ⟨trivial,zs,zo,zo,zo,zo,zo⟩
   have EL:lU (fun i=>w1.heap.size+1+i) j [] (w2.heap.size+1) w2.heap.size 0 96 #[bX,zi 1000000] (.map V) r ⟨1000000,[],[]⟩:=
    ⟨(by grind [bB.trans]),⟨aq V,bX,yH,K,a1A _ _ _ _⟩,.inl ⟨J,J⟩,I,L,zg⟩
   obtain⟨To,ed⟩:=aeh B zo;refine bG ?_;refine a1a ((cw (4*gy x)).tm (least:=0) L0 ⟨_,EL⟩ hu.toT (Tz _ _ B) (by simp [Ws.cW]) (Nat.le_refl _) To) ?_;rintro e w6 ⟨A4,rfl,YU,h6⟩;refine bG ?_;refine(aew h6.bu ed).mono ?_;rintro e w7 ⟨rfl,zh⟩;refine bG ?_;have l:Ext w r:=yF;refine⟨?_,?_⟩
   .have p:mL (w2.heap.size+1) w2.heap.size r w7:=A4.trans (zh.toW _);refine⟨p.os.trans l.os,p.tape.trans l.tape,p.output.trans l.output,a1d l.size p.size,fun b o U _=>p.block b o (l.ext _ _ U) ?_⟩;have:=bh U;rintro (h | h | ⟨h,_⟩)<;>omega
   exact yH
def aMq(w:Z)(s:Bs)(e:Ending)(w':Z):Prop:=
 Ext w w'/\match P.term s with
 | .err c a=>e = ah (ak #[.string (bs []),.int .i64 c,.int .i64 a])
 | .ok x _ vs=>e = ah (ak #[.string (bs (xD vs.length x).out),.int .i64 0,.int .i64 (-1)])
def afA(s:Bs)(w:Z)(f:s.length<=100000)(g:Ef w)(h:kZ w)(i:BN w):Calls bbo 13 #[aT s] w (aMq w s):=by
 refine aJH ?_;refine(aMk s w f g h).mono ?_;rintro e w1 ⟨j,d⟩;cases hr:P.term s with
 | err c a=>
  rw[hr] at d;obtain⟨b,rfl,l⟩:=d;refine bG ?_;refine(adz b c a w1 l (i.ext j)).mono ?_;rintro e w2 ⟨m,rfl⟩;refine bG ?_;refine⟨yF,?_⟩;grind
 | ok x k vs=>
  rw[hr] at d;subst d;refine bG ?_;refine(XB w1).mono ?_;rintro e w2 ⟨m,rfl⟩;refine bG ?_;refine⟨yF,?_⟩;grind
