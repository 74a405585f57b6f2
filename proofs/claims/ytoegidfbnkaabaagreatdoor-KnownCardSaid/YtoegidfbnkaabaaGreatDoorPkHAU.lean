/- A part of one proof (KW8, KQ1, ShX6, ShX6b, KE1, ShB2, PX3, PX4). -/
import Derived.Test.YtoegidfbnkaabaaGreatDoorPkHAT
import Derived.Recover
import Derived.Tactics
import Derived.Tactics2
set_option linter.all false
set_option maxRecDepth 100000
set_option maxHeartbeats 8000000
open Option renaming some → O, none → V
open Go renaming Value → Y, World → Z
open Bool renaming true → A, false → G
open Go.Obj renaming cells → ae
open Go.Ending renaming returned → ah
open Go.Value renaming nilIface → ai, iface → aj, tuple → ak, pointer → aq
open Option.some renaming injEq → aZ9
open Go.Calls renaming mono → a0c
open Nat renaming le_trans → a0f
open Go.Instr renaming typeAssert → a0t
open Go.World renaming ownsRow_nil → a0z
open List renaming range → a0C
open Bool renaming false_eq_true → a0K
open Go.Exit renaming thenS → a0R
open Go.Value renaming ownBlock → a0T
open Go.Act renaming eval → a2A
open Go.Proofs.Tryz renaming prog → a98
open Go.Proofs.Tryz
namespace Go.Proofs.YtoegidfbnkaabaaGreatDoor
open P
open Go.RowKit Sx
variable{F:Nat->Prop}{T:List P.Tok}{a:Act}{av nm v:Y}{b base e i k mb n nv o pb tb xb:Nat}{cs:Array Y}{s:Bs}{vs:List Y}{w w0:Z}
def xY(l:List Cl)(s:Bs):List Cl:=l.filter fun c=>P.keyOf c.name c.args.length == s
def aK8(l:List Cl)(c:Cl)(s:Bs):xY (l++[c]) s=if P.keyOf c.name c.args.length=s then xY l s++[c] else xY l s:=by
 unfold xY;grind
def ko.Cw{F:Nat->Prop}{w:Z}:∀ {xs:List Cl} {vs:List Y} (j:Nat) (b:j<xs.length),ko F w vs xs->∃ v,vs[j]?=O v/\EP F w v xs[j]
 | x::xs,vs,0,_,⟨u,r,c,d,a⟩=>zg
 | x::xs,vs,j+1,b,⟨u,r,c,d,a⟩=>by
  obtain⟨v,g1,g2⟩:=ko.Cw j zg a;grind
def ko.len{F:Nat->Prop}{w:Z}:∀ {xs:List Cl} {vs:List Y},ko F w vs xs->vs.length=xs.length
 | [],vs,h=>by have h:vs=[]:=h;grind
 | y::c,vs,⟨u,r,a,d,b⟩=>by rw[a];simp [ko.len b]
structure TE(w0 w:Z)(l:List (List UInt8×Y))(cs:List Cl):Prop where
 row:∀ s,match fH s l 0 with
  | none=>xY cs s=[]
  | some (_,v)=>xY cs s≠[]/\∃ vs,w.ownsRow (w0.heap.size+1) 79 1 v (xY cs s).length vs/\ko (fun _=>True) w0 vs (xY cs s)
 sep:∀ s t i j v u,fH s l 0=O (i,v)->fH t l 0=O (j,u)->s≠t->v.ownBlock≠u.ownBlock
def TE.own{l:List (List UInt8×Y)}{cs:List Cl}(h:TE w0 w l cs)(a:fH s l 0=O (i,v)):∃ g,v.ownBlock=O g:=by
 have:=h.row s;rw[a] at this;obtain⟨c,vs,b,-⟩:=this;rcases b.2 with⟨-,d⟩| ⟨g,cap,cur,rfl,-⟩
 .grind
 .exact⟨g,J⟩
theorem TF(h:w.ownsRow base e 1 v n vs)(b:n=vs.length):fD (fun _=>True) w e v vs:=by
 subst b;rcases h.2 with⟨c,a⟩| ⟨g,cap,cur,rfl,a,d,f,i,j,k⟩
 .have a:vs.length=0:=a;exact .inl zg
 .have l:cur.size=cap:=zo;exact .inr yH
def aK9{base:List Cl}(hv:fD (fun _=>True) w 79 v vs)(U:ko (fun _=>True) w vs base)(de:∀ c∈base,c.name.length<=100/\c.args.length<=4)(hn:base.length<=100000) :
  Calls a98 39 #[v] w fun e w'=>Ext w w'/\∃ mb,e = ah (.map (O mb))/\w.heap.size<=mb/\Bn w' mb base:=by
 have IP:vs.length=base.length:=U.len;obtain⟨sa,sc,rfl⟩:=hv.sl;refine aKo ?_;obtain⟨w1,jN⟩:=b9 (w.alloc (eJ []));have XU:w.alloc (.map #[] 0)=w1:=jN.symm;have dB:Ext w w1:=yF;have m1:w1.heap[w.heap.size]?=O (eJ []):=yH;refine bD ?_;rw[XU];refine⟨fun m z w'=>∃ (j:Nat) (l:List (List UInt8×Y)),z 10=zi (j:Nat)/\j<=base.length/\m=base.length-j/\Ext w w'/\w'.heap[w.heap.size]?=O (eJ l)/\TE w w' l (base.take j),
  ⟨_,0,[],J,Nat.zero_le _,J,dB,m1,⟨(by grind [fH,xY]),(by grind [fH])⟩⟩,?_⟩
 intro m z d w2 hI;refine toPr ?_;obtain⟨j,l,W,hj,rfl,C,m2,D⟩:=hI;by_cases hlt:j<base.length
 .obtain⟨rb,rcs,M,-,N,K⟩:=hv.at' (j:=j) zo;obtain⟨cv,e2,jb⟩:=U.Cw j hlt;rw[e2] at K;simp only[Value.slice.injEq,true_and] at M;obtain⟨rfl,rfl⟩:=M;obtain⟨cb,cav,cbv,XG,Tp,rfl,-,gF,⟨xus,lu,xo⟩,nE⟩:=id jb;obtain⟨xa,xc,rfl⟩:=lu.sl;have Jz:xus.length=(base[j]).args.length:=eH.Fg xo;have r2':=C.ext _ _ N;have II:=C.ext _ _ gF;have qq:(j:Int)<(base.length:Int):=zo;have ej:(j:Int).toNat=j:=zo;obtain⟨my,kT⟩:=de _ (List.getElem_mem hlt);refine dC IP W @r2' (zA @K (zA II @ej)) ?_;rw[Jz];refine a0c (an8 (base[j]).name (base[j]).args.length my zo _) ?_;rintro e w3 ⟨rfl,rfl⟩;have m3:w2.drew.heap[w.heap.size]?=O (eJ l):=m2;obtain⟨key,ON⟩:=b9 (P.keyOf (base[j]).name (base[j]).args.length);rw[<- ON];refine bD ?_;rw[KV (k:=9) (e:=68) zk zk (z:=bH) zk m3];have X:=D.row key;obtain⟨F,ja⟩:=b9 (w2.drew.alloc (ae #[pp cb] 79));have y:Ext w2 F:=yF;have g4:F.heap[w2.heap.size]?=aN #[pp cb] 79:=yH;have m4:=y.ext _ _ m2;have s2:=C.size;have s4:=y.size;have aa7:w.heap.size<w2.heap.size:=yH;have Q:∀ {x:Y} {n:Nat} {xs:List Y},F.ownsRow (w.heap.size+1) 79 1 x n xs->O w.heap.size≠x.ownBlock:=fun h e=>by
   rcases h.2 with⟨a,-⟩| ⟨g,cap,cur,a,f,-⟩
   .rw[a] at e;cases e
   grind [a0T,aZ9]
  have kR:∀ {x v':Y} {n:Nat} {xs:List Y} {q:Z} {l':List (List UInt8×Y)},F.ownsRow (w.heap.size+1) 79 1 x n xs->q.ownsRow (w.heap.size+1) 79 1 v' (n+1) (xs++[pp cb]) ->
    F.grownBy q x.ownBlock->(v'.ownBlock=x.ownBlock\/∀ k,v'.ownBlock=O k->F.heap.size<=k)->n=(xY (base.take j) key).length->ko (fun _=>True) w xs (xY (base.take j) key) ->
    (∀ t i u,t≠key->fH t l 0=O (i,u)->u.ownBlock≠x.ownBlock)->(∀ t,t≠key->fH t l' 0=fH t l 0)->(∃ i,fH key l' 0=O (i,v')) ->
    Ext w (bO q w.heap.size (eJ l'))/\(bO q w.heap.size (eJ l')).heap[w.heap.size]?=O (eJ l')/\TE w (bO q w.heap.size (eJ l')) l' (base.take (j+1)):=by
   intro x v' n xs q l' hx DE E dR xE aLc dZ fY R;obtain⟨ik,R⟩:=R;have S:q.heap[w.heap.size]?=O (eJ l):=by rw[E.block _ (bf m4) (Q hx)];exact m4
   have lm5:=bf S;have lX:Ext w q:=⟨E.os.trans (y.os.trans C.os),E.tape.trans (y.tape.trans C.tape),E.output.trans (y.output.trans C.output),zo,fun b o hb _=>by
    rw[E.block b (yH) (fun e=>?_)]
    .exact y.ext _ _ (C.ext _ _ hb)
    .have:=bf hb;rcases hx.2 with⟨a,-⟩| ⟨g,cap,cur,a,f,-⟩
     .rw[a] at e;cases e
     grind [a0T,aZ9]⟩
   have hold:∀ {u:Y} {k:Nat} {us:List Y},w2.ownsRow (w.heap.size+1) 79 1 u k us->∀ g,u.ownBlock=O g->g<F.heap.size:=fun h g E=>by
    rcases h.2 with⟨a,-⟩| ⟨g',cap,cur,a,f,r,-⟩
    .rw[a] at E;cases E
    grind [a0T,aZ9,bf]
   refine⟨yF,yH,?_,?_⟩
   .intro t;rw[List.take_succ_eq_append_getElem hlt,aK8,<- ON];by_cases ht:key=t
    .subst ht;rw[zip J,R];simp only;refine⟨zs,xs++[pp cb],?_,aLc.snoc jb⟩;grind [List.length_append,List.length_singleton,Iz,a0T,aZ9]
    .rw[bX ht,fY t (fun e=>ht e.symm)];have hr:=D.row t;cases L:fH t l 0 with
     | none=>exact yH
     | some p=>
      obtain⟨i,u⟩:=p;rw[L] at hr;obtain⟨a,us,f,r⟩:=hr;refine⟨a,us,?_,r⟩;have B:F.ownsRow (w.heap.size+1) 79 1 u (xY (base.take j) t).length us:=jM y.ext f;have aLd:=dZ t i u (fun e=>ht e.symm) L;have h5:q.ownsRow (w.heap.size+1) 79 1 u (xY (base.take j) t).length us:=by
       refine⟨B.1,?_⟩;rcases B.2 with h6 | ⟨g,cap,cur,M,e2,e3,e4⟩
       .exact yH
       .refine .inr ⟨g,cap,cur,M,e2,?_,e4⟩;rw[E.block g (bf e3) (fun e=>aLd (by rw[M,<- e];rfl))];omega
      grind [Iz]
   .intro s t i i' u u' a f gS;by_cases hs:s=key
    .subst hs;rw[R] at a;cases a;rw[fY t (fun e=>gS e.symm)] at f;have hr:=D.row t;rw[f] at hr;obtain⟨_,us,r,-⟩:=hr;obtain⟨g,H⟩:=D.own f;rcases dR with B | B
     .rw[B];exact fun e=>dZ t i' u' (fun e=>gS e.symm) f e.symm
     .intro e;have h5:=B g (by rw[e];exact H);have h6:=hold r g H;omega
    .rw[fY s hs] at a;by_cases ht:t=key
     .subst ht;rw[R] at f;cases f;have hr:=D.row s;rw[a] at hr;obtain⟨_,us,r,-⟩:=hr;obtain⟨g,H⟩:=D.own a;rcases dR with B | B
      .rw[B];exact dZ s i u hs a
      .intro e;have h5:=B g (by rw[<- e];exact H);have h6:=hold r g H;omega
     .rw[fY t ht] at f;exact D.sep s t i i' u u' a f gS
  have aLe:(xY (base.take j) key).length<=100000:=a0f (List.length_filter_le _ _) zg;cases hk:fH key l 0 with
  | none=>
   rw[hk] at X;simp only;refine bD ?_;rw[<- ja];refine abR (base:=w.heap.size+1) (a0z _ _ _ _) g4 J zo zo ?_;intro v' q I T xQ;have S:q.heap[w.heap.size]?=O (eJ l):=by rw[T.block _ (bf m4) (by intro e;cases e)];omega
   rw[xX (k:=9) (e:=68) zk zk S key hk];obtain⟨r1,N,K⟩:=kR (l':=l++[(key,v')]) (a0z _ _ _ _) I T xQ zg (by rw[show xY (base.take j) key=[] from X];rfl)
    (fun t i u _ L=>by obtain⟨g,H⟩:=D.own L;rw[H];intro e;cases e)
    (fun t ht=>by rw[XT];grind) ⟨0+l.length,by grind [XT]⟩
   refine cG W ?_;exact⟨base.length-(j+1),zo,j+1,l++[(key,v')],zg,zo,J,r1,N,K⟩
  | some p=>
   obtain⟨i,x⟩:=p;rw[hk] at X;obtain⟨a,us,f,r⟩:=X;simp only;obtain⟨xa',xc',rm⟩:=gX f;refine bD ?_;rw[<- ja];refine abR (base:=w.heap.size+1) (jM y.ext f) g4 J aLe zo ?_;intro v' q I T xQ;have S:q.heap[w.heap.size]?=O (eJ l):=by rw[T.block _ (bf m4) (Q (jM y.ext f))];omega
   rw[aoA (k:=9) (e:=68) zk zk S key hk];have Cc:=fun s=>aoz (s:=s) (v:=v') hk;rw[Nat.sub_zero] at Cc;obtain⟨r1,N,K⟩:=kR (l':=l.set i (key,v')) (jM y.ext f) I T xQ J r
    (by grind [TE.sep])
    zg zg
   refine cG W ?_;exact⟨base.length-(j+1),zo,j+1,l.set i (key,v'),zg,zo,J,r1,N,K⟩
 .have fx:j=base.length:=zo;subst fx;refine dy IP W ?_;refine⟨C,_,J,Nat.le_refl _,(oC l 0).toArray,l.length,m2,by grind [P1],fun name n hn4=>?_⟩;rw[List.toList_toArray,P2];have hr:=D.row (P.keyOf name n);rw[List.take_length] at hr;have iz:xY base (P.keyOf name n)=GV base name n:=by
   unfold xY GV;refine List.filter_congr fun c U=>?_;have:=(de c U).2;rw[Bool.eq_iff_iff];simp only[beq_iff_eq,Bool.and_eq_true];grind [P.aeg]
  rw[iz] at hr;cases L:fH (P.keyOf name n) l 0 with
  | none=>grind
  | some p=>
   rw[L] at hr;obtain⟨a,us,f,r⟩:=hr;exact⟨a,us,TF f r.len.symm,r.iZ (eM.ea C)⟩
def aLf{u:Option Addr}{body:Bd}(y:n<=100000)(m:w.heap[b]?=aN #[nm,av,pp xb,.slice u n pb] 86)
  (z:dJ (fun _=>True) w (pp xb) body) :
  Calls a98 38 #[.map (O mb),pp b] w fun e w'=>Ext w w'/\∃ q fb ρ todo,e = ah (pp q)/\w.heap.size<=q /\
   fD (fun _=>True) w' 89 (cM fb n n) (mm ρ (a0C n)) /\
   ∀ D:Nat->Prop,(∀ b,w.heap.size<=b->D b)->kl D ρ q mb todo bH (cM fb n n) bH [] w' (Wk.new body n):=by
 refine anY ?_;refine cG m ?_;refine a0c (an0 n y w) ?_;rintro e w1 ⟨r,s1,vcs,rfl,U,B,C⟩;have d:=r.ext _ _ m;have W:=bf d;refine cG d ?_;obtain⟨w2,E⟩:=b9 (w1.alloc (ae #[.map (O mb),bH,zi 0,aq V,bH,cM w.heap.size n n] 130));have F:w1.alloc (ae (Value.agg #[.map (O mb),bH,zi 0,aq V,bH,cM w.heap.size n n]).cells 130 (0,0))=w2:=E.symm;rw[F];have H:Ext w1 w2:=yF;have g2:w2.heap[w1.heap.size]?=aN #[.map (O mb),bH,zi 0,aq V,bH,cM w.heap.size n n] 130:=yH;have s2:w2.heap.size=w1.heap.size+1:=yH;have s:=H.ext _ _ d;have X:=bf g2;refine⟨fun w'=>w'.heap[b]?=w2.heap[b]?,J,?_⟩;rw[jx];refine cQ (pq b 2) (fun w' a=>by rw[s] at a;exact fg a) (cQ (pp xb) (fun w' a=>by rw[s] at a;have:=bf a;exact fg a) ?_);refine cG @g2 ?_;obtain⟨w3,I⟩:=b9 (w2.drew.alloc (ae #[pp xb,cM w.heap.size n n,zi 0,aq V] 207));have K:Ext w2 w3:=yF;have g3:w3.heap[w2.heap.size]?=aN #[pp xb,cM w.heap.size n n,zi 0,aq V] 207:=yH;have e3:w2.drew.heap.size=w2.heap.size:=rfl;rw[<- I];have AB:Ext w w3:=yF;have L:=K.ext _ _ g2;have l3:=bf L;obtain⟨c,M⟩:=b9 (bO w3 w1.heap.size (ae #[.map (O mb),bH,zi 0,pp w2.heap.size,bH,cM w.heap.size n n] 130));rw[<- M];have f:=r.size;have t:Ext w c:=yF;have N:∀ x o,x≠w1.heap.size->w3.heap[x]?=O o->c.heap[x]?=O o:=yH;have c4:c.heap[w1.heap.size]?=aN #[.map (O mb),bH,zi 0,pp w2.heap.size,bH,cM w.heap.size n n] 130:=yH;have P:∀ j,j<n->c.heap[w.heap.size+1+j]?=aN #[ai] 91:=yH;have Q:c.heap[w.heap.size]?=aN vcs 89:=yH;have h:=an1 (ρ:=fun _=>0) (n:=0) Q B (fun j R=>(C j R).1);rw[<- List.range_eq_range'] at h;refine⟨t,w1.heap.size,w.heap.size,xR (fun _=>0) 0 (w.heap.size+1),pp w2.heap.size,J,f,h,fun D hD=>?_⟩;have S:∀ i,xR (fun _=>0) 0 (w.heap.size+1) i=w.heap.size+1+i:=(by grind [xR]);refine⟨⟨⟨yH,fun i k=>⟨ai,by rw[S];exact P i k,J⟩⟩,yH,c4,a0z _ _ _ _,fun g l=>(by cases l),yH,List.nodup_nil,(fun p T=>by cases T),trivial⟩,
  ⟨_,_,_,_,J,N _ _ zo g3,dJ.iZ (eM.ea t) z,h,fun i k=>List.mem_range.1 k,J⟩,a0z _ _ _ _,J,fun g l=>(by cases l)⟩
def P4(F:Nat->Prop)(w:Z)(b:Nat)(x:Bd)(vs:List Bs):Prop:=
 F b/\vs.length<=12/\∃ xb a c,w.heap[b]?=aN #[aM [],bH,pp xb,.slice a vs.length c] 86/\dJ F w (pp xb) x /\
  fD F w 9 (.slice a vs.length c) (vs.map fun s=>aM s)
def P4.aet(F F':Nat->Prop)(w w':Z)(b:Nat)(x:Bd)(vs:List Bs)(a:∀ b,F b->F' b)(hw:∀ b o,F b->w.heap[b]?=O o->w'.heap[b]?=O o)(h:P4 F w b x vs):P4 F' w' b x vs:=by
 obtain⟨c,d,xb,e,f,g,i,j⟩:=h;exact⟨a _ c,d,xb,e,f,yH,(by grind [dJ.mono]),(by grind [fD.mono])⟩
def aLh(h:w.ownsRow base e 1 v n vs)(c:n=vs.length)(d:∀ b cs,base<=b->w.heap[b]?=aN cs e->F b):fD F w e v vs:=by
 subst c;rcases h.2 with⟨f,a⟩| ⟨g,cap,cur,rfl,a,i,j,k,l,m⟩
 .have a:vs.length=0:=a;exact .inl zg
 .have o:cur.size=cap:=zo;exact .inr yH
def aLi(h:SP w pb tb T 0 [] 0)(z:mF w tb)(L:w.heap.size=pb+1):Calls a98 76 #[pp pb] w (acm P4 pb w (tl T)):=by
 refine aG3 ?_;cases l:mw T (tg T) 0 [] 0 with
 | none=>
  obtain⟨r,hr⟩:=(totB T (tg T)).body 0 [] 0 (by grind [tg]);grind
 | some q=>
 refine a0c ((ak0 (tg T)).go h z zo l) ?_;rintro e w1 p;cases q with
 | err c a=>
  obtain⟨⟨b,rfl,B,C⟩,g,M⟩:=p;refine bD ?_;refine⟨g,?_⟩;simp only[tl,l];exact⟨b,J,B,C⟩
 | ok x k vs=>
  obtain⟨v,rfl,hx,s,g⟩:=p;obtain⟨xb,rfl,-⟩:=hx.shape;have s1:=g.size;have N:=s.yv;cases i:mZ T [46] x k vs with
  | none=>unfold mZ at i;split at i<;>cases i
  | some P=>
  refine bD ?_;refine(abU s [46] zd x i).mono ?_;rintro e w2 ⟨m,(⟨rfl,hr,n⟩| ⟨c,a,hr,j⟩)⟩
  .have s2:=m.size;obtain⟨cap,t,u,cs,f,Q,R,D,S,g0,g1,g2,g3,g4,g5⟩:=n.x;have U:=bf f;refine bD ?_;refine⟨fun _ w'=>w'=w2/\(tk T (k+1)).kind=0,?_,?_⟩
   .by_cases o:(tk T (k+1)).kind=0
    .have E:(((tk T (k+1)).kind:Nat):Int)=0:=zo;refine iJ f @g0 @g3 ?_;omega
    .have E:¬ (((tk T (k+1)).kind:Nat):Int)=0:=zo;refine iJ f @g0 @g3 ?_;refine(OH n).mono ?_;rintro e w3 ⟨j,F,-⟩;have H:=JX j (a0f s1 s2);obtain⟨b,rfl,-,-⟩:=j;refine bD ?_;refine⟨(g.trans m).trans F,?_⟩;simp only[tl,l,i,hr,bX o];omega
   .rintro _ w3 ⟨rfl,o⟩ d;refine cG f ?_;have y:Ext w3 (w3.alloc (ae #[aM [],bH,pp xb,.slice t vs.length u] 86)):=yF;refine⟨(g.trans m).trans y.toM,?_⟩;simp only[tl,l,i,hr,zip o];obtain⟨W,I,q1,q2,q3,q4⟩:=n.yv;rw[q3] at f;injection f with f;injection f with f _ _;have f:=congrArg (fun a:Array Y=>a[1]?) f;simp only[List.getElem?_toArray,List.getElem?_cons_succ,List.getElem?_cons_zero,aZ9] at f;subst f;refine⟨_,J,yH,n.nv,xb,t,u,yH,?_,?_⟩
    .have K:dJ (Nu w w3) w3 (pp xb) x:=dJ.mono zg (by grind [cY.ll]) _ _ hx;exact dJ.mono (by grind [size_alloc]) yH _ _ K
    .refine aLh (jM y.ext q4) zs yH
  .have H:=JX j s1;obtain⟨b,rfl,-,-⟩:=j;refine bD ?_;refine⟨g.trans m,?_⟩;grind [tl]
def aoC(s:Bs)(w:Z)(j:s.length<=100000)(l:DA w)(hC:mF w w.heap.size):Calls a98 37 #[aM s] w (Sz P4 w (rv tl s)):=by
 refine aG4 ?_;refine(alk P4.aet (g:=tl) zk s w j l fun _ h m n=>aLi h (m hC) n).mono ?_;rintro e w1 ⟨i,d⟩;cases hr:rv tl s with
 | err c a=>
  rw[hr] at d;obtain⟨b,rfl,f⟩:=d;refine bD ?_;exact⟨i,b,J,f⟩
 | ok x k vs=>
  rw[hr] at d;obtain⟨b,rfl,f⟩:=d;refine bD ?_;exact⟨i,b,J,f⟩
open Go.Proofs.YtoegidfbnkaabaaGreatDoor.Sx
section
variable{p0 p1 p2 p3 p4 p5 p6 p7:Y}{w:Z}{R:Ending->Z->Prop}
def aLj:=cz w R [p0] (gc [] [] [13]) func25
def aLk:=cz w R [p0] (gc [] [] []) func40
def aLl:=cz w R [p0] (gc [] [] []) func16
def aLm:=cz w R [p0] (gc [] [] []) func14
end
section
variable{p0 p1 p2 p3 p4 p5 p6 p7:Y}{w:Z}{R:Ending->Z->Prop}
def aLn:=cy w R [p0] (gd [(10,[49])] [(14001,[]),(16001,[])] [(16,11)] [(2,[6,0,1,2,3,4,5]),(7,[6,0,1,2,3,4,5])] [] [] [11,27,28,50,68,69,74,83,104]) func27
end
def aoD(w:Z):(a0t ai 20 27 A).run a98 w = .ok (ak #[zi 0,.bool G]) w:=zk
def aoE(v:Y)(w:Z):(a0t (aj 27 v) 20 27 A).run a98 w = .ok (ak #[v,.bool A]) w:=zk
def aLo(w:Z):(a0t ai 20 134 A).run a98 w = .ok (ak #[.agg #[],.bool G]) w:=zk
def aLp(v:Y)(w:Z):(a0t (aj 134 v) 20 27 A).run a98 w = .ok (ak #[zi 0,.bool G]) w:=zk
def aLq(v:Y)(w:Z):(a0t (aj 134 v) 20 134 A).run a98 w = .ok (ak #[v,.bool A]) w:=zk
def P5(id:Nat)(Q:Exit->Act->List Frame->Z->Prop):Exit->Act->List Frame->Z->Prop
 | .exit b,a,cs,w=>if b=id then Q .normal a cs w else Q (.exit b) a cs w
 | e,a,cs,w=>Q e a cs w
def aeu{P:Program}{Q:Exit->Act->List Frame->Z->Prop}{cs:List Frame}{id:Nat}{c:Code}(h:c.wpS P (P5 id Q) a cs w):(Code.block id c).wpS P Q a cs w:=fun b k m hr=>by
 obtain⟨e,d,f,w1,g,i⟩:=h b (.inBlock id::k) m hr;cases e with
 | normal=>exact⟨.normal,d,f,w1,g,.head step_block (Steps.trans i (.one step_inBlock))⟩
 | exit j=>
  by_cases hid:j=id
  .have g:Q .normal d f w1:=by grind [P5,hid]
   exact⟨.normal,d,f,w1,g,.head step_block (i k (by simp [exitTo,hid]))⟩
  .have g:Q (.exit j) d f w1:=by grind [P5,hid]
   refine⟨.exit j,d,f,w1,g,fun k' hk=>.head step_block (i k' ?_)⟩;grind [id,hid,exitTo]
 | goto l=>exact⟨_,d,f,w1,g,fun k' hk=>.head step_block (i k' (by grind [gotoIn]))⟩
 | ret=>exact⟨_,d,f,w1,g,.of_steps (.one step_block) i⟩
 | panic n=>exact⟨_,d,f,w1,g,.of_steps (.one step_block) i⟩
 | outgrown=>exact⟨_,d,f,w1,g,.of_steps (b:=b) (k:=k) (e:=.outgrown) (.one step_block) i⟩
def aLr(v0 v1 v2:Y)(w:Z):CallsD a98 42 #[v0,v1,v2] .returning w fun e u' w'=>e = ah (ak #[])/\u' = .returning/\w'=w:=by
 refine callsD_of_wpS func42 J fun Ak cs hu=>?_;apply wpS_seq;apply wpS_region;simp [wpOpsS,go_sem,recoverD,hu,ntmps42,a0R];apply aeu;apply wpS_seq;apply wpS_region;simp [wpOpsS,go_sem,recoverD,hu,ntmps42,a0R,aoD];refine wpS_cond (t:=false) (by simp [a2A]) ?_;simp only[a0K,if_false];apply wpS_seq;apply wpS_region;simp [wpOpsS,go_sem,recoverD,hu,ntmps42,a0R,aLo];refine wpS_cond (t:=false) (by simp [a2A]) ?_;simp only[a0K,if_false];refine wpS_of_wp (wp_skip ?_);cases Ak;simp_all [P5,bodyPostS,results,Tryz.results42]
section
variable{w:Z}{qb b0 b1 b2:Nat}{q0 q1 q2 q3 q4 o1 o2:Y}
structure Nv(w:Z)(qb b0 b1 b2:Nat)(q0 q1 q2 q3 q4 o1 o2:Y):Prop where
 q:w.heap[qb]?=aN #[q0,q1,q2,q3,q4] 121
 x0:w.heap[b0]?=aN #[pp qb] 35
 x1:w.heap[b1]?=aN #[o1] 9
 x2:w.heap[b2]?=aN #[o2] 57
 lt:qb<b0/\b0<b1/\b1<b2
def D4{w:Z}{T:Nat}(h:w.heap[b]?=aN cs T)(hv:cs[o]?=O v):w.cell? ⟨b,o,V⟩=O v:=by
 grind [World.cell?]
def aLs(h:Nv w qb b0 b1 b2 q0 q1 q2 q3 q4 o1 o2)(k:Int)(xH:List PanicEntry) :
  CallsD a98 42 #[pp b0,pp b1,pp b2] (.panicking ({ v:=aj 27 (zi k),recovered:=false }::xH)) w fun e u' w'=>
   e = ah (ak #[])/\u' = .panicking ({ v:=aj 27 (zi k),recovered:=true }::xH) /\
   w'=bO (bO (bO w qb (ae #[q0,q1,q2,q3,aj 27 (zi k)] 121)) b1 (ae #[aM []] 9 (0,0))) b2 (ae #[aj 27 (zi k)] 57):=by
 obtain⟨hq,h0,h1,h2,A7,qf,gy⟩:=h;have c0:w.cell? ⟨b0,0,V⟩=O (pp qb):=D4 h0 J;have z0:=jL h0 0;have c4:w.cell? ⟨qb,4,V⟩=O q4:=D4 hq J;have z4:=jL hq 4;have e1:w.setCell ⟨qb,4,V⟩ (aj 27 (zi k))=bO w qb (ae #[q0,q1,q2,q3,aj 27 (zi k)] 121):=uO hq _;obtain⟨w1,jN⟩:=b9 (bO w qb (ae #[q0,q1,q2,q3,aj 27 (zi k)] 121));rw[<- jN] at e1;have Af:w1.heap[b1]?=aN #[o1] 9:=yH;have c1:w1.cell? ⟨b1,0,V⟩=O o1:=D4 Af J;have z1:=jL Af 0;have e2:w1.setCell ⟨b1,0,V⟩ (aM [])=bO w1 b1 (ae #[aM []] 9 (0,0)):=uO Af _;obtain⟨w2,jV⟩:=b9 (bO w1 b1 (ae #[aM []] 9 (0,0)));rw[<- jV] at e2;have xC:w2.heap[b2]?=aN #[o2] 57:=yH;have c2:w2.cell? ⟨b2,0,V⟩=O o2:=D4 xC J;have z2:=jL xC 0;have e3:w2.setCell ⟨b2,0,V⟩ (aj 27 (zi k))=bO w2 b2 (ae #[aj 27 (zi k)] 57):=uO xC _;refine callsD_of_wpS func42 J fun Ak cs hu=>?_;apply wpS_seq;apply wpS_region;simp [wpOpsS,go_sem,recoverD,hu,ntmps42,a0R];apply aeu;apply wpS_seq;apply wpS_region;simp [wpOpsS,go_sem,recoverD,hu,ntmps42,a0R,aoE];refine wpS_cond (t:=true) (by simp [a2A]) ?_;simp only[if_true];apply wpS_seq;apply wpS_region;simp [wpOpsS,go_sem,recoverD,hu,ntmps42,a0R];apply wpS_seq;apply wpS_region;simp [wpOpsS,go_sem,recoverD,hu,ntmps42,a0R,c0,z0,c4,z4,e1];have e2':w1.setCell ⟨b1,0,V⟩ (.string { data:=#[] })=w2:=e2;apply wpS_region;simp [wpOpsS,go_sem,recoverD,hu,ntmps42,a0R,c1,z1,c2,z2,e2',e3];simp [P5,bodyPostS,results,Tryz.results42,jN,jV]
def aLt(h:Nv w qb b0 b1 b2 q0 q1 q2 q3 q4 o1 o2)(xH:List PanicEntry) :
  CallsD a98 42 #[pp b0,pp b1,pp b2] (.panicking ({ v:=aj 134 (.agg #[]),recovered:=false }::xH)) w fun e u' w'=>
   e = ah (ak #[])/\u' = .panicking ({ v:=aj 134 (.agg #[]),recovered:=true }::xH)/\∃ w0,w0=w.alloc (ae #[] 134) /\
   w'=bO (bO (bO w0 qb (ae #[q0,q1,q2,q3,aj 27 (zi 11)] 121)) b1 (ae #[aM []] 9 (0,0))) b2 (ae #[aj 27 (zi 11)] 57):=by
 refine callsD_of_wpS func42 J fun Ak cs hu=>?_;apply wpS_seq;apply wpS_region;simp [wpOpsS,go_sem,recoverD,hu,ntmps42,a0R];apply aeu;apply wpS_seq;apply wpS_region;simp [wpOpsS,go_sem,recoverD,hu,ntmps42,a0R,aLp];refine wpS_cond (t:=false) (by simp [a2A]) ?_;simp only[a0K,if_false];apply wpS_seq;apply wpS_region;simp [wpOpsS,go_sem,recoverD,hu,ntmps42,a0R,aLq];refine wpS_cond (t:=true) (by simp [a2A]) ?_;simp only[if_true];apply wpS_seq;apply wpS_region;simp [wpOpsS,go_sem,recoverD,hu,ntmps42,a0R];obtain⟨w0,xZ⟩:=b9 (w.alloc (ae #[] 134));have mU:Ext w w0:=yF;rw[<- xZ];obtain⟨hq,h0,h1,h2,A7,qf,gy⟩:=h;have hq:=mU.ext _ _ hq;have h0:=mU.ext _ _ h0;have h1:=mU.ext _ _ h1;have h2:=mU.ext _ _ h2;clear xZ mU;have c0:w0.cell? ⟨b0,0,V⟩=O (pp qb):=D4 h0 J;have z0:=jL h0 0;have c4:w0.cell? ⟨qb,4,V⟩=O q4:=D4 hq J;have z4:=jL hq 4;have e1:w0.setCell ⟨qb,4,V⟩ (aj 27 (zi 11))=bO w0 qb (ae #[q0,q1,q2,q3,aj 27 (zi 11)] 121):=uO hq _;obtain⟨w1,jN⟩:=b9 (bO w0 qb (ae #[q0,q1,q2,q3,aj 27 (zi 11)] 121));rw[<- jN] at e1;have TD:w1.heap[qb]?=aN #[q0,q1,q2,q3,aj 27 (zi 11)] 121:=yH;have c4':w1.cell? ⟨qb,4,V⟩=O (aj 27 (zi 11)):=D4 TD J;have vA:w1.heap[b0]?=aN #[pp qb] 35:=yH;have D5:w1.cell? ⟨b0,0,V⟩=O (pp qb):=D4 vA J;have Af:w1.heap[b1]?=aN #[o1] 9:=yH;have c1:w1.cell? ⟨b1,0,V⟩=O o1:=D4 Af J;have z1:=jL Af 0;have e2:w1.setCell ⟨b1,0,V⟩ (aM [])=bO w1 b1 (ae #[aM []] 9 (0,0)):=uO Af _;obtain⟨w2,jV⟩:=b9 (bO w1 b1 (ae #[aM []] 9 (0,0)));rw[<- jV] at e2;have xC:w2.heap[b2]?=aN #[o2] 57:=yH;have c2:w2.cell? ⟨b2,0,V⟩=O o2:=D4 xC J;have z2:=jL xC 0;have e3:w2.setCell ⟨b2,0,V⟩ (aj 27 (zi 11))=bO w2 b2 (ae #[aj 27 (zi 11)] 57):=uO xC _;have e2':w1.setCell ⟨b1,0,V⟩ (.string { data:=#[] })=w2:=e2;apply wpS_seq;apply wpS_region;simp [wpOpsS,go_sem,recoverD,hu,ntmps42,a0R,c0,z0,c4,z4,e1];apply wpS_region;simp [wpOpsS,go_sem,recoverD,hu,ntmps42,a0R,D5,c4',c1,z1,c2,z2,e2',e3];simp [P5,bodyPostS,results,Tryz.results42,jN,jV]
end
section
variable{p0 p1 p2 p3 p4 p5 p6 p7:Y}{w:Z}{R:Ending->Z->Prop}
def aLv:=cz w R [p0] (gc [] [] []) func43
end
def P6(F:Nat->Prop)(w:Z)(b:Nat)(x:Ex)(vs:List Bs):Prop:=
 F b/\vs.length<=12/\∃ av a c,w.heap[b]?=aN #[aM [],av,aq V,.slice a vs.length c] 86/\ln F w av [x]
def P6.aet(F F':Nat->Prop)(w w':Z)(b:Nat)(x:Ex)(vs:List Bs)(a:∀ b,F b->F' b)(hw:∀ b o,F b->w.heap[b]?=O o->w'.heap[b]?=O o)(h:P6 F w b x vs):P6 F' w' b x vs:=by
 obtain⟨c,d,av,e,f,g,us,i,j⟩:=h;exact⟨a _ c,d,av,e,f,yH,us,(by grind [fD.mono]),(by grind [eH.mono])⟩
def aLw(h:SP w pb tb T 0 [] 0):Calls a98 59 #[pp pb] w (acm P6 pb w (Gr T)):=by
 refine aIU ?_;cases g:jo T (tg T) 0 0 [] 0 with
 | none=>
  obtain⟨r,hr⟩:=(tot T (tg T)).oper 0 0 [] 0 zo (by grind [tg]);grind
 | some q=>
 refine a0c ((abu (tg T)).go h zo g) ?_;rintro e w1 m;cases q with
 | err c a=>
  obtain⟨⟨b,rfl,s,t⟩,f,C⟩:=m;refine bD ?_;refine⟨f,?_⟩;simp only[Gr,g];exact⟨b,J,s,t⟩
 | ok x k vs=>
  obtain⟨v,rfl,hx,j,f⟩:=m;have s1:=f.size;obtain⟨cap,n,o,cs,i,D,E,u,F,g0,g1,g2,g3,g4,g5⟩:=j.x;have H:=bf i;refine bD ?_;refine⟨fun _ w'=>w'=w1/\(tk T k).kind=0,?_,?_⟩
  .by_cases l:(tk T k).kind=0
   .have y:(((tk T k).kind:Nat):Int)=0:=zo;refine iJ i @g0 @g3 ?_;omega
   .have y:¬ (((tk T k).kind:Nat):Int)=0:=zo;refine iJ i @g0 @g3 ?_;refine(OH j).mono ?_;rintro e w2 ⟨p,z,-⟩;have I:=JX p s1;obtain⟨b,rfl,-,-⟩:=p;refine bD ?_;refine⟨f.trans z,?_⟩;simp only[Gr,g,bX l];omega
  .rintro _ w2 ⟨rfl,l⟩ d;obtain⟨xb,rfl⟩:∃ xb,v=pp xb:=by
    cases x;unfold eG at hx;grind
   refine cG i ?_;have B:Ext w2 ((w2.alloc (ae #[pp xb] 106)).alloc (ae #[aM [],cM w2.heap.size 1 1,aq V,.slice n vs.length o] 86)):=yF;refine⟨f.trans B.toM,?_⟩;simp only[Gr,g,zip l];refine⟨_,J,⟨zo,by rw[size_alloc,size_alloc];omega⟩,j.nv,_,n,o,qG (by rw[size_alloc]),[pp xb],?_,?_⟩
   .refine .inr ⟨w2.heap.size,#[pp xb],J,yH,?_,zs,J⟩;exact yH
   .unfold eH;refine⟨_,[],J,eG.mono yH yH _ _ hx,?_⟩;unfold eH;rfl
def P.term(s:Bs):cg Ex:=rv Gr s
def aLx(s:Bs)(w:Z)(j:s.length<=100000)(l:DA w):Calls a98 30 #[aM s] w (Sz P6 w (P.term s)):=by
 refine aIV ?_;refine(alk P6.aet (g:=Gr) zk s w j l fun _ h _ _=>aLw h).mono ?_;rintro e w1 ⟨i,d⟩;rw[show rv Gr s=P.term s from rfl] at d;cases hr:P.term s with
 | err c a=>
  rw[hr] at d;obtain⟨b,rfl,f⟩:=d;refine bD ?_;exact⟨i,b,J,f⟩
 | ok x k vs=>
  rw[hr] at d;obtain⟨b,rfl,f⟩:=d;refine bD ?_;exact⟨i,b,J,f⟩
def aoF(v:Y)(n i:Nat)(h:i<n):(madeCells #[v] (n*1))[i]?=O v:=by
 simp [madeCells,h,Nat.mod_one]
def aLy(w:Z)(s:Bs)(e:Ending)(w':Z):Prop:=
 Ext w w'/\match P.term s with
 | .err c a=>∃ b,e = ah (ak #[.string (bs []),aj 73 (aq (O ⟨b,0,V⟩))])/\w'.heap[b]?=O (ae #[.int .i64 c,.int .i64 a] 77 (0,0))
 | .ok x _ vs=>e = ah (ak #[.string (bs (SQ vs.length x).out),ai])
def aLz{rb:Nat}{row:Array Y}(a:F rb)(b:w.heap[rb]?=aN row 89)(c:row.size=nv)(d:∀ i,i<nv->row[i]?=O (aj 87 (pp (rb+1+i)))) :
  fD F w 89 (cM rb nv nv) (mm (fun i=>rb+1+i) (a0C nv)):=by
 refine .inr ⟨rb,row,zg,a,b,zg,?_⟩;apply List.ext_getElem?;grind
def P.aLA{x:Ex}{vs:List Bs}(h:P.term s = .ok x k vs):gO vs.length x/\gH x<=2001:=by
 unfold P.term rv at h;split at h
 .grind
 .rename_i l;split at h
  .grind
  .rename_i T b;have a:=O2 b;have f:Bb T:=⟨Kd _ _ _ _ (by rw[OT,b]),fun u hu hk=>by
    obtain⟨c,r,e,-⟩:=(a.tok u hu).2.2.1 hk;grind,fun u hu hk=>((a.tok u hu).2.1 hk).2.1⟩
   unfold Gr at h;split at h
   .rename_i y k' m d;split at h
    .rename_i n;injection h with g i j;subst g i j;obtain⟨g1,-,g3⟩:=(ML f _).oper _ _ _ _ _ _ _ d;have o:k'<=T.length:=(SD T _).oper _ _ _ _ _ _ _ d;have:=a.len;grind
    grind
   .grind
   grind
def aLB(s:Bs)(w:Z)(U:s.length<=100000)(W:DA w)(L:kJ w):Calls a98 24 #[aM s] w (aLy w s):=by
 refine aIW ?_;refine(aLx s w U W).mono ?_;rintro e w1 ⟨t,q⟩;have s1:=t.size;cases hr:P.term s with
 | err c a=>
  rw[hr] at q;obtain⟨b,rfl,h1⟩:=q;refine bD ?_;refine⟨t,?_⟩;exact yH
 | ok x k vs=>
  rw[hr] at q;obtain⟨cb,rfl,X,IP,av,va,vc,y,us,mW,M⟩:=q;obtain⟨B,jc⟩:=P.aLA hr;unfold eH at M;obtain⟨xv,r0,rfl,hx,N⟩:=M;unfold eH at N;subst N;obtain⟨ab,IS,rfl,uL,vP,C⟩:=mW.at' (j:=0) zs;refine cG y ?_;obtain⟨nv,mC⟩:=b9 vs.length;rw[<- mC] at y B IP ⊢;refine⟨fun m z w'=>∃ j row,z 25=zi (j:Nat)/\j<=nv/\m=nv-j/\Ext w1 w'/\w'.heap.size=w1.heap.size+1+j/\w'.heap[w1.heap.size]?=aN row 89/\row.size=nv /\
   (∀ i,i<j->row[i]?=O (aj 87 (pp (w1.heap.size+1+i))))/\(∀ i,i<j->w'.heap[w1.heap.size+1+i]?=aN #[ai] 91),
   ⟨_,0,_,J,Nat.zero_le _,J,by(repeat (first | assumption | exact bz.refl _ _ | (refine bz.bO ?_ (.inr (by(try simp only[zS])<;>omega))) | refine bz.alloc ?_ _ | refine bz.drew ?_)),by rw[size_alloc],qG J,by rw[size_madeCells],fun i Q=>zo,fun i Q=>zo⟩,?_⟩
  intro m z d w2 hI;refine toPr ?_;obtain⟨j,row,R,hj,rfl,D,s2,q2,Fl,eO,Ct⟩:=hI;have l2:=bf q2;by_cases hlt:j<nv
  .have jJ:((j:Nat):Int).toNat=j:=zo;have hjr:j<row.size:=zo;refine iJ R @q2 @jJ ?_;refine⟨_,zo,j+1,row.setIfInBounds j (aj 87 (pp w2.heap.size)),zs,zo,J,?_,zo,J,yH,?_,?_⟩
   .exact yF
   .exact yH
   exact yH
  .have Bj:j=nv:=zo;subst Bj;have S:=D.ext _ _ y;have f:=D.ext _ _ vP;have l3:=bf S;have l4:=bf f;have e0:((0:Int)).toNat=0:=rfl;have gi:IS[0]?=O xv:=C;refine dC R S f (zA @e0 gi) ?_;obtain⟨g,Kg⟩:=b9 ((w2.alloc (ae #[bH,zi 1000000] 96)).alloc (ae #[aq V,bH,pp w2.heap.size,.map V] 103));have sB:g.heap.size=w2.heap.size+2:=yH;have Gu:Ext w2 g:=yF;have qS:g.heap[w2.heap.size]?=aN #[bH,zi 1000000] 96:=yH;have qW:g.heap[w2.heap.size+1]?=aN #[aq V,bH,pp w2.heap.size,.map V] 103:=yH;rw[size_alloc,<- Kg];have aWq:Ext w1 g:=yF;have gS:∀ w',Ext w2 w'->Ck (fun i=>w1.heap.size+1+i) j [] w':=fun w' hE'=>⟨yH,fun i Q=>⟨ai,(by grind [bz.ext]),J⟩⟩;have IK:∀ i∈a0C j,i<j:=zg;refine a0c (XA (ρ:=fun i=>w1.heap.size+1+i) (n:=j) (ids:=a0C j) IK 2001 x jc zg
    (eG.mono (F':=fun _=>True) zg (by grind [bz.ext]) _ _ hx) (aLz (F:=fun _=>True) trivial yH Fl eO)) ?_
   rintro e r ⟨E,u,rfl,hu⟩;have H:=E.ext _ _ qS;have I:=E.ext _ _ qW;have K:kJ r:=(((L.ext t).ext D).ext Gu).ext E;have hgp:4<w.heap.size:=by
    have:=L;unfold kJ Lib.TabIs World.var? at this;rw[Xe] at this;simp only[Option.bind_some] at this;rcases Nat.lt_or_ge 4 w.heap.size with h | h
    .exact h
    .rw[Array.getElem?_eq_none h] at this;cases this
   have KW:wS [] (w2.heap.size+1) w2.heap.size 0 96 #[bH,zi 1000000]:=
    ⟨trivial,zs,zo,zo,zo,zo,zo⟩
   have D6:lI (fun i=>w1.heap.size+1+i) j [] (w2.heap.size+1) w2.heap.size 0 96 #[bH,zi 1000000] (.map V) r ⟨1000000,[],[]⟩:=
    ⟨(by grind [bz.trans]),⟨aq V,bH,yH,I,a0z _ _ _ _⟩,.inl ⟨J,J⟩,H,K,zg⟩
   obtain⟨Sn,dZ⟩:=aIc B zo;refine bD ?_;refine a0c ((cw (4*gH x)).tm (least:=0) KW ⟨_,D6⟩ hu.toT (SA _ _ B) (by simp [Ws.cS]) (Nat.le_refl _) Sn) ?_;rintro e w6 ⟨Ax,rfl,XW,h6⟩;refine bD ?_;refine(adn h6.bu dZ).mono ?_;rintro e w7 ⟨rfl,yK⟩;refine bD ?_;have l:Ext w r:=yF;refine⟨?_,?_⟩
   .have p:ml (w2.heap.size+1) w2.heap.size r w7:=Ax.trans (yK.toW _);refine⟨p.os.trans l.os,p.tape.trans l.tape,p.output.trans l.output,a0f l.size p.size,fun b o T _=>p.block b o (l.ext _ _ T) ?_⟩;have:=bf T;rintro (h | h | ⟨h,_⟩)<;>omega
   exact yH
def aLH(w:Z)(s:Bs)(e:Ending)(w':Z):Prop:=
 Ext w w'/\match P.term s with
 | .err c a=>e = ah (ak #[.string (bs []),.int .i64 c,.int .i64 a])
 | .ok x _ vs=>e = ah (ak #[.string (bs (SQ vs.length x).out),.int .i64 0,.int .i64 (-1)])
def aLI(s:Bs)(w:Z)(f:s.length<=100000)(g:DA w)(h:kJ w)(i:Al w):Calls a98 13 #[aM s] w (aLH w s):=by
 refine aIX ?_;refine(aLB s w f g h).mono ?_;rintro e w1 ⟨j,d⟩;cases hr:P.term s with
 | err c a=>
  rw[hr] at d;obtain⟨b,rfl,l⟩:=d;refine bD ?_;refine(Wz b c a w1 l (i.ext j)).mono ?_;rintro e w2 ⟨m,rfl⟩;refine bD ?_;refine⟨yF,?_⟩;grind
 | ok x k vs=>
  rw[hr] at d;subst d;refine bD ?_;refine(Wy w1).mono ?_;rintro e w2 ⟨m,rfl⟩;refine bD ?_;refine⟨yF,?_⟩;grind
