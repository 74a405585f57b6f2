/- A part of one proof (ShQ2, KW3, KW4, KW5, KW6). -/
import Derived.Test.YtoegidfbnkaabaaGreatDoorPkJAR
set_option linter.all false
set_option maxRecDepth 100000
set_option maxHeartbeats 8000000
open Option renaming some → O, none → V
open Go renaming Value → Y, World → Z
open Bool renaming true → A, false → G
open Go.Obj renaming cells → ae
open Go.Ending renaming returned → ah
open Go.Value renaming nilIface → ai, iface → aj, pointer → aq
open Option.some renaming injEq → aZG
open Go.Calls renaming mono → aZJ
open Nat renaming le_refl → aZK, le_trans → aZL
open List renaming drop_eq_getElem_cons → aZP, range' → a0j, getElem_cons_zero → a1s, getElem_cons_succ → a1S
open Go.Value renaming slice → aZT
open Go.Instr renaming loadAt → aZX, fieldAt → a0w
open Go.Value.slice renaming injEq → aZZ
open Go.Proofs.Tryz renaming prog → a9D
namespace Go.Proofs.YtoegidfbnkaabaaGreatDoor
open P
open Go.Proofs.YtoegidfbnkaabaaGreatDoor.Sx
variable{B M b base c cap e f g i j k' m mb n pb so xb:Nat}{D:Nat->Prop}{K:Y->Prop}{X:Y->Z->Prop}{cs iB:Array Y}{iv o4 o5 tv v vv:Y}{gy:List Bd}{fx:List Nat}{vs xs:List Y}{w w' w1 w2 w3:Z}{y:Operand}{ρ:Nat->Nat}
section
variable{p0 p1 p2 p3 p4 p5 p6 p7:Y}{w:Z}{R:Ending->Z->Prop}
def aJM:=cz w R [p0,p1] (gc [] [] []) Tryz.func78
def aJN:=cz w R [p0] (gd [(3,[10])] [] [(5,9)] [] [] [] [11]) Tryz.func39
def anJ:=cz w R [p0] (gc [(3,[9])] [] [10]) Tryz.func77
def anK:=cz w R [p0,p1] (gd [] [] [] [(2,[14,0,1,2,3,4,5,6,7,8,9,10,11,12,13])] [] [] []) Tryz.func38
def anL:=cz w R [p0,p1,p2] (gd [] [(12001,[])] [] [(6,[12,0,2,3,4,5,6,7,8,1,9,10,11,12,13])] [] [] [2,12,20,22,23,51,52,53,61]) Tryz.func26
def aJO:=cz w R [p0,p1,p2] (gc [] [] [2,16]) Tryz.func15
end
open Go.RowKit Sx
def xI(ρ:Nat->Nat)(n B:Nat)(i:Nat):Nat:=if i<n then ρ i else B+(i-n)
def Xx(ρ:Nat->Nat)(n B m:Nat):eg ρ n (xI ρ n B) (n+m):=⟨zo,fun i a=>by unfold xI;grind⟩
def anM(m:Nat)(hm:m<=100000)(w:Z):Calls a9D 77 #[zi (m:Nat)] w fun e w'=>Ext w w'/\w'.heap.size=w.heap.size+1+m /\
  ∃ cs,e = ah (cR w.heap.size m m)/\w'.heap[w.heap.size]?=aM cs 89/\cs.size=m /\
   ∀ j,j<m->cs[j]?=O (aj 87 (pp (w.heap.size+1+j)))/\w'.heap[w.heap.size+1+j]?=aM #[ai] 91:=by
 refine anJ ?_;refine bE ?_;refine⟨fun q z w'=>∃ (j:Nat) (cs:Array Y),z 9=zi (j:Nat)/\j<=m/\q=m-j/\Ext w w'/\w'.heap.size=w.heap.size+1+j/\w'.heap[w.heap.size]?=aM cs 89/\cs.size=m /\
   ∀ i,i<j->cs[i]?=O (aj 87 (pp (w.heap.size+1+i)))/\w'.heap[w.heap.size+1+i]?=aM #[ai] 91,
  ⟨_,0,_,J,Nat.zero_le _,J,(bB.refl _ _).alloc _,by rw[size_alloc],sx J,by simp [madeCells],fun i b=>zo⟩,?_⟩
 intro q z d w1 c;refine toPr ?_;obtain⟨j,cs,a,k,rfl,l,s1,g1,n,o⟩:=c;have p:=bg g1;by_cases hlt:j<m
 .have r:((j:Nat):Int)<(m:Int):=zo;have f:((j:Nat):Int).toNat=j:=zo;have g:j<cs.size:=zo;refine iZ a @f @g1 ?_;refine⟨_,zo,j+1,_,zs,zo,J,yF,yH,J,yH,fun i b=>?_⟩;exact yH
 .have h:j=m:=zo;subst h;refine cH a ?_;exact yH
def gQ.fresh{T:Nat}{s:Sr}(h:gQ D ρ n pb so T cs tv w s)(hD:∀ b,w.heap.size<=b->D b)(l:Ext w w')
  (hv:∀ j,j<m->w'.heap[w.heap.size+1+j]?=aM #[ai] 91):gQ D (xI ρ n (w.heap.size+1)) (n+m) pb so T cs tv w' s:=by
 have hu:=Xx ρ n (w.heap.size+1) m;have hold:∀ i,i<n->ρ i<w.heap.size:=fun i d=>by
  obtain⟨r,a,-⟩:=h.sv.var i d;exact yH
 have f:=h.ext l;refine⟨⟨fun i j d o e=>?_,fun i d=>?_⟩,fun i d=>?_,f.cell,?_,h.dr,h.ds,h.nd,fun p c=>Nat.lt_of_lt_of_le (h.lt p c) hu.1,h.ok⟩
 .unfold xI at e;by_cases a:i<n
  .by_cases g:j<n
   .rw[zip a,zip g] at e;exact h.sv.inj i j a g e
   grind
  grind
 .by_cases a:i<n
  .obtain⟨r,g1,g2⟩:=f.sv.var i a;refine⟨r,by rw[hu.2 i a];omega,?_⟩;cases k:P.look i s.tr with
   | none=>exact yH
   | some t=>rw[k] at g2;exact dI.mono zg hu.1 hu.2 (fun _ _ _ _ _ h=>h) t r g2
  .have k:P.look i s.tr=none:=P.Ps fun hm=>by
    obtain⟨p,c,rfl⟩:=List.mem_map.1 hm;exact a (h.lt p c)
   refine⟨ai,?_,zg⟩;unfold xI;rw[bZ a];exact hv (i-n) zo
 .unfold xI;by_cases a:i<n
  .rw[zip a];grind [dv]
  exact yH
 .have e:qM (xI ρ n (w.heap.size+1)) s.tr=qM ρ s.tr:=by
   unfold qM;refine List.map_congr_left fun p c=>?_;rw[hu.2 p.1 (h.lt p (List.mem_reverse.1 c))]
  grind [row]
def j7.fresh{D:Nat->Prop}{ρ:Nat->Nat}{wb mb:Nat}{todo av vv tv:Y}{di:List Y}{w w':Z}{k:Wk}(h:j7 D ρ wb mb todo av vv tv di w k)(hD:∀ b,w.heap.size<=b->D b){m:Nat}(a:Ext w w')
  (hv:∀ j,j<m->w'.heap[w.heap.size+1+j]?=aM #[ai] 91):j7 D (xI ρ k.n (w.heap.size+1)) wb mb todo av vv tv di w' { k with n:=k.n+m }:=
 ⟨h.st.fresh hD a hv,h.td.bH (eH.dZ a) (Xx ρ k.n (w.heap.size+1) m),jJ a.ext h.ar,h.ag.bH (eH.dZ a) (Xx ρ k.n (w.heap.size+1) m),h.da⟩
def anN(c:w'.heap[b]?=aM cs 89)(f:cs.size=m)
  (d:∀ j,j<m->cs[j]?=O (aj 87 (pp (B+j)))):fK (fun _=>True) w' 89 (cR b m m) (mG (xI ρ n B) (a0j n m)):=by
 have g:(mG (xI ρ n B) (a0j n m)).length=m:=zs;have e:cs.toList=mG (xI ρ n B) (a0j n m):=by
  apply List.ext_getElem?;intro j;by_cases a:j<m
  .rw[Array.getElem?_toList,d j a,List.getElem?_map,List.getElem?_range' a];simp only[xI,Option.map_some,Nat.mul_one,Nat.one_mul];grind
  grind
 exact .inr ⟨b,cs,zg,trivial,c,zo,zg⟩
def aJP(S:∀ i∈fx,i<n){l:List Ex}(T:fi fx.length l)(hl:l.length<=100)(hv:fK (fun _=>True) w 106 v vs)(hx:eO (fun _=>True) w vs l)
  (U:fK (fun _=>True) w 89 vv (mG ρ fx)) :
  Calls a9D 228 #[v,vv] w fun e w'=>Ext w w'/\∃ u us,e = ah u/\fK (fun _=>True) w' 89 u us/\py ρ n w' us (nV fx l):=by
 have W:=hx.E9;obtain⟨av,ac,rfl⟩:=hv.sl;have hlen:vs.length=l.length:=W;rw[hlen];refine aJE ?_;refine bE ?_;refine⟨fun m z w'=>∃ j g us,z 9=zi (j:Nat)/\z 4=g/\j<=l.length/\m=l.length-j/\Ext w w'/\w'.ownsRow w.heap.size 89 1 g j us /\
   iE (fun c=>w.heap.size<=c/\c<w'.heap.size/\O c≠g.ownBlock) ρ n w' us (nV fx (l.take j)),
  ⟨_,0,bV,[],J,J,Nat.zero_le _,J,yF,World.ownsRow_nil _ _ _ _,by simp [nV];unfold iE;rfl⟩,?_⟩
 intro m z d w3 X;refine toPr ?_;obtain⟨j,g,us,s,D,hj,rfl,a,p,x⟩:=X;have s3:=a.size;obtain⟨y,rc,rfl⟩:=gV p;by_cases hlt:j<l.length
 .have ql:j<vs.length:=zo;obtain⟨sb,IK,B,-,e3,E⟩:=hv.at' ql;obtain⟨u,e5,hu⟩:=eO.at' j hlt hx;rw[e5] at E;rw[hlen] at B;simp only[aZZ,true_and] at B;obtain⟨rfl,rfl⟩:=B;have jW:((j:Nat):Int).toNat=j:=zo;have C:=a.ext _ _ e3;refine dH s @C @E @jW ?_;have Mu:eL (fun _=>True) w3 u l[j]:=eL.mono zg (by grind [bB.ext]) _ _ hu;refine aZJ (ad0 S (iA l[j]) l[j] (aZK _) (T.at hlt) Mu (U.mono (fun _ h=>h) fun b cs _ hb=>a.ext _ _ hb)) ?_;rintro e f ⟨q,u4,rfl,H⟩;have s4:=q.size;obtain⟨I,K,rfl⟩:=H.iface;refine bE ?_;have L:Ext f (f.alloc (ae #[aj I K] 89)):=yF;have zV:=jJ (q.trans L).ext p;rw[D];refine Pz (base:=w.heap.size) zV (sx J) J zo (by rw[size_alloc];omega) ?_;intro v' w5 M N xH;have s5:=N.size;rw[size_alloc] at s5;have kp:∀ c o,f.heap[c]?=O o->O c≠(aZT y j rc).ownBlock->w5.heap[c]?=O o:=(by grind [size_alloc,bg,World.grownBy.block,bB.ext]);have lo:∀ k,(aZT y j rc).ownBlock=O k->w.heap.size<=k/\k<w3.heap.size:=fun k hk=>p.lt k hk;obtain⟨P,Q,rfl⟩:=gV M;have mY:∀ c,c<f.heap.size->O c≠(aZT y j rc).ownBlock->O c≠(aZT P (j+1) Q).ownBlock:=yH;refine cH s ?_;refine⟨_,?_,j+1,.slice P (j+1) Q,us++[aj I K],zg,zg,zo,J,?_,M,?_⟩
  .omega
  .exact((a.trans q).trans L).grow N yH
  .rw[adZ fx l j hlt];refine iE.snoc ?_ ?_
   .refine dI.mono (F:=Nu w3 f) (fun c r=>?_) (aZK _) (fun _ _=>rfl) (fun c cs t r _ R=>?_) _ _ H<;>grind
   .refine iE.mono (fun c r=>?_) zo zg (fun c cs t r _ R=>?_) _ _ x
    .exact yH
    .exact kp c _ (q.ext _ _ R) r.2.2
 .have fw:j=l.length:=zo;subst fw;rw[List.take_length] at x;refine du s D ?_;exact⟨a,_,us,J,Et p zg,x.toT⟩
section
variable{D:Nat->Prop}{ρ:Nat->Nat}{wb mb:Nat}{todo av vv tv:Y}{di:List Y}{w w':Z}{k:Wk}
theorem qn.take{n:Nat}:∀ {l:List nW} {vs:List Y} (m:Nat),qn ρ n w vs l->qn ρ n w (vs.take (m*4)) (l.take m)
 | l,vs,0,h=>by simp;rfl
 | [],vs,m+1,h=>by have h:vs=[]:=h;grind
 | a::l,vs,m+1,⟨b,cv,av,fV,us,rest,j,c,d,e,f,g,i⟩=>by
  refine⟨b,cv,av,fV,us,rest.take (m*4),?_,c,d,e,f,g,qn.take m i⟩;grind
theorem qn.at{n:Nat}:∀ {l:List nW} {vs:List Y} (m:Nat) (hm:m<l.length),qn ρ n w vs l->∃ b cv av fV us,(vs.drop (m*4)).take 4=[zi ((l[m]).mark:Nat),b,cv,av]/\uf ρ n w b (l[m]).todo /\
   nY w 79 cv fV/\j9 (fun _=>True) w fV (l[m]).clauses/\fK (fun _=>True) w 89 av us/\py ρ n w us (l[m]).args
 | a::l,vs,0,_,⟨b,cv,av,fV,us,rest,d,e,f,g,h,i,c⟩=>zg
 | a::l,vs,m+1,hm,⟨b,cv,av,fV,us,rest,d,e,f,g,h,i,c⟩=>by
  obtain⟨j,o,av',p,k,g1,g2⟩:=qn.at m zg c;grind
def j7.forget(h:j7 D ρ wb mb todo av vv tv di w k)(hm:m<=k.bw.length){a:Option Addr}(b:av = .slice a k.bw.length c)
  (hw:w1=bO w wb (ae #[.map (O mb),tv,zi (k.sr.fuel:Nat),todo,.slice a m c,vv] 130)) :
  j7 D ρ wb mb todo (.slice a m c) vv tv (di.take (m*4)) w1 { k with bw:=k.bw.take m }/\dc D w w1:=by
 have i:=h.ag.len;have hr:w.ownsRow 0 356 4 (.slice a m c) m (di.take (m*4)):=by
  refine⟨zg,?_⟩;rcases h.ar.2 with⟨d,e⟩| ⟨g,cap,cur,d,e,j,n,o,p,q⟩<;>grind
 have f:w.grownBy w av.ownBlock:=⟨J,J,J,aZK _,yH⟩;obtain⟨r,s,-⟩:=h.KI (l:=k.bw.take m) (av':=.slice a m c) (avs':=di.take (m*4)) zg f (.inl (by rw[b];cases a<;>rfl)) (h.ag.take m) hw;exact yF
def j7.again(h:j7 D ρ wb mb todo av vv tv di w k)(hm:m<k.bw.length)(o:av = cR g k.bw.length c)(q:w.heap[g]?=aM iB 356)
  {cv:Y} {l:List Cl} (t:nY w 79 cv xs) (u:j9 (fun _=>True) w xs l) (d:w1=bO w g (ae (iB.setIfInBounds (m*4+2) cv) 356 (0,0)))
  (x:w2=bO w1 wb (ae #[.map (O mb),tv,zi (k.sr.fuel:Nat),todo,cR g (m+1) c,vv] 130)) :
  (∃ avs',j7 D ρ wb mb todo (cR g (m+1) c) vv tv avs' w2 { k with bw:=k.bw.take m++[{ k.bw[m] with clauses:=l }] })/\dc D w w2/\w1.heap[wb]?=w.heap[wb]?:=by
 have M:=h.ag.len;obtain⟨f,p,i,y,us,N,g2,g3,g4,g5,g6⟩:=h.ag.at m hm;have z:=bg q;obtain⟨a,B⟩:=cd (di.take (m*4));have C:a.length=m*4:=zg;have P:w1.ownsRow 0 356 4 (cR g (m+1) c) (m+1) (a++[zi ((k.bw[m]).mark:Nat),f,cv,i]):=by
  refine⟨zg,?_⟩;rcases h.ar.2 with⟨j,r⟩| ⟨E,cap,Q,j,r,s,R,F,H,S⟩
  .exact yH
  .rw[o] at j;have j:g=E/\c=cap:=zg;obtain⟨rfl,rfl⟩:=j;rw[q] at s;cases s;refine .inr ⟨g,c,_,J,r,by rw[d];exact pS J z,zo,F,by simpa using H,?_⟩;have T:iB.toList.take ((m+1)*4)=a++[zi ((k.bw[m]).mark:Nat),f,p,i]:=by
    have U:iB.toList.take ((m+1)*4)=di.take ((m+1)*4):=by
     grind
    grind
   grind [Array.toList_setIfInBounds,List.take_set,List.set_append_right,Nat.add_sub_cancel_left]
 have I:w.grownBy w1 av.ownBlock:=⟨by rw[d];rfl,by rw[d];rfl,by rw[d];rfl,yH,fun b _ K=>by
  rw[d,iY (fun e=>K (by subst e;rw[o];rfl))]⟩
 have L:qn ρ k.n w (a++[zi ((k.bw[m]).mark:Nat),f,cv,i]) (k.bw.take m++[{ k.bw[m] with clauses:=l }]):=by
  rw[B];exact(h.ag.take m).snoc ⟨f,cv,i,xs,us,[],J,g2,t,u,g5,g6,J⟩
 have W:(k.bw.take m++[{ k.bw[m] with clauses:=l }]).length=m+1:=by
  grind
 obtain⟨X,r2,r3⟩:=h.KI (l:=k.bw.take m++[{ k.bw[m] with clauses:=l }]) zg I (.inl (by rw[o];rfl)) L x;exact yH
def PJ{w:Z}{size:Nat}{a:Option Addr}(h:w.ownsRow base e size (.slice a n c) n xs):n<=c/\∀ (m s:Nat),sliced a 0 m c s = .slice a m c:=by
 rcases h.2 with⟨d,f⟩| ⟨b,cap,cur,d,f,g,i,j,k,l⟩
 .cases d;exact⟨aZK _,(by grind [sliced])⟩
 grind [sliced,Addr.add]
theorem j7.dm(h:j7 D ρ wb mb todo av vv tv di w k)(hD:∀ b,w.heap.size<=b->D b):∀ b,w.heap.size<=b->Dm D av b:=fun b a=>⟨hD b a,(by grind [bg,DV])⟩
abbrev Fc(D:Nat->Prop)(ρ:Nat->Nat)(n wb mb:Nat)(vv:Y)(p:Bool×Wk)(e:Ending)(w':Z):Prop:=
 e = ah (.bool p.1)/\∃ eG,eg ρ n eG p.2.n/\PG D eG wb mb vv w' p.2
def anP(h:j7 D ρ wb mb todo av vv tv di w k)(hD:∀ b,w.heap.size<=b->D b){us:List Y}{l:List Cl}{args:List Tm}{td:List P.Goal}{r:Except jB (Bool×Wk)}
  (hs:nY w 79 o4 xs) (hc:j9 (fun _=>True) w xs l) (ha:fK (fun _=>True) w 89 iv us) (ht:py ρ k.n w us args) (dx:jr args) (gL:∀ c∈l,yD M c/\c.args.length=args.length) (hM:M<=100000)
  (ri:uf ρ k.n w o5 td) (hm:m<=k.bw.length) (nB:1<l.length->m<k.bw.length) (hz:k.sr.cU<=800000000) (yQ:k.bw.length<=900000000) (hr:vT f args l td m k=O r) :
  Calls a9D 224 #[pp wb,iv,o4,o5,zi (m:Nat)] w (EPost D w (Fc D ρ k.n wb mb vv) r):=by
 have JF:k.sr.tr.length+k.sr.fuel<=800000000:=hz;unfold vT at hr;refine aJG ?_;refine bE ?_;refine aZJ (MU h.less Fb zo) ?_;rintro e w1 ⟨N,F⟩;by_cases h0:k.sr.fuel=0
 .rw[zip h0] at hr F;injection hr with hr;subst hr F;exact⟨N.up fun _ h=>h.1,J⟩
 rw[bZ h0] at hr F;obtain⟨rfl,F⟩:=F;obtain⟨z,N⟩:=h.store F N;cases l with
 | nil=>cases hr
 | cons c rest=>
 simp only at hr;obtain⟨cv,PH,rfl,iX,JU⟩:=hc;obtain⟨DW,aVm⟩:=gL c (List.mem_cons_self ..);obtain⟨lb,lo,To,lcs,rfl,VQ,qz,aJR⟩:=hs.at (j:=0) zs;rw[Nat.add_zero] at qz;have Be:=N.toI;have aJS:=Be _ _ _ (yM) VQ;refine du aJS qz ?_;obtain⟨aa,ac,Q⟩:=gV z.ar;have c1:=z.cell;have lw1:=bg c1;have R:Ext w1 w1.drew:=yF;refine⟨fun _ w'=>∃ av' avs',j7 D ρ wb mb todo av' vv tv avs' w' { k with sr:=k.sr.dec,bw:=vS k.bw m rest }/\dc D w w',?_,?_⟩
 .obtain⟨Pt,iH⟩:=PJ (by rw[Q] at z;exact z.ar:w1.ownsRow 0 356 4 (.slice aa k.bw.length ac) k.bw.length di);have lC:av = .slice aa k.bw.length ac:=Q;cases rest with
  | nil=>
   have iX:PH=[]:=JU;subst iX;have Tp:(m:Int)<=(ac:Nat):=zo;refine iZ @c1 Q iH ?_;obtain⟨S,r2⟩:=z.forget hm lC J;exact⟨_,_,S,yF⟩
  | cons c2 rest=>
   obtain⟨cv2,XA,rfl,-,-⟩:=id JU;have vU:m<k.bw.length:=zg;rcases z.ar.2 with⟨B,e2⟩| ⟨g,cap,cur,B,e2,hg,T,e5,e6,e7⟩
   .have e2:k.bw.length=0:=e2;omega
   rw[Q] at B;cases B;have Dh:g≠wb:=zg;have aVn:(m:Int)<(k.bw.length:Nat):=zo;obtain⟨sa,sc,yR⟩:∃ sa sc,sliced (O ⟨lb,lo,V⟩) 1 (XA.length+1+1) To 1 = .slice sa (XA.length+1) sc:=⟨_,_,J⟩;have Tp:(m:Int)+1<=(ac:Nat):=zo;have PK:nY w1 79 (.slice sa (XA.length+1) sc) (cv2::XA):=by
    rw[<- yR];exact(hs.bH fun b cs H=>Be _ _ _ (yM) H).tail zs
   refine dH @c1 Q hg (zA yR iH) ?_;obtain⟨⟨avs',S⟩,r2,-⟩:=(z.ext R).again (m:=m) vU lC (R.ext _ _ hg) (PK.bH fun b cs H=>R.ext _ _ H) (j9.iT (Be.trans (eH.dZ R)) JU) J J;have e3:((m:Int)+1).toNat=m+1:=zo;rw[e3];have T:vS k.bw m (c2::rest)=k.bw.take m++[{ k.bw[m] with clauses:=c2::rest }]:=by
    grind [vS,List.getElem?_eq_getElem]
   rw[T];exact⟨_,avs',S,N.trans ((dc.dZ R).trans r2)⟩
 .rintro s w2 ⟨ue,PL,h2,dS⟩ d;clear d;have s2:=dS.size;have VV:=dS.toI;obtain⟨cb,cav,cbv,XB,Tq,rfl,-,gS,⟨xus,lR,xd⟩,ny⟩:=iX;have Ku:=VV _ _ _ (yM) gS;have XC:=bg Ku;have hM5:c.vars.length<=100000:=aZL DW.vars hM;refine cH Ku ?_;refine aZJ (anM c.vars.length hM5 w2) ?_;rintro e w3 ⟨eD,s3,vcs,rfl,yw,DX,XD⟩;have h3:=h2.fresh (fun b H=>hD b (aZL s2 H)) eD (fun j hj=>(XD j hj).2);have C:=anN (ρ:=ρ) (n:=k.n) yw DX (fun j hj=>(XD j hj).1);have U:eg ρ k.n (xI ρ k.n (w2.heap.size+1)) (k.n+c.vars.length):=Xx _ _ _ _;have GI:dc D w w3:=yF;generalize xI ρ k.n (w2.heap.size+1)=eG at h3 C U;have Kw:=eD.ext _ _ Ku;obtain⟨xa,xc,aJW⟩:=lR.sl;subst aJW;have Jw:xus.length=c.args.length:=eO.E9 xd;refine du Kw Jw ?_;cases hq:uP f (a0j k.n c.vars.length) args c.args k.sr.dec with
  | none=>rw[hq] at hr;cases hr
  | some q=>
  rw[hq] at hr;refine⟨fun n x a=>∃ j I E7,x 64=zi (j:Nat)/\j<=c.args.length/\n=c.args.length-j/\j7 D eG wb mb todo ue vv E7 PL a ⟨k.n+c.vars.length,I,k.todo,vS k.bw m rest⟩/\dc D w3 a/\I.cU<=800000000 /\
    uP f (a0j k.n c.vars.length) (args.drop j) (c.args.drop j) I=O q,⟨_,0,_,_,J,Nat.zero_le _,J,h3,yF,by grind [Sr.cU,Sr.dec],hq⟩,?_⟩
  intro n x d a hI;refine toPr ?_;obtain⟨j,I,E7,XE,hj,rfl,h4,gW,XF,o⟩:=hI;have aJX:=GI.trans gW;have K:=dc.toI aJX;have s4:=gW.size;by_cases hlt:j<c.args.length
  .have vY:=DW.qg;have Ts:j<args.length:=zo;obtain⟨sb,IK,B,-,e3,T⟩:=lR.at' (j:=j) zo;obtain⟨u,e5,hu⟩:=eO.at' j hlt xd;rw[e5] at T;rw[Jw] at B;simp only[aZZ,true_and] at B;obtain⟨rfl,rfl⟩:=B;have uh:us.length=args.length:=ht.length;obtain⟨ub,ucs,u1,-,u3,u4⟩:=ha.at' (j:=j) zo;obtain⟨uv,u5,M9⟩:=ht.at j Ts;rw[u5] at u4;have jW:((j:Nat):Int).toNat=j:=zo;have e34:=K _ _ _ (yM) e3;have AL:=K _ _ _ (yM) u3;have Cr:((j:Nat):Int)<(c.args.length:Nat):=zo;refine dH XE @e34 @T @jW ?_;have Tt:Ext a a.drew:=yF;refine⟨fun w'=>w'.heap[ub]?=a.heap[ub]?,J,?_⟩;rw[ju];refine cO (pq wb 1) (fun w' t=>eR) ?_;have aJ0:((j:Nat):Int)<(us.length:Nat):=zo;refine cO (pq ub j) (fun w' t=>by rw[AL] at t;have:=bg t;rw[u1,XE];exact lP t @jW) ?_;obtain⟨Kz,xv1,W⟩:=M9.iface;refine cO uv (fun w' t=>by rw[AL] at t;have:=bg t;rw[W] at u4;exact AK t @jW @u4 W) ?_;have M7:∀ i∈a0j k.n c.vars.length,i<k.n+c.vars.length:=zg;have hXe:eH w a.drew:=K.trans (eH.dZ Tt);have hx4:eL (fun _=>True) a.drew u c.args[j]:=eL.mono zg hXe.kX _ _ hu;have ET:gZ (a0j k.n c.vars.length).length c.args[j]:=by rw[List.length_range'];exact DW.args.at hlt
   refine aZJ (ad0 M7 (iA c.args[j]) c.args[j] zo ET hx4 (C.iT ((dc.toI gW).trans (eH.dZ Tt)) (yM))) ?_;rintro e L ⟨ud,u5v,rfl,Xs⟩;have Ev:=ud.ext _ _ (Tt.ext _ _ AL);refine⟨yH,?_⟩;have y:Ext a L:=yF;have h5:=h4.ext y;have hD5:∀ b,L.heap.size<=b->D b:=fun b H=>hD b (by have:=y.size;omega);obtain⟨E,X,Tu⟩:∃ E,lz f args[j] (P.made (a0j k.n c.vars.length) c.args[j]) I=O E /\
     (match E with | .error e=>q = .error e | .ok p=>(if p.1=A then uP f (a0j k.n c.vars.length) (args.drop (j+1)) (c.args.drop (j+1)) p.2 else O (.ok (G,p.2)))=O q):=by
    rw[aZP hlt,aZP Ts,uP] at o;cases hu:lz f args[j] (P.made (a0j k.n c.vars.length) c.args[j]) I with
    | none=>rw[hu] at o;cases o
    | some E=>
     rw[hu] at o;refine⟨E,J,?_⟩;cases E with
     | error e=>exact(Option.some.inj o).symm
     | ok p=>exact o
   refine aZJ (Pw Fb f h5.less (h5.dm hD5) (dM.PF (K.trans (eH.dZ y)) U M9) (IB dx Ts) Xs.toT (acr _ _ ET) zg X) ?_;rintro e w6 ⟨j5,mQ⟩;have qP:dc D a w6:=(dc.dZ y).trans (j5.up fun _ h=>h.1);cases E with
   | error te=>
    subst Tu;have mQ:e=gR te:=mQ;subst mQ;cases hr;cases te<;>exact fun _=>⟨yF,J⟩
   | ok p=>
    obtain⟨b1,s6⟩:=p;obtain⟨rfl,tv6,h6⟩:=mQ;obtain⟨h6,Tv⟩:=h5.store h6 j5;have Xp:=((EN f).tm X).1;cases b1 with
    | false=>
     simp only[Bool.false_eq_true,if_false] at Tu;cases Tu;cases hr;refine bE ?_;exact⟨yF,J,eG,U,_,_,_,_,h6⟩
    | true=>
     simp only[if_true] at Tu;refine cH XE ?_;exact⟨_,zo,j+1,s6,tv6,zg,zo,J,h6,yF,zg,Tu⟩
  .have fw:j=c.args.length:=zo;subst fw;have H5:args.drop c.args.length=[]:=zg;rw[H5,uP] at o
   .cases o;cases hr;have aJ3:=K _ _ _ (yM) gS;have c4:=h4.cell;have lc4:=bg c4;obtain⟨tq,rfl⟩:=ri.ptr;obtain⟨xb,rfl,-⟩:=ny.shape;refine iZ XE aJ3 @c4 ?_;obtain⟨L,nZ⟩:=cd (a.alloc (ae #[pp xb,cR w2.heap.size c.vars.length c.vars.length,zi (m:Nat),.pointer tq] 207));have y:Ext a L:=yF;have g5:L.heap[a.heap.size]?=aM #[pp xb,cR w2.heap.size c.vars.length c.vars.length,zi (m:Nat),.pointer tq] 207:=yH;rw[<- nZ];have Tw:eH w L:=K.trans (eH.dZ y);have M7:∀ i∈a0j k.n c.vars.length,i<k.n+c.vars.length:=zg;obtain⟨S,r2⟩:=(h4.ext y).KH (todo':=pp a.heap.size) (l:=⟨O c.body,a0j k.n c.vars.length,m⟩::td)
     ⟨_,_,_,_,J,g5,dL.iT Tw ny,C.iT ((dc.toI gW).trans (eH.dZ y)) (yM),M7,ri.bH Tw U⟩ J
    exact⟨yF,J,eG,U,_,_,_,_,S⟩
   grind
end
def P.keyOf(name:Bs)(n:Nat):Bs:=name++[47,UInt8.ofNat (48+n)]
theorem P.aee{a b:Bs}(e:n<80)(hm:m<80):P.keyOf a n=P.keyOf b m↔a=b/\n=m:=by
 unfold P.keyOf;constructor
 .intro h;obtain⟨d,c⟩:=List.append_inj' h J;refine⟨d,?_⟩;injection c with _ c;injection c with c _;have:=congrArg UInt8.toNat c;grind [UInt8.toNat_ofNat']
 grind
def wrap32(n:Nat)(a:n<80):IntKind.i32.wrap (48+(n:Int))=((48+n:Nat):Int):=by
 grind [IntKind.wrap,IntKind.bits,IntKind.signed]
def anU(name:Bs)(n:Nat)(b:name.length<=100)(a:n<80)(w:Z):Calls a9D 78 #[aT name,zi (n:Nat)] w fun e w'=>e = ah (aT (P.keyOf name n))/\w'=w:=by
 refine aJM ?_;refine bE ?_;rw[ya _ _ zg];refine bE ?_;rw[wrap32 n a,aiA zk zk zo,ya _ _ zg];exact⟨by grind [P.keyOf,List.append_assoc],J⟩
def GO(base:List Cl)(name:Bs)(n:Nat):List Cl:=base.filter fun c=>c.name == name && c.args.length == n
def Bf(w:Z)(mb:Nat)(base:List Cl):Prop:=∃ es c,w.heap[mb]?=O (.map es c)/\LW es.toList/\∀ (name:Bs) (n:Nat),n<=4->match AH (P.keyOf name n) es.toList 0 with
 | none=>GO base name n=[]
 | some (_,v)=>GO base name n≠[]/\∃ vs,fK (fun _=>True) w 79 v vs/\j9 (fun _=>True) w vs (GO base name n)
theorem Bf.bH{base:List Cl}(h:Bf w mb base)(hk:eH w w')(hm:∀ es c,w.heap[mb]?=O (.map es c)->w'.heap[mb]?=O (.map es c)):Bf w' mb base:=by
 obtain⟨es,c,e,a,b⟩:=h;refine⟨es,c,yH,a,fun name n d=>?_⟩;have:=b name n d;split at this
 .omega
 .rename_i i v hx;obtain⟨g1,vs,g2,g3⟩:=this;exact⟨g1,vs,g2.iT hk (yM),g3.iT hk⟩
theorem Bf.fr{base:List Cl}(h:Bf w mb base)(a:dc D w w'):Bf w' mb base:=
 h.bH (dc.toI a) fun es c hm=>a.block _ _ hm (by rintro ⟨_,cs',b,z,d,e⟩;grind)
def anV{x:Operand}(a:Option Addr)(n c:Nat):RD a9D (bo .eql 68 x y (.slice a n c) bV) w K X=K (.bool a.isNone):=
 gU (by cases a<;>kernel_rfl)
section
variable{D:Nat->Prop}{ρ:Nat->Nat}{wb mb:Nat}{todo av vv tv:Y}{di:List Y}{w w':Z}{k:Wk}
def j7.part(h:j7 D ρ wb mb todo av vv tv di w k){q:Except jB (Bool×Sr)}{r:Except jB (Bool×Wk)}(hr:P.Out.bind (O q) (fun p=>O (.ok (p.1,{ k with sr:=p.2 })))=O r){e:Ending}
  (a:EPost (Dm D av) w (wh (Dm D av) ρ k.n wb 1 130 (GL mb todo av vv)) q e w'):EPost D w (Fc D ρ k.n wb mb vv) r e w':=by
 obtain⟨b,a⟩:=a;cases q with
 | error t=>
  cases hr;exact⟨b.up fun _ h=>h.1,a⟩
 | ok p=>
  cases hr;obtain⟨rfl,g,c⟩:=a;obtain⟨d,f⟩:=h.store c b;exact⟨f,J,ρ,eg.refl _ _,_,_,_,_,d⟩
def EPost.aef{r:Except jB (Bool×Wk)}{e:Ending}(h:EPost D w (Fc D ρ n wb mb vv) r e w') :
 ends (fun x w'=>EPost D w (Fc D ρ n wb mb vv) r (ah x) w') (PC (EPost D w (Fc D ρ n wb mb vv) r)) e w':=h.tail zg
def aJ4(h:j7 D ρ wb mb todo av vv tv di w k)(hD:∀ b,w.heap.size<=b->D b){base:List Cl}(hB:Bf w mb base)(gL:∀ c∈base,yD M c)(hM:M<=100000){name:Bs}{args:List Ex}
  (o:dL (fun _=>True) w o5 (.mk pb name args gy)) (hv:fK (fun _=>True) w 89 o4 (mG ρ fx)) (PO:∀ i∈fx,i<k.n) (eY:eW fx.length M (.mk pb name args gy))
  (hz:k.sr.cU<=800000000) (yQ:k.bw.length<900000000) {r:Except jB (Bool×Wk)} (hr:Ke base f name args fx k=O r) :
  Calls a9D 227 #[pp wb,o5,o4] w (EPost D w (Fc D ρ k.n wb mb vv) r):=by
 have JF:k.sr.tr.length+k.sr.fuel<=800000000:=hz;unfold dL at o;obtain⟨gb,gav,gpv,gus,gps,rfl,-,PQ,Tx,B,-,-⟩:=o;unfold eW at eY;obtain⟨mm,-,-,Gm,ET,-,-,-⟩:=eY;have lgb:=bg PQ;have hc:=h.cell;have lwb:=bg hc;refine aJH ?_;have AP:gus.length=args.length:=eO.E9 B;obtain⟨ga,gc,aJ8⟩:=Tx.sl;subst aJ8;refine cH PQ ?_;refine aZJ (aJP PO ET zo Tx B hv) ?_;rintro e w1 ⟨dB,u,us,rfl,nF,kH⟩;have C:=h.ext dB;have E:=dB.ext _ _ PQ;have aVu:=bg E;have F:=C.cell;have aVv:=bg F;have s1:=dB.size;have uh:us.length=args.length:=by rw[kH.length,(J9 fx args ET).2]
 obtain⟨ua,uc,M9⟩:=nF.sl;subst M9;have aJ0:(us.length:Int)=(args.length:Nat):=zo;refine cH E ?_;refine aZJ (Mq name) ?_;rintro e a ⟨rfl,rfl⟩;refine bE ?_;have dC:Ext a a.drew:=yF;have aKa:Ext w a.drew:=yF;unfold Ke at hr;by_cases ht:jG name=args.length
 .rw[zip ht] at hr;have A7:jG name=(us.length:Int):=zo;refine du A7 E ?_;cases hq:xx f name (nV fx args) k.sr with
  | none=>rw[hq] at hr;cases hr
  | some q=>
  rw[hq] at hr;have H:=C.ext dC;refine aZJ (anA Fb (r:=q) H.less (by grind [BE,j7.dm]) (nF.mono zg yH) (kH.bH (qL.dZ dC)) (by grind [J9]) (by grind [J9]) zo hq) ?_;rintro e w2 I;have I:=H.part hr I;exact EPost.aef (I.of yF)
 .rw[bZ ht] at hr;have A7:¬ jG name=(us.length:Int):=zo;refine du A7 E ?_;have hdw:a.drew.heap=a.heap:=rfl;refine⟨fun w'=>w'.heap[wb]?=a.heap[wb]?/\w'.heap[gb]?=a.heap[gb]?,yH,?_⟩;rw[ju];refine cO (pp wb) (fun w' j=>eR) ?_;refine cO (.map (O mb)) (fun w' j=>by have p:=j.1;rw[F] at p;have:=bg p;exact fa p) ?_;rw[ju];refine cO (pq gb 1) (fun w' j=>eR) ?_;refine cO (aT name) (fun w' j=>by have p:=j.2;rw[E] at p;have:=bg p;exact fa p) ?_;refine bE ?_;refine aZJ (anU name us.length zo zo _) ?_;rintro e w2 ⟨rfl,rfl⟩;refine⟨yH,?_⟩;rw[uh];have H:=C.ext dC;obtain⟨es,ec,b1,b2,x⟩:=hB.fr (D:=D) (dc.dZ aKa);have x:=x name args.length zo;have ja:(base.filter fun c=>c.name == name && c.args.length == args.length)=GO base name args.length:=rfl;rw[ja] at hr;have vZ:∀ {K:Y->Prop} {X:Y->Z->Prop},RD a9D (Instr.lookup 125 (.map (O mb)) (.string (bs (P.keyOf name args.length))) G) a.drew K X=(match AH (P.keyOf name args.length) es.toList 0 with
    | some (_,v)=>K v
    | none=>K (.slice V 0 0)):=fun{K X}=>by
   rw[aiF (k:=9) (e:=68) zk zk (z:=bV) zk b1 b2];rfl
  rw[vZ];cases L:AH (P.keyOf name args.length) es.toList 0 with
  | none=>
   rw[L] at x;rw[show GO base name args.length=[] from x] at hr;cases hr;refine⟨fun _ _=>False,?_,by rintro _ _ h;exact h.elim⟩;show RD _ _ _ _ _;rw[anV];refine bE ?_;exact⟨yF,J⟩
  | some iv=>
   obtain⟨i,v⟩:=iv;rw[L] at x;obtain⟨ed,vs,DX,jI⟩:=(x:GO base name args.length≠[]/\∃ vs,fK (fun _=>True) a.drew 79 v vs/\j9 (fun _=>True) a.drew vs (GO base name args.length));obtain⟨l,hl⟩:=cd (GO base name args.length);have hr:vT f (nV fx args) l k.todo k.bw.length { k with bw:=k.bw++[⟨k.sr.tr.length,k.todo,l,nV fx args⟩] }=O r:=by
    grind
   rw[<- hl] at jI ed;have N:vs≠[]:=by
    rintro rfl;cases l with
    | nil=>grind
    | cons c0 l0=>obtain⟨_,_,h0,-⟩:=jI;grind
   obtain⟨vb,vcs,rfl,-,yw,-,-⟩:=DX.resolve_left zg;refine⟨fun _ w'=>w'=a.drew,?_,?_⟩
   .show RD _ _ _ _ _;rw[anV];exact eR
   .rintro s w3 rfl d;clear d;have c1d:a.drew.heap[wb]?=_:=F;obtain⟨aa,ac,gw⟩:=gV H.ar;obtain⟨tq,Q⟩:=H.td.ptr;refine du @c1d gw ?_;refine⟨fun w'=>w'.heap[wb]?=a.heap[wb]?,J,?_⟩;refine toPr ?_;rw[ju];refine cO (pq wb 4) (fun w' j=>eR) ?_;refine cO av (fun w' j=>by rw[F] at j;have:=bg j;exact lP j gw) ?_;rw[ju];refine cO (pq wb 1) (fun w' j=>eR) ?_;rw[ju];refine cO (pq wb 3) (fun w' j=>eR) ?_;refine cO (.pointer tq) (fun w' j=>by rw[F] at j;have:=bg j;exact lP j Q) ?_;have DS:Ext a a.drew.drew:=yF;refine aZJ (SY (C.ext DS).st Fb) ?_;rintro e w4 ⟨rfl,rfl⟩;refine⟨J,?_⟩;refine bE ?_;obtain⟨l0,qz⟩:∃ l0:List Y,l0=[zi (k.sr.tr.length:Nat),.pointer tq,cR vb vs.length vcs.size,.slice ua args.length uc]:=⟨_,J⟩;obtain⟨y,nZ⟩:=cd (a.drew.drew.alloc (ae l0.toArray 356 (0,0)));have Nb:Ext a y:=yF;have g5:y.heap[a.heap.size]?=aM l0.toArray 356:=yH;have s5:y.heap.size=a.heap.size+1:=yH;rw[qz] at nZ;rw[<- nZ];have R:=C.ext Nb;have q5:=R.cell;refine anI (n:=k.bw.length) R.ar g5 zg (by rw[qz];intro u hu;simp only[List.mem_cons,List.not_mem_nil,or_false] at hu;rcases hu with rfl | rfl | rfl | rfl<;>rfl) zo zo ?_;intro v' w6 S po AQ;obtain⟨p6,d6,e6⟩:=gV S;subst e6;obtain⟨w7,XG⟩:=cd (bO w6 wb (ae #[.map (O mb),tv,zi (k.sr.fuel:Nat),todo,.slice p6 (k.bw.length+1) d6,vv] 130));have U:eH a.drew y:=fun b cs T hT o=>yH;have W:=DX.iT U (yM);have an2:=jI.iT U;have t:=nF.mono (F':=fun _=>True) (fun _ _=>trivial) fun b cs _ o=>Nb.ext _ _ o;have an3:=kH.bH (qL.dZ Nb);rw[uh] at t;have lC:qn ρ k.n y (di++l0) (k.bw++[⟨k.sr.tr.length,k.todo,l,nV fx args⟩]):=by
     refine R.ag.snoc ⟨.pointer tq,_,_,vs,us,[],zg,?_,nY.of W N,an2,t,an3,J⟩;rw[<- Q];exact R.td
    obtain⟨r1,r2,r3⟩:=R.KI (l:=k.bw++[⟨k.sr.tr.length,k.todo,l,nV fx args⟩]) (by rw[List.length_append,List.length_singleton];exact S) po (AQ.imp id fun hx g hg=>⟨hD g (by have:=hx g hg;omega),hx g hg⟩) lC XG;refine⟨yH,?_⟩;have c6:=r3.trans q5;have l6:=bg c6;refine cH @c6 ?_;rw[<- XG];have an4:dc D w w7:=(dc.dZ (dB.trans Nb)).trans r2;have XH:eH y w7:=dc.toI r2;have yE:=J9 fx args ET;refine aZJ (anP (k:={ k with bw:=k.bw++[⟨k.sr.tr.length,k.todo,l,nV fx args⟩] }) (M:=M) (f:=f) (m:=k.bw.length) (l:=l) (args:=nV fx args) (td:=k.todo) (r:=r) r1 (fun b o=>hD b (aZL an4.size o))
     (nY.of (W.iT XH (yM)) N) (an2.iT XH) (t.iT XH (yM)) (py.PF XH (eg.refl _ _) an3) yE.1 (fun c hc=>?_) hM r1.td zs zg hz zg hr) ?_
    .grind
    .rintro e w8 I;exact EPost.aef (I.of an4)
end
def gx.Cs{F:Nat->Prop}{w:Z}:∀ {l:List Bd} {us:List Y} (j:Nat) (a:j<l.length),gx F w us l->∃ u,us[j]?=O u/\dL F w u l[j]
 | x::l,us,0,_,h=>by
  unfold gx at h;grind
 | x::l,us,j+1,a,h=>by
  unfold gx at h;obtain⟨v,r,rfl,c,b⟩:=h;simpa using gx.Cs j zg b
def gx.GP{F:Nat->Prop}{w:Z}:∀ {l:List Bd} {us:List Y},gx F w us l->us.length=l.length
 | [],us,h=>by unfold gx at h;subst h;rfl
 | x::l,us,h=>by
  unfold gx at h;obtain⟨v,r,rfl,b,a⟩:=h;simp [gx.GP a]
section
variable{D:Nat->Prop}{ρ:Nat->Nat}{wb mb:Nat}{todo av vv tv:Y}{di:List Y}{w w':Z}{k:Wk}
def partAt{us:List Y}{tv:Y}(c:fK (fun _=>True) w 84 tv us)(hx:gx (fun _=>True) w us gy)(d:j<gy.length) :
  ∃ pb a xb,tv = cR pb gy.length a.size/\w.heap[pb]?=aM a 84/\a[j]?=O (pp xb)/\dL (fun _=>True) w (pp xb) gy[j]:=by
 have f:=hx.GP;obtain⟨b,cs,g,-,h,i⟩:=c.at' (j:=j) zo;obtain⟨u,k,e⟩:=hx.Cs j d;obtain⟨xb,rfl,-⟩:=e.shape;exact yH
def S3(a pb b:Nat)(w3 w':Z):Prop:=w'.heap[a]?=w3.heap[a]?/\w'.heap[pb]?=w3.heap[pb]?/\w'.heap[b]?=w3.heap[b]?
theorem S3.of{w':Z}(h:Ext w3 w'){b p g:Obj}(a:w3.heap[cap]?=O b)(c:w3.heap[pb]?=O p)(d:w3.heap[k']?=O g):S3 cap pb k' w3 w':=
 ⟨by rw[a];exact h.ext _ _ a,by rw[c];exact h.ext _ _ c,by rw[d];exact h.ext _ _ d⟩
def PR{tv vv av:Y}(d:w3.heap[cap]?=aM #[tv,vv,av,cR pb n so] 149)
  (c:w3.heap[pb]?=aM iB 84) (f:i<n) (hx:iB[i]?=O (pp xb)) (hv:v=zi (i:Nat)) (hk:K (pp xb)) :
  NC (pp cap) fun x=>uy a9D (a0w 149 x 3) (S3 cap pb k' w3) fun x=>uy a9D (aZX 147 x) (S3 cap pb k' w3) fun x=>uy a9D (Instr.indexAt 147 x v) (S3 cap pb k' w3) fun x=>
   uy a9D (aZX 84 x) (S3 cap pb k' w3) K:=by
 have e:(i:Int).toNat=i:=zo;have g:(i:Int)<(n:Nat):=zo;rw[ju];refine cO (pq cap 3) (fun w' b=>eR) ?_;refine cO (cR pb n so) (fun w' b=>by have a:=b.1;rw[d] at a;have:=bg a;exact fa a) ?_;refine cO (pq pb i) (fun w' b=>by have a:=b.2.1;rw[c] at a;have:=bg a;rw[hv];exact lP a @e) ?_;refine cO (pp xb) (fun w' b=>by have a:=b.2.1;rw[c] at a;have:=bg a;exact lP a hx) ?_;omega
def PT{tv vv av:Y}{a:Option Addr}(e:w3.heap[k']?=aM #[tv,.slice a n c,vv,av] 207)(hk:K (.slice a n c)) :
  NC (pp k') fun x=>uy a9D (a0w 207 x 1) (S3 cap pb k' w3) fun x=>uy a9D (aZX 82 x) (S3 cap pb k' w3) K:=by
 rw[ju];refine cO (pq k' 1) (fun w' d=>eR) ?_;refine cO (.slice a n c) (fun w' d=>by have b:=d.2.2;rw[e] at b;have:=bg b;exact fa b) ?_;omega
def XI{tv vv av:Y}{z:Int}(c:w3.heap[k']?=aM #[tv,vv,zi z,av] 207)(hk:K (zi z)) :
  NC (pp k') fun x=>uy a9D (a0w 207 x 2) (S3 cap pb k' w3) fun x=>uy a9D (aZX 3 x) (S3 cap pb k' w3) K:=by
 rw[ju];refine cO (pq k' 2) (fun w' b=>eR) ?_;refine cO (zi z) (fun w' b=>by have a:=b.2.2;rw[c] at a;have:=bg a;exact fa a) ?_;omega
def aKc(h:j7 D ρ wb mb todo av vv tv di w k)(hD:∀ b,w.heap.size<=b->D b){base:List Cl}(hB:Bf w mb base)(gL:∀ c∈base,yD M c)(hM:M<=100000)
 {g:P.Goal} (hgq:w.heap[cap]?=aM #[o4,iv,zi (g.cut:Nat),o5] 207) (H8:PE w o4 g.EP) (C:fK (fun _=>True) w 89 iv (mG ρ g.vars)) (N:∀ i∈g.vars,i<k.n)
  (hcut:g.cut<=k.bw.length) (eY:∀ b,g.EP=O b->eW g.vars.length M b) (hz:k.sr.cU<=800000000) (yQ:k.bw.length<900000000) {r:Except jB (Bool×Wk)} (hr:Dw base f g k=O r) :
  Calls a9D 225 #[pp wb,pp cap] w (EPost D w (Fc D ρ k.n wb mb vv) r):=by
 have JF:k.sr.tr.length+k.sr.fuel<=800000000:=hz;unfold Dw at hr;refine aJI ?_;refine bE ?_;refine aZJ (MU h.less Fb zo) ?_;rintro e w1 ⟨I,dD⟩;by_cases h0:k.sr.fuel=0
 .rw[zip h0] at hr dD;injection hr with hr;subst hr dD;exact⟨I.up fun _ h=>h.1,J⟩
 rw[bZ h0] at hr dD;obtain⟨rfl,dD⟩:=dD;obtain⟨o,I⟩:=h.store dD I;have K:eH w w1:=dc.toI I;have s1:=I.size;have x:=K _ _ _ (yM) hgq;have lq1:=bg x;have W:=o.cell;have lw1:=bg W;have dC:Ext w1 w1.drew:=yF;obtain⟨aa,ac,gw⟩:=gV o.ar;obtain⟨Pt,iH⟩:=PJ (by rw[gw] at o;exact o.ar:w1.ownsRow 0 356 4 (.slice aa k.bw.length ac) k.bw.length di);have qd:(g.cut:Int)<=(ac:Nat):=zo;have S8:∀ b,w1.heap.size<=b->D b:=yH;have an7:∀ {w2:Z},w2=bO w1.drew wb (ae #[.map (O mb),tv,zi (k.sr.dec.fuel:Nat),todo,.slice aa g.cut ac,vv] 130) ->
   EPost D w (Fc D ρ k.n wb mb vv) (.ok (A,{ k with sr:=k.sr.dec,bw:=k.bw.take g.cut })) (ah (.bool A)) w2:=fun{w2} jR=>by
  obtain⟨Q,r2⟩:=(o.ext dC).forget hcut gw jR;exact⟨yF,J,ρ,eg.refl _ _,_,_,_,_,Q⟩
 cases Dh:g.EP with
 | none=>
  rw[Dh] at hr H8;have hwv:o4 = .pointer none:=H8;subst hwv;cases hr;refine dH x @W gw iH ?_;exact an7 J
 | some b=>
  rw[Dh] at hr H8;obtain⟨kind,name,args,parts⟩:=b;have eY:=eY _ Dh;have H8:dL (fun _=>True) w o4 (.mk kind name args parts):=H8;have an8:=H8.iT K;have rm:=an8;unfold dL at rm;obtain⟨bb,bav,bpv,bus,XJ,rfl,-,y,hba,jy,F,H⟩:=rm;have lbb:=bg y;have an9:=eY;unfold eW at an9;obtain⟨mm,nu,⟨O1,O2,O3⟩,Gm,ET,jm,jS,yE⟩:=an9;dsimp only at hr;refine dH x @W gw y ?_;have kk:∀ c:Nat,c<256->((kind:Int)=(c:Nat)↔kind=c):=zg;by_cases k33:kind=33
  .subst k33;rw[zip rfl] at hr;cases hr;refine dH x @W gw iH ?_;exact an7 J
  rw[bZ k33] at hr;have aKg:¬ ((kind:Int)=33):=zo;refine cH @aKg ?_;by_cases k44:kind=44
  .subst k44;rw[zip rfl] at hr;cases hr;have BY:XJ.length=parts.length:=H.GP;obtain⟨pa,pc,X⟩:=F.sl;subst X;refine du y BY ?_;refine⟨fun n s w3=>∃ (j:Nat) (tdv:Y),s 7=zi ((j:Int)-1)/\j<=parts.length/\n=j/\j7 D ρ wb mb tdv av vv tv di w3 { k with sr:=k.sr.dec,todo:=((parts.drop j).map fun p=>⟨O p,g.vars,g.cut⟩)++k.todo }/\dc D w1 w3,
    ⟨_,parts.length,todo,J,aZK _,J,by simpa using o,bB.refl _ _⟩,?_⟩
   intro j s d w3 hI;refine toPr ?_;obtain⟨j',tdv,h7,hj,rfl,t,eD⟩:=hI;clear d;have KK:eH w1 w3:=dc.toI eD;have c3:=t.cell;have lw3:=bg c3;obtain⟨z,rfl⟩:=t.td.ptr;by_cases M5:j=0
   .subst M5;refine cH h7 ?_;rw[List.drop_zero] at t;exact⟨yF,J,ρ,eg.refl _ _,_,_,_,_,t⟩
   .obtain⟨i,rfl⟩:∃ i,j=i+1:=⟨j-1,zo⟩;have hi:i<parts.length:=zo;have e7:((i+1:Nat):Int)-1=(i:Nat):=zo;rw[e7] at h7;obtain⟨pb,Ct,xb,p1,p2,p3,p4⟩:=partAt F H hi;injection p1 with p1 _ L;subst p1 L;rw[BY] at y;have R:=KK _ _ _ (yM) p2;have S:=KK _ _ _ (yM) y;have q3:=KK _ _ _ (yM) x;have ei:((i:Nat):Int).toNat=i:=zo;obtain⟨q,gc,Nc⟩:=C.sl;subst Nc;refine cH h7 ?_;refine⟨S3 bb pb cap w3,⟨J,J,J⟩,?_⟩;refine PR S R hi p3 h7 ?_;refine PT q3 ?_;refine XI q3 ?_;have lQ:((i:Nat):Int)<=100000:=zo;refine du @c3 h7 ?_;obtain⟨m,nZ⟩:=cd (w3.drew.alloc (ae #[pp xb,.slice q (mG ρ g.vars).length gc,zi (g.cut:Nat),.pointer z] 207));have Bg:Ext w3 m:=yF;have g5:m.heap[w3.heap.size]?=aM #[pp xb,.slice q (mG ρ g.vars).length gc,zi (g.cut:Nat),.pointer z] 207:=yH;rw[<- nZ];have Tw:eH w1 m:=KK.trans (eH.dZ Bg);obtain⟨Q,r2⟩:=(t.ext Bg).KH (todo':=pp w3.heap.size) (l:=⟨O parts[i],g.vars,g.cut⟩::(((parts.drop (i+1)).map fun p=>⟨O p,g.vars,g.cut⟩)++k.todo))
     ⟨_,_,_,_,J,g5,dL.iT Tw p4,C.iT (K.trans Tw) (yM),N,t.td.bH (eH.dZ Bg) (eg.refl _ _)⟩ J
    refine⟨(by grind [S3.of]),i,zo,i,pp w3.heap.size,zs,zo,J,?_,yF⟩;grind [aZP]
  rw[bZ k44] at hr;have aKi:¬ ((kind:Int)=44):=zo;refine cH @aKi ?_;by_cases O1:kind=59
  .subst O1;obtain⟨pa,pc,X⟩:=F.sl;have BY:XJ.length=parts.length:=H.GP;have h2:=O1 J;subst X
   match parts,h2 with
   | [pA,pB],_=>
   obtain⟨pb,Ct,T,p1,p2,p3,p4⟩:=partAt F H (j:=0) zs;obtain⟨XK,XL,xb,L,KN,p3',TA⟩:=partAt F H (j:=1) zs;rw[p1] at L;simp only[aZZ,aZG,Addr.mk.injEq,and_true,true_and] at L;obtain⟨rfl,-⟩:=L;rw[p2] at KN;simp only[aZG,Obj.cells.injEq,and_true] at KN;subst KN;rw[p1] at y;simp only[a1s,a1S] at p4 TA;obtain⟨q,gc,Nc⟩:=C.sl;subst Nc;obtain⟨z,rfl⟩:=o.td.ptr;refine bE ?_;refine⟨S3 bb pb cap w1,⟨J,J,J⟩,?_⟩;refine PR y p2 (i:=1) zs p3' J ?_;refine PT x ?_;refine XI x ?_;refine cH @W ?_;obtain⟨w2,jR⟩:=cd (w1.drew.alloc (ae #[pp xb,.slice q (mG ρ g.vars).length gc,zi (g.cut:Nat),.pointer z] 207));have oz:Ext w1 w2:=yF;have g2:w2.heap[w1.heap.size]?=aM #[pp xb,.slice q (mG ρ g.vars).length gc,zi (g.cut:Nat),.pointer z] 207:=yH;rw[<- jR];have Nf:eH w1 w2:=eH.dZ oz;refine⟨(by grind [S3.of]),?_⟩;have AP:uf ρ k.n w2 (pp w1.heap.size) (⟨O pB,g.vars,g.cut⟩::k.todo):=
    ⟨_,_,_,_,J,g2,dL.iT Nf TA,C.iT (K.trans Nf) (yM),N,o.td.bH Nf (eg.refl _ _)⟩
   refine aZJ (ad9 (o.ext oz) yH AP zg) ?_;rintro e w3 ⟨rfl,TB,rn,aod,t⟩;have rp:dc D w1 w3:=(dc.dZ oz).trans TB;have u:eH w1 w3:=dc.toI rp;have S:=u _ _ _ (yM) y;have R:=u _ _ _ (yM) p2;have q3:=u _ _ _ (yM) x;have c3:=t.cell;have lw3:=bg c3;refine⟨S3 bb pb cap w3,⟨J,J,J⟩,?_⟩;refine PR S R (i:=0) zs p3 J ?_;refine PT q3 ?_;refine XI q3 ?_;refine cH @c3 ?_;obtain⟨a,jl⟩:=cd (w3.drew.alloc (ae #[pp T,.slice q (mG ρ g.vars).length gc,zi (g.cut:Nat),.pointer z] 207));have E:Ext w3 a:=yF;have g4:a.heap[w3.heap.size]?=aM #[pp T,.slice q (mG ρ g.vars).length gc,zi (g.cut:Nat),.pointer z] 207:=yH;rw[<- jl];have hK4:eH w1 a:=u.trans (eH.dZ E);refine⟨(by grind [S3.of]),?_⟩;obtain⟨Q,r2⟩:=(t.ext E).KH (todo':=pp w3.heap.size) (l:=⟨O pA,g.vars,g.cut⟩::k.todo)
    ⟨_,_,_,_,J,g4,dL.iT hK4 p4,C.iT (K.trans hK4) (yM),N,o.td.bH hK4 (eg.refl _ _)⟩ J
   cases hr;exact⟨I.trans yF,J,ρ,eg.refl _ _,_,_,_,_,Q⟩
  rw[bZ O1] at hr;have aKj:¬ ((kind:Int)=59):=zo;refine cH @aKj ?_;by_cases O2:kind=63
  .subst O2;obtain⟨pa,pc,X⟩:=F.sl;have BY:XJ.length=parts.length:=H.GP;have h2:=O2 J;subst X
   match parts,h2 with
   | [pA,pB,pC],_=>
   obtain⟨pb,Ct,T,p1,p2,p3,p4⟩:=partAt F H (j:=0) zs;obtain⟨XK,XL,xb,L,KN,p3',TA⟩:=partAt F H (j:=1) zs;obtain⟨aVD,aVE,xc,q1',Nh,GS,TC⟩:=partAt F H (j:=2) zs;rw[p1] at L q1';simp only[aZZ,aZG,Addr.mk.injEq,and_true,true_and] at L q1';obtain⟨rfl,-⟩:=L;obtain⟨rfl,-⟩:=q1';rw[p2] at KN Nh;simp only[aZG,Obj.cells.injEq,and_true] at KN Nh;subst KN Nh;rw[p1] at y;simp only[a1s,a1S] at p4 TA TC;obtain⟨q,gc,Nc⟩:=C.sl;subst Nc;obtain⟨z,rfl⟩:=o.td.ptr;refine bE ?_;refine⟨S3 bb pb cap w1,⟨J,J,J⟩,?_⟩;refine PR y p2 (i:=2) zs GS J ?_;refine PT x ?_;refine XI x ?_;refine cH @W ?_;obtain⟨w2,jR⟩:=cd (w1.drew.alloc (ae #[pp xc,.slice q (mG ρ g.vars).length gc,zi (g.cut:Nat),.pointer z] 207));have oz:Ext w1 w2:=yF;have g2:w2.heap[w1.heap.size]?=aM #[pp xc,.slice q (mG ρ g.vars).length gc,zi (g.cut:Nat),.pointer z] 207:=yH;rw[<- jR];have Nf:eH w1 w2:=eH.dZ oz;refine⟨(by grind [S3.of]),?_⟩;have AP:uf ρ k.n w2 (pp w1.heap.size) (⟨O pC,g.vars,g.cut⟩::k.todo):=
    ⟨_,_,_,_,J,g2,dL.iT Nf TC,C.iT (K.trans Nf) (yM),N,o.td.bH Nf (eg.refl _ _)⟩
   refine aZJ (ad9 (o.ext oz) yH AP zg) ?_;rintro e w3 ⟨rfl,TB,rn,aod,t⟩;have rp:dc D w1 w3:=(dc.dZ oz).trans TB;have u:eH w1 w3:=dc.toI rp;have S:=u _ _ _ (yM) y;have R:=u _ _ _ (yM) p2;have q3:=u _ _ _ (yM) x;have c3:=t.cell;refine dH @c3 @S @R (zA @p3' @q3) ?_;obtain⟨a,jl⟩:=cd (w3.drew.alloc (ae (Value.agg #[pp xb,.slice q (mG ρ g.vars).length gc,zi (g.cut:Nat),.pointer z]).cells 207 (0,0)));have E:Ext w3 a:=yF;have g4:a.heap[w3.heap.size]?=aM #[pp xb,.slice q (mG ρ g.vars).length gc,zi (g.cut:Nat),.pointer z] 207:=by rw[jl];exact sx (yH)
   rw[<- jl];have bb4:=E.ext _ _ S;have p24:=E.ext _ _ R;have q4:=E.ext _ _ q3;have c4:=E.ext _ _ c3;have lw4:=bg c4;refine⟨S3 bb pb cap a,⟨J,J,J⟩,?_⟩;refine PR bb4 p24 (i:=0) zs p3 J ?_;refine PT q4 ?_;refine cH @c4 ?_;obtain⟨m,nZ⟩:=cd (a.drew.alloc (ae #[aq V,bV,zi (k.bw.length:Nat),pp w3.heap.size] 207));have qO:Ext a m:=yF;have s5:m.heap.size=a.heap.size+1:=yH;have g5:m.heap[a.heap.size]?=aM #[aq V,bV,zi (k.bw.length:Nat),pp w3.heap.size] 207:=yH;rw[<- nZ];obtain⟨B,oP⟩:=cd (m.alloc (ae #[pp T,.slice q (mG ρ g.vars).length gc,zi (k.bw.length:Nat),pp a.heap.size] 207));have Tv:Ext m B:=yF;have g6:B.heap[m.heap.size]?=aM #[pp T,.slice q (mG ρ g.vars).length gc,zi (k.bw.length:Nat),pp a.heap.size] 207:=yH;rw[<- oP];have DY:Ext w3 B:=yF;have U:eH w1 B:=u.trans (eH.dZ DY);refine⟨(by grind [S3.of]),(by grind [S3.of,bB.trans]),?_⟩;have gl:uf ρ k.n B (pp m.heap.size) (⟨O pA,g.vars,k.bw.length⟩::⟨V,[],k.bw.length⟩::⟨O pB,g.vars,g.cut⟩::k.todo):=
    ⟨_,_,_,_,J,g6,dL.iT U p4,C.iT (K.trans U) (yM),N,_,_,_,_,J,Tv.ext _ _ g5,J,.inl ⟨J,J⟩,(fun _ h=>by cases h),
     _,_,_,_,J,(qO.trans Tv).ext _ _ g4,dL.iT U TA,C.iT (K.trans U) (yM),N,o.td.bH U (eg.refl _ _)⟩
   rw[s5] at gl;obtain⟨Q,r2⟩:=(t.ext DY).KH gl J;cases hr;exact⟨I.trans (rp.trans yF),J,ρ,eg.refl _ _,_,_,_,_,Q⟩
  rw[bZ O2] at hr;have aKl:¬ ((kind:Int)=63):=zo;refine cH @aKl ?_;by_cases O3:kind=126
  .subst O3;obtain⟨pa,pc,X⟩:=F.sl;have BY:XJ.length=parts.length:=H.GP;have h2:=O3 J;subst X
   match parts,h2 with
   | [pA],_=>
   obtain⟨pb,Ct,T,p1,p2,p3,p4⟩:=partAt F H (j:=0) zs;rw[p1] at y;simp only[a1s] at p4;obtain⟨q,gc,Nc⟩:=C.sl;subst Nc;obtain⟨z,rfl⟩:=o.td.ptr;refine cH @W ?_;refine aZJ (ad9 o S8 o.td zg) ?_;rintro e w3 ⟨rfl,rp,rn,aod,t⟩;have u:eH w1 w3:=dc.toI rp;have S:=u _ _ _ (yM) y;have R:=u _ _ _ (yM) p2;have q3:=u _ _ _ (yM) x;have c3:=t.cell;refine bE ?_;obtain⟨wf,Cu⟩:=cd (w3.alloc (ae #[.int .u8 103,aT [102,97,105,108],bV,bV] 149 (0,0)));have aVF:Ext w3 wf:=yF;have sf:wf.heap.size=w3.heap.size+1:=yH;have gf:wf.heap[w3.heap.size]?=aM #[.int .u8 103,aT [102,97,105,108],bV,bV] 149:=yH;rw[<- Cu];obtain⟨a,jl⟩:=cd (wf.alloc (ae (Value.agg #[pp w3.heap.size,bV,zi 0,aq V]).cells 207 (0,0)));have g4:a.heap[wf.heap.size]?=aM #[pp w3.heap.size,bV,zi 0,aq V] 207:=by rw[jl];exact sx J
   rw[<- jl];have E:Ext w3 a:=yF;have bb4:=E.ext _ _ S;have p24:=E.ext _ _ R;have q4:=E.ext _ _ q3;have c4:=E.ext _ _ c3;have lw4:=bg c4;refine⟨S3 bb pb cap a,⟨J,J,J⟩,?_⟩;refine PR bb4 p24 (i:=0) zs p3 J ?_;refine PT q4 ?_;refine cH @c4 ?_;obtain⟨m,nZ⟩:=cd (a.drew.alloc (ae #[aq V,bV,zi (k.bw.length:Nat),pp wf.heap.size] 207));have qO:Ext a m:=yF;have s5:m.heap.size=a.heap.size+1:=yH;have g5:m.heap[a.heap.size]?=aM #[aq V,bV,zi (k.bw.length:Nat),pp wf.heap.size] 207:=yH;rw[<- nZ];obtain⟨B,oP⟩:=cd (m.alloc (ae #[pp T,.slice q (mG ρ g.vars).length gc,zi (k.bw.length:Nat),pp a.heap.size] 207));have Tv:Ext m B:=yF;have g6:B.heap[m.heap.size]?=aM #[pp T,.slice q (mG ρ g.vars).length gc,zi (k.bw.length:Nat),pp a.heap.size] 207:=yH;rw[<- oP];have qP:Ext a B:=yF;have DY:Ext w3 B:=yF;have U:eH w1 B:=u.trans (eH.dZ DY);refine⟨(by grind [S3.of]),(by grind [S3.of]),?_⟩;have XM:dL (fun _=>True) B (pp w3.heap.size) zl:=by
    unfold zl dL;exact⟨_,_,_,[],[],J,trivial,yH,.inl ⟨J,J⟩,by unfold eO;rfl,.inl ⟨J,J⟩,by unfold gx;rfl⟩
   have gl:uf ρ k.n B (pp m.heap.size) [⟨O pA,g.vars,k.bw.length⟩,⟨V,[],k.bw.length⟩,⟨O zl,[],0⟩]:=
    ⟨_,_,_,_,J,g6,dL.iT U p4,C.iT (K.trans U) (yM),N,_,_,_,_,J,Tv.ext _ _ g5,J,.inl ⟨J,J⟩,(fun _ h=>by cases h),
     _,_,_,_,J,qP.ext _ _ g4,XM,.inl ⟨J,J⟩,(fun _ h=>by cases h),J⟩
   rw[s5] at gl;obtain⟨Q,r2⟩:=(t.ext DY).KH gl J;cases hr;exact⟨I.trans (rp.trans yF),J,ρ,eg.refl _ _,_,_,_,_,Q⟩
  rw[bZ O3] at hr;have aKm:¬ ((kind:Int)=126):=zo;refine du @aKm x ?_;refine aZJ (aJ4 o S8 (hB.fr I) gL hM an8 (C.iT K (yM)) N eY (by grind [Sr.cU,Sr.dec]) yQ hr) ?_;rintro e w2 hp;exact EPost.aef (hp.of I)
end
