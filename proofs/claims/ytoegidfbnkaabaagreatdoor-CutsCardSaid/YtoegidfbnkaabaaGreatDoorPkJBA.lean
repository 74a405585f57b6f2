/- A part of one proof (KG10, KG11, KG12, KG13, KG14, ShX3c, KG14b, KG15, VT2, VT3). -/
import Derived.Test.YtoegidfbnkaabaaGreatDoorPkJAZ
set_option linter.all false
set_option maxRecDepth 100000
set_option maxHeartbeats 8000000
open Option renaming some → O, none → V
open Go renaming Value → Y, World → Z
open Bool renaming true → A
open Go.Obj renaming cells → ae
open Go.Ending renaming returned → ah
open Go.Value renaming nilIface → ai, tuple → ak, pointer → aq
open Go.Calls renaming mono → aZJ
open Nat renaming le_refl → aZK, le_trans → aZL, zero_le → aZY, add_zero → a1q
open List renaming length_append → aZO, drop_eq_getElem_cons → aZP, length_cons → aZQ, mem_append → aZW, mem_singleton → aZ4, length_nil → aZ5, range → aZ9, append_assoc → a0d, replicate → a0m
open Go.Instr renaming loadAt → aZX
open Go.Value.slice renaming injEq → aZZ
open Go.Value renaming string → aZ1
open Go.Proofs.Tryz renaming prog → a9L
namespace Go.Proofs.YtoegidfbnkaabaaGreatDoor
open P
open Go.RowKit Sx
variable{M N b base cap j mb n pb tb wb:Nat}{R:Ending->Z->Prop}{X:Y->Z->Prop}{cs:Array Y}{iv tv v vv:Y}{gj:List Y}{out s:Bs}{t:Tm}{gy:List Bd}{yZ:Mk}{fx:List Nat}{w w' w0:Z}
section
variable{base mb vb:Nat}{cut:Int}
def aOX{name:Bs}{args:List Ex}(iN:pb=103){k:Mk}{cs:Nat}
  (h:fJ base mb vb iv vv gj fx cut w k) (hk:GK N k) (hN:N+4*iR (.mk pb name args gy)<=90000) (rC:P.VK k) (U:eW k.vars.length M (.mk pb name args gy)) (hx:dL (fun _=>True) w v (.mk pb name args gy)) :
  Calls a9L 107 #[pp mb,v,zi (cs:Nat)] w (uu base mb vb vv fx cut w (kS (.mk pb name args gy) cs k)):=by
 suffices H:∀ R:Ending->Z->Prop,(∀ n w',uu base mb vb vv fx cut w (kS (.mk pb name args gy) cs k) n w'->R n w')->Calls a9L 107 #[pp mb,v,zi (cs:Nat)] w R from H _ fun _ _ h=>h;intro R c;unfold eW at U;obtain⟨o1,o2,o3,o4,o5,o6,o7,o8⟩:=U;unfold dL at hx;obtain⟨b,av,pv,di,us,rfl,-,a,W,X,lx,nF⟩:=hx;have hc:=h.cell;have lc:=bg hc;have lv:=bg h.vars.2;have Gm:=X.E9;obtain⟨aa,ac,rfl⟩:=W.sl;simp only[iR] at hN;subst iN;refine Ui ?_;unfold kS at c;rw[bZ zd,bZ zd,bZ zd,bZ zd,bZ zd] at c;refine cH a ?_;refine⟨fun m z w'=>∃ j f Bq Br g o ls v1,z 27=zi ((j:Nat):Int)/\z 15=v1/\j<=args.length/\m=args.length-j/\ls.length=j/\fJ base mb vb Bq vv Br (fx++g) cut w' f/\(∀ b∈g,w.heap.size<=b/\v1.ownBlock≠O b)/\iy base mb vb w w'/\od w.heap.size w' v1 ls /\
   P.uw k args j ls f/\GK o f/\o+fH (args.drop j)<=N+fH args/\f.vars=k.vars/\(∀ y∈ls,y<64)/\(ls=[]->v1 = bV),
  ⟨_,0,k,iv,gj,[],N,[],_,J,J,aZY _,J,J,zg,yH,yF,od.nil,P.uw.zero k args,hk,aZK _,J,zg,fun _=>J⟩,?_⟩
 intro m z d w3 hI;refine toPr ?_;obtain⟨j,f,Bq,Br,g,o,ls,v1,C,D,hj,rfl,Gt,E,Ud,q,r,F,t,hNj,I,afR,X6⟩:=hI;obtain⟨ra,rc,rfl⟩:=gV r;have Qu:=q.size;have dR:=fun b=>r.own (b:=b);by_cases i:j<args.length
 .have ql:j<di.length:=zo;obtain⟨sb1,IK,e3,e4,e5,e6⟩:=W.at' ql;obtain⟨u,e7,hu⟩:=eO.at' j i X;rw[e7] at e6;simp only[aZZ,true_and] at e3;obtain⟨rfl,rfl⟩:=e3;have jW:((j:Nat):Int).toNat=j:=zo;have I4:=h.oT q e5 zd;have K:((j:Nat):Int)<(di.length:Int):=zo;refine dH C K @I4 (zA @e6 @jW) ?_;have Bt:gZ f.vars.length args[j]:=by rw[I];exact o5.at i
  have PA:=Uc args j i;have afW:=Yr args j;refine aZJ (aqc _ args[j] (aZK _) E t zo (VK.of rC I) Bt (h.ex q hu)) ?_;rintro e w4 ⟨lW,l⟩;have Lb:=lW.size;cases ht:Ae args[j] f with
  | none=>
   rw[ht] at l;rw[F.none i ht] at c;have l:e=gR (.fault 4):=l;subst l;refine bE ?_;exact c _ _ ⟨yF,J⟩
  | some p=>
   obtain⟨s1,k4⟩:=p;rw[ht] at l;obtain⟨he,Lc,Ld,nj,NR,h4⟩:=l;subst he;obtain⟨g1,g2,g3⟩:=acY _ _ _ _ _ ht t Bt;have CK:=r.fr lW lc lv;have aqd:=fun b=>CK.own (b:=b);have aOP:=h4.ins.lt;refine cH D ?_;have x:∀ b∈fx++g++nj,(Value.slice ra ls.length rc).ownBlock≠O b:=fun b a he=>by
    rcases aZW.1 a with a | a
    .rcases aZW.1 a with a | a
     .have:=(dR b he).1;have:=h.ins.lt _ a;omega
     grind
    grind
   refine CK.push zo zo fun v5 w5 Qh iP xH=>?_;refine cH C ?_;refine⟨_,?_,j+1,k4,Lc,Ld,g++nj,o+iA args[j],ls++[s1],v5,zg,zg,zo,J,zg,?_,fun y L=>?_,iy.own yF iP yH,Qh,F.step i ht,g1,zo,g2.trans I,fun y L=>?_,zg⟩
   .omega
   .rw[<- a0d];exact h4.G2 iP yH x zg
   .exact yH
   grind
 .have i:j=args.length:=zo;subst i;have K:¬ (args.length:Int)<(di.length:Int):=zo;rw[F.done] at c;have c:∀ n w',uu base mb vb vv fx cut w (O (f.put (if jG name=ls.length then ni else Af) name V ls)) n w'->R n w':=c;have Q:=h.oT q a zd;refine iZ C K Q ?_;refine aZJ (Mq name) ?_;rintro e w4 ⟨rfl,rfl⟩;obtain⟨bl,G7,oK⟩:=r.sin X6;have x:∀ b∈bl,b ∉ fx++g/\b≠vb:=fun b a=>by
   have a:=oK b a;have:=(dR b a).1;refine⟨fun hm=>?_,zo⟩;rcases aZW.1 hm with hm | hm
   .have:=h.ins.lt _ hm;omega
   grind
  by_cases B:jG name=(ls.length:Int)
  .rw[zip B] at c;refine iZ D B Q ?_;refine aZJ (K9 E (wd:=ni) (nm:=name) (cv:=ai) (con:=V) (s:=ls) J G7 x (aZL t.len zo)) ?_;rintro e w6 ⟨rfl,pI,S,T,G8⟩;refine bE ?_;refine c _ _ ⟨yF,J,S,T,g++bl,fun y L=>?_,zg⟩;exact yH
  .rw[bZ B] at c;refine iZ D B Q ?_;refine aZJ (K9 E (wd:=Af) (nm:=name) (cv:=ai) (con:=V) (s:=ls) J G7 x (aZL t.len zo)) ?_;rintro e w6 ⟨rfl,pI,S,T,G8⟩;refine bE ?_;refine c _ _ ⟨yF,J,S,T,g++bl,fun y L=>?_,zg⟩;exact yH
end
section
variable{base mb vb:Nat}{cut:Int}
def aOY(ih:Uj base mb vb cut n){name:Bs}{args:List Ex}(hn:iR (.mk cap name args gy)<=n+1)(iN:cap=59){k:Mk}{cs:Nat}
  (h:fJ base mb vb iv vv gj fx cut w k) (hk:GK N k) (hN:N+4*iR (.mk cap name args gy)<=90000) (rC:P.VK k) (dx:eW k.vars.length M (.mk cap name args gy)) (hx:dL (fun _=>True) w v (.mk cap name args gy)) (E:cs<64) :
  Calls a9L 107 #[pp mb,v,zi (cs:Nat)] w (uu base mb vb vv fx cut w (kS (.mk cap name args gy) cs k)):=by
 suffices H:∀ R:Ending->Z->Prop,(∀ s w',uu base mb vb vv fx cut w (kS (.mk cap name args gy) cs k) s w'->R s w')->Calls a9L 107 #[pp mb,v,zi (cs:Nat)] w R from H _ fun _ _ h=>h;intro R d;unfold eW at dx;obtain⟨o1,o2,o3,o4,o5,o6,o7,o8⟩:=dx;unfold dL at hx;obtain⟨b,av,pv,vs,us,rfl,-,o,gw,DX,lx,F⟩:=hx;have hc:=h.cell;have uh:=F.GP;simp only[iR] at hn hN;subst iN;have BY:gy.length=2:=zo;obtain⟨pA,t,rfl⟩:∃ pA t,gy=[pA,t]:=by
  rcases gy with _ | ⟨a,_ | ⟨b,_ | ⟨c,r⟩⟩⟩<;>grind
 simp only[js,a1q] at hn hN;simp only[aZQ,aZ5] at uh;obtain⟨u0,Uk,Ul⟩:=gx.Cs 0 zs F;have aqq:=o8.at (j:=0) zs;obtain⟨u1,eu1,uk⟩:=gx.Cs 1 zs F;have Yv:=o8.at (j:=1) zs;obtain⟨pb,Ct,e3,e4,e5,Lf⟩:=lx.at' (j:=0) zo;rw[Uk] at Lf;subst e3;have I:Ct[1]?=O u1:=by
  obtain⟨XK,XL,e3,-,e5',Yw⟩:=lx.at' (j:=1) zo;grind
 have lQ:∀ q:Nat,q<us.length->(q:Int)<(us.length:Int):=zg;have pG:=lQ 0 zo;have Yb:=lQ 1 zo;have Um:((0:Nat):Int).toNat=0:=rfl;have L:((1:Nat):Int).toNat=1:=rfl;refine Ui ?_;unfold kS at d;rw[bZ zd,bZ zd,zip rfl] at d;refine cH o ?_;have NS:iy base mb vb w w:=yF;have jU:k.vars=k.vars:=rfl;have d:∀ s w',uu base mb vb vv fx cut w (Dy [pA,t] cs k) s w'->R s w':=d;unfold Dy at d;refine aZJ (Uf h (aZL hk.len zo) kf) ?_;rintro e w3 ⟨Un,iv3,aqt,g3,f3,rfl,AY,h3,L3⟩;have u:=NS.trans Un;have Qu:=u.size;have qC:GK (N+1) (k.put kf [] V [0]):=hk.put (qK zd zs zo);have eK:=h.oT u o zd;have p3:=h.oT u e5 zd;refine dH eK @p3 pG (zA @Um @Lf) ?_;refine aZJ (ih pA zo h3 qC zo (VK.of rC jU) (by show eW k.vars.length M pA;grind) (h.bd u Ul) E) ?_;rintro e w4 ⟨Lg,f⟩;have Q:=u.trans Lg;have Lb:=Q.size;cases z:kS pA cs (k.put kf [] V [0]) with
 | none=>
  rw[z] at f d;have f:e=gR (.fault 4):=f;subst f;exact d _ _ ⟨Q,J⟩
 | some i=>
 rw[z] at f d;dsimp only at d;obtain⟨rfl,Lc,Ld,l,NR,h4⟩:=f;obtain⟨yh,S⟩:=DI _ _ _ _ _ z qC (by show eW k.vars.length M pA;grind) E zo;have S:i.vars=k.vars:=S.trans jU;have L4:=L3.fr h3 Lg NR;obtain⟨T,GU⟩:=Ak _ _ _ _ z;have hi4:i.ins=k.ins++⟨kf,[],V,[0]⟩::T:=by rw[GU];show(k.ins++[_])++T=_;grind
 have uI:fx++[g3]++l=fx++g3::l:=zg;refine bE ?_;refine aZJ (Uf h4 (aZL yh.len zo) jL) ?_;rintro e w8 ⟨Uq,U,W,g8,f8,rfl,hg8,h8,L8⟩;have NT:=Q.trans Uq;have hk8:GK ((N+1+4*iR pA)+1) (i.put jL [] V [0]):=yh.put (qK zd zs zo);have L8b:=L4.fr h4 Uq (bl:=[g8]) (fun b o=>by rw[aZ4] at o;omega);have hi8:(i.put jL [] V [0]).ins=k.ins++⟨kf,[],V,[0]⟩::(T++[⟨jL,[],V,[0]⟩]):=by show i.ins++[_]=_;grind
 have fw:k.ins.length<i.ins.length:=zg;obtain⟨X,hX,VU⟩:=P.aql (m:=i) (w:=jL) (j:=k.ins.length) fw;obtain⟨k9,B⟩:=cd ((i.put jL [] V [0]).land k.ins.length);have I5:GK ((N+1+4*iR pA)+1) k9:=by rw[B];exact hk8.land zo _
 have Fw:k9.vars=k.vars:=by rw[B];exact S
 rw[<- B] at hX d;obtain⟨sb8,aO2⟩:=cd ((fx++[g3]++l)++[g8]);obtain⟨xb,yb,hf,hC⟩:=Ug h8 L8b hi8 J J (s1:=fx) (g:=g3) (s2:=l++[g8]) zs h.ins.Qx (K:=fun e x=>e = ah (ak #[])/\iy base mb vb w x/\bB (fun b _=>O g3=O b) w8 x/\(∃ cs,w8.heap[g3]?=aM cs 3)/\fJ base mb vb U vv W ((fx++[g3]++l)++[g8]) cut x ((i.put jL [] V [0]).land k.ins.length))
  (fun x C wi p=>⟨J,iy.own NT C yH,C,wi,p⟩)
 subst hf;refine bE ?_;refine⟨zk,?_⟩;refine aZJ hC ?_;rintro e x ⟨rfl,y,C,wi,p⟩;rw[<- B] at p;have sz9:=y.size;have L9:=L8.G2 (g:=g3) zs wi C;have Ur:=h.oT y o zd;have p9:=h.oT y e5 zd;refine dH Ur @p9 Yb (zA @L @I) ?_;refine aZJ (ih t zo p I5 zo (VK.of rC Fw) (by rw[Fw];exact Yv) (h.bd y uk) E) ?_;rintro e jg ⟨Us,f⟩;have D9:=y.trans Us;have aqv:=D9.size;rw[P.aqk] at d;cases NU:kS t cs k9 with
 | none=>
  rw[NU] at f d;have f:e=gR (.fault 4):=f;subst f;exact d _ _ ⟨D9,J⟩
 | some NM=>
 rw[NU] at f d;dsimp only at d;obtain⟨rfl,Ut,Uu,NV,af8,oN⟩:=f;have L10:=L9.fr p Us af8;obtain⟨r10,aqw⟩:=Ak _ _ _ _ NU;have agb:NM.ins=X++⟨jL,[],V,[0]⟩::r10:=zg;have hcX:(fx++[g3]++l).length=xU X:=by
  have:=p.ins.Qx;rw[hX,afX,aZO] at this;have e1:xU [(⟨jL,[],V,[0]⟩:P.In)]=1:=rfl;grind
 obtain⟨xc,yc,eV,hC2⟩:=Ug oN L10 agb VU J (s1:=(fx++[g3]++l)) (g:=g8) (s2:=NV) zs hcX (K:=fun e D=>e = ah (ak #[])/\iy base mb vb w D/\fJ base mb vb Ut vv Uu ((fx++[g3]++l)++[g8]++NV) cut D (NM.land i.ins.length))
  (fun D age _ Gk=>⟨J,iy.own D9 age yH,Gk⟩)
 subst eV;refine bE ?_;refine⟨zk,?_⟩;refine aZJ hC2 ?_;rintro e D ⟨rfl,Yx,Gk⟩;refine bE ?_;refine d _ _ ⟨Yx,J,Ut,Uu,[g3]++l++[g8]++NV,fun b o=>?_,?_⟩
 .simp only[aZW,aZ4] at o;grind
 grind
end
section
variable{base mb vb:Nat}{cut:Int}
def aO5(ih:Uj base mb vb cut n){name:Bs}{args:List Ex}(hn:iR (.mk cap name args gy)<=n+1)(iN:cap=63){k:Mk}{cs:Nat}
  (h:fJ base mb vb iv vv gj fx cut w k) (hk:GK N k) (hN:N+4*iR (.mk cap name args gy)<=90000) (rC:P.VK k) (dx:eW k.vars.length M (.mk cap name args gy)) (hx:dL (fun _=>True) w v (.mk cap name args gy)) (jI:cs<64) :
  Calls a9L 107 #[pp mb,v,zi (cs:Nat)] w (uu base mb vb vv fx cut w (kS (.mk cap name args gy) cs k)):=by
 suffices H:∀ R:Ending->Z->Prop,(∀ E w',uu base mb vb vv fx cut w (kS (.mk cap name args gy) cs k) E w'->R E w')->Calls a9L 107 #[pp mb,v,zi (cs:Nat)] w R from H _ fun _ _ h=>h;intro R i;unfold eW at dx;obtain⟨o1,o2,o3,o4,o5,o6,o7,o8⟩:=dx;unfold dL at hx;obtain⟨b,av,pv,vs,us,rfl,-,l,gw,DX,lx,W⟩:=hx;have hc:=h.cell;have lv:=bg h.vars.2;have uh:=W.GP;simp only[iR] at hn hN;subst iN;have BY:gy.length=3:=zo;obtain⟨pA,z,F,rfl⟩:∃ pA z F,gy=[pA,z,F]:=by
  rcases gy with _ | ⟨a,_ | ⟨b,_ | ⟨c,_ | ⟨d,r⟩⟩⟩⟩<;>grind
 simp only[js,a1q] at hn hN;simp only[aZQ,aZ5] at uh;obtain⟨u0,Uk,Ul⟩:=gx.Cs 0 zs W;have aqq:=o8.at (j:=0) zs;obtain⟨u1,eu1,uk⟩:=gx.Cs 1 zs W;have Yv:=o8.at (j:=1) zs;obtain⟨u2,eu2,Fe⟩:=gx.Cs 2 zs W;have aO6:=o8.at (j:=2) zs;obtain⟨pb,Ct,e3,e4,e5,Lf⟩:=lx.at' (j:=0) zo;rw[Uk] at Lf;subst e3;have e61:Ct[1]?=O u1:=by
  obtain⟨XK,XL,e3,-,e5',Yw⟩:=lx.at' (j:=1) zo;grind
 have e62:Ct[2]?=O u2:=by
  obtain⟨XK,XL,e3,-,e5',Yw⟩:=lx.at' (j:=2) zo;grind
 have lQ:∀ q:Nat,q<us.length->(q:Int)<(us.length:Int):=zg;have pG:=lQ 0 zo;have Yb:=lQ 1 zo;have hi2:=lQ 2 zo;have Um:((0:Nat):Int).toNat=0:=rfl;have ei1:((1:Nat):Int).toNat=1:=rfl;have ei2:((2:Nat):Int).toNat=2:=rfl;refine Ui ?_;unfold kS at i;rw[bZ zd,bZ zd,bZ zd,zip rfl] at i;refine cH l ?_;refine aZJ (K8 h hk.slots) ?_;rintro e w1 ⟨D7,f⟩;cases j8:k.slot with
 | none=>
  rw[j8] at f i;have f:e=gR (.fault 4):=f;subst f;refine bE ?_;exact i _ _ ⟨D7,J⟩
 | some p=>
 obtain⟨s1,k1⟩:=p;rw[j8] at f i;obtain⟨he,h1⟩:e = ah (zi (s1:Nat))/\fJ base mb vb iv vv gj fx cut w1 k1:=f;subst he;obtain⟨q1,q2,q3,-⟩:=hk.slot j8;have sz1:=D7.size;refine bE ?_;refine Ft h1 (wd:=qH) (nm:=[]) (cv:=ai) (con:=V) (s:=[s1]) zs J (aZL q1.len zo) zo ?_;rintro w2 I6 ⟨NW,Qz,h2⟩;have NS:=D7.trans I6;have sz2:=NS.size;have sJ:GK (N+1) (k1.put qH [] V [s1]):=q1.put (qK zd zs zo);have jU:(k1.put qH [] V [s1]).vars=k.vars:=q3;obtain⟨o,Qi⟩:=cd (k1.put qH [] V [s1]);rw[<- Qi] at h2 sJ jU;obtain⟨x,agf⟩:=cd (fx++[w1.heap.size]);rw[<- agf] at h2;refine bE ?_;have i:∀ E w',uu base mb vb vv fx cut w (Dz [pA,z,F] s1 cs o) E w'->R E w':=by rw[Qi];exact i
 unfold Dz at i;refine aZJ (Uf h2 (aZL sJ.len zo) kf) ?_;rintro e w3 ⟨Un,iv3,aqt,g3,f3,rfl,AY,h3,L3⟩;have I:=NS.trans Un;have Qu:=I.size;have qC:GK (N+1+1) (o.put kf [] V [0]):=sJ.put (qK zd zs zo);have eK:=h.oT I l zd;have p3:=h.oT I e5 zd;refine dH eK @p3 pG (zA @Um @Lf) ?_;refine aZJ (ih pA zo h3 qC zo (VK.of rC jU) (by show eW o.vars.length M pA;grind) (h.bd I Ul) q2) ?_;rintro e y ⟨Lg,f⟩;have lW:=I.trans Lg;have Lb:=lW.size;cases vO:kS pA s1 (o.put kf [] V [0]) with
 | none=>
  rw[vO] at f i;have f:e=gR (.fault 4):=f;subst f;refine bE ?_;exact i _ _ ⟨lW,J⟩
 | some B=>
 rw[vO] at f i;dsimp only at i;obtain⟨rfl,Lc,Ld,u,NR,h4⟩:=f;obtain⟨yh,vf⟩:=DI _ _ _ _ _ vO qC (by show eW o.vars.length M pA;grind) q2 zo;have vf:B.vars=k.vars:=vf.trans jU;have L4:=L3.fr h3 Lg NR;obtain⟨L,GU⟩:=Ak _ _ _ _ vO;have hi4:B.ins=o.ins++⟨kf,[],V,[0]⟩::L:=by rw[GU];show(o.ins++[_])++L=_;grind
 have uI:x++[g3]++u=x++g3::u:=zg;refine bE ?_;refine Ft h4 (wd:=kR) (nm:=[]) (cv:=ai) (con:=V) (s:=[s1]) zs J (aZL yh.len zo) zo ?_;rintro w5 Uv ⟨iv5,agi,h5⟩;have Q:=lW.trans Uv;have sz5:=Q.size;have qF:GK ((N+1+1+4*iR pA)+1) (B.put kR [] V [s1]):=yh.put (qK zd zs zo);have xH:(B.put kR [] V [s1]).vars=k.vars:=vf;have L5:=L4.fr h4 Uv (bl:=[y.heap.size]) (fun b l=>by rw[aZ4] at l;omega);have hi5:(B.put kR [] V [s1]).ins=o.ins++⟨kf,[],V,[0]⟩::(L++[⟨kR,[],V,[s1]⟩]):=by show B.ins++[_]=_;grind
 obtain⟨k5,agl⟩:=cd (B.put kR [] V [s1]);rw[<- agl] at h5 qF xH hi5 i;have Th:=h.oT Q l zd;have p5:=h.oT Q e5 zd;unfold EV at i;refine dH Th @p5 Yb (zA @ei1 @e61) ?_;refine aZJ (ih z zo h5 qF zo (VK.of rC xH) (by rw[xH];exact Yv) (h.bd Q uk) jI) ?_;rintro e w6 ⟨Uw,f⟩;have pI:=Q.trans Uw;have sz6:=pI.size;cases J7:kS z cs k5 with
 | none=>
  rw[J7] at f i;have f:e=gR (.fault 4):=f;subst f;exact i _ _ ⟨pI,J⟩
 | some t=>
 rw[J7] at f i;dsimp only at i;obtain⟨rfl,tj,tl,C,Yu,h6⟩:=f;obtain⟨S,AQ⟩:=DI (M:=M) (nv:=k.vars.length) _ _ _ _ _ J7 qF Yv jI zo;have AQ:t.vars=k.vars:=AQ.trans xH;have L6:=L5.fr h5 Uw Yu;obtain⟨r6,hr6⟩:=Ak _ _ _ _ J7;have hi6:t.ins=o.ins++⟨kf,[],V,[0]⟩::(L++[⟨kR,[],V,[s1]⟩]++r6):=zg;refine bE ?_;refine aZJ (Uf h6 (aZL S.len zo) jL) ?_;rintro e w8 ⟨Uq,iv8,af1,g8,f8,rfl,hg8,h8,L8⟩;have NT:=pI.trans Uq;have hk8:GK ((((N+1+1+4*iR pA)+1)+4*iR z)+1) (t.put jL [] V [0]):=S.put (qK zd zs zo);have L8b:=L6.fr h6 Uq (bl:=[g8]) yH;have hi8:(t.put jL [] V [0]).ins=o.ins++⟨kf,[],V,[0]⟩::((L++[⟨kR,[],V,[s1]⟩]++r6)++[⟨jL,[],V,[0]⟩]):=by show t.ins++[_]=_;grind
 have fw:o.ins.length<t.ins.length:=zg;obtain⟨X,hX,VU⟩:=P.aql (m:=t) (w:=jL) (j:=o.ins.length) fw;obtain⟨k9,Fv⟩:=cd ((t.put jL [] V [0]).land o.ins.length);have I5:GK ((((N+1+1+4*iR pA)+1)+4*iR z)+1) k9:=by rw[Fv];exact hk8.land zo _
 have Fw:k9.vars=k.vars:=by rw[Fv];exact AQ
 rw[<- Fv] at hX i;obtain⟨sb8,aO2⟩:=cd ((x++[g3]++u++[y.heap.size]++C)++[g8]);obtain⟨xb,yb,hf,hC⟩:=Ug h8 L8b hi8 J J (s1:=x) (g:=g3) (s2:=(u++[y.heap.size]++C)++[g8]) zs h2.ins.Qx (K:=fun e T=>e = ah (ak #[])/\iy base mb vb w T/\bB (fun b _=>O g3=O b) w8 T/\(∃ cs,w8.heap[g3]?=aM cs 3)/\fJ base mb vb iv8 vv af1 ((x++[g3]++u++[y.heap.size]++C)++[g8]) cut T ((t.put jL [] V [0]).land o.ins.length))
  (fun T B0 wi D=>⟨J,iy.own NT B0 yH,B0,wi,D⟩)
 subst hf;refine bE ?_;refine⟨zk,?_⟩;refine aZJ hC ?_;rintro e T ⟨rfl,U,B0,wi,D⟩;rw[<- Fv] at D;have sz9:=U.size;have L9:=L8.G2 (g:=g3) zs wi B0;have Ur:=h.oT U l zd;have p9:=h.oT U e5 zd;refine dH Ur @p9 hi2 (zA @ei2 @e62) ?_;refine aZJ (ih F zo D I5 zo (VK.of rC Fw) (by rw[Fw];exact aO6) (h.bd U Fe) jI) ?_;rintro e jg ⟨Us,f⟩;have D9:=U.trans Us;have aqv:=D9.size;rw[P.aqk] at i;cases NU:kS F cs k9 with
 | none=>
  rw[NU] at f i;have f:e=gR (.fault 4):=f;subst f;exact i _ _ ⟨D9,J⟩
 | some NM=>
 rw[NU] at f i;dsimp only at i;obtain⟨rfl,Ut,Uu,NV,af8,oN⟩:=f;have L10:=L9.fr D Us af8;obtain⟨r10,aqw⟩:=Ak _ _ _ _ NU;have agb:NM.ins=X++⟨jL,[],V,[0]⟩::r10:=zg;have hcX:(x++[g3]++u++[y.heap.size]++C).length=xU X:=by
  have:=D.ins.Qx;rw[hX,afX,aZO] at this;have e1:xU [(⟨jL,[],V,[0]⟩:P.In)]=1:=rfl;exact yH
 obtain⟨xc,yc,eV,hC2⟩:=Ug oN L10 agb VU J (s1:=(x++[g3]++u++[y.heap.size]++C)) (g:=g8) (s2:=NV) zs hcX (K:=fun e jc=>e = ah (ak #[])/\iy base mb vb w jc/\fJ base mb vb Ut vv Uu ((x++[g3]++u++[y.heap.size]++C)++[g8]++NV) cut jc (NM.land t.ins.length))
  (fun jc age _ Gk=>⟨J,iy.own D9 age yH,Gk⟩)
 subst eV;refine bE ?_;refine⟨zk,?_⟩;refine aZJ hC2 ?_;rintro e jc ⟨rfl,Yx,Gk⟩;refine bE ?_;refine i _ _ ⟨Yx,J,Ut,Uu,[w1.heap.size]++[g3]++u++[y.heap.size]++C++[g8]++NV,fun b l=>?_,?_⟩
 .simp only[aZW,aZ4] at l;rcases l with(((((l | l) | l) | l) | l) | l) | l
  .omega
  .omega
  .exact yH
  .omega
  .exact yH
  .omega
  exact yH
 exact yH
end
section
variable{base mb vb:Nat}{cut:Int}
def aPc(ih:Uj base mb vb cut n){name:Bs}{args:List Ex}(hn:iR (.mk cap name args gy)<=n+1)(iN:cap=126){k:Mk}{cs:Nat}
  (h:fJ base mb vb iv vv gj fx cut w k) (hk:GK N k) (hN:N+4*iR (.mk cap name args gy)<=90000) (rC:P.VK k) (dx:eW k.vars.length M (.mk cap name args gy)) (hx:dL (fun _=>True) w v (.mk cap name args gy)) (jI:cs<64) :
  Calls a9L 107 #[pp mb,v,zi (cs:Nat)] w (uu base mb vb vv fx cut w (kS (.mk cap name args gy) cs k)):=by
 suffices H:∀ R:Ending->Z->Prop,(∀ m w',uu base mb vb vv fx cut w (kS (.mk cap name args gy) cs k) m w'->R m w')->Calls a9L 107 #[pp mb,v,zi (cs:Nat)] w R from H _ fun _ _ h=>h;intro R c;unfold eW at dx;obtain⟨o1,o2,o3,o4,o5,o6,o7,o8⟩:=dx;unfold dL at hx;obtain⟨b,av,pv,vs,us,rfl,-,i,gw,DX,lx,nF⟩:=hx;have hc:=h.cell;have lv:=bg h.vars.2;have uh:=nF.GP;simp only[iR] at hn hN;subst iN;have BY:gy.length=1:=zo;obtain⟨pA,rfl⟩:∃ pA,gy=[pA]:=by
  rcases gy with _ | ⟨a,_ | ⟨b,r⟩⟩<;>grind
 simp only[js,a1q] at hn hN;simp only[aZQ,aZ5] at uh;obtain⟨u0,Uk,Ul⟩:=gx.Cs 0 zs nF;have aqq:=o8.at (j:=0) zs;obtain⟨pb,Ct,e3,e4,e5,Lf⟩:=lx.at' (j:=0) zo;rw[Uk] at Lf;subst e3;have lQ:∀ q:Nat,q<us.length->(q:Int)<(us.length:Int):=zg;have pG:=lQ 0 zo;have Um:((0:Nat):Int).toNat=0:=rfl;refine Ui ?_;unfold kS at c;rw[bZ zd,bZ zd,bZ zd,bZ zd,zip rfl] at c;refine cH i ?_;refine aZJ (K8 h hk.slots) ?_;rintro e w1 ⟨E,d⟩;cases F:k.slot with
 | none=>
  rw[F] at d c;have d:e=gR (.fault 4):=d;subst d;refine bE ?_;exact c _ _ ⟨E,J⟩
 | some p=>
 obtain⟨s1,u⟩:=p;rw[F] at d c;obtain⟨he,h1⟩:e = ah (zi (s1:Nat))/\fJ base mb vb iv vv gj fx cut w1 u:=d;subst he;obtain⟨q1,q2,q3,-⟩:=hk.slot F;have sz1:=E.size;refine bE ?_;refine Ft h1 (wd:=qH) (nm:=[]) (cv:=ai) (con:=V) (s:=[s1]) zs J (aZL q1.len zo) zo ?_;rintro w2 I6 ⟨NW,Qz,x⟩;have NS:=E.trans I6;have sz2:=NS.size;have I:GK (N+1) (u.put qH [] V [s1]):=q1.put (qK zd zs zo);have L:(u.put qH [] V [s1]).vars=k.vars:=q3;obtain⟨f,Qi⟩:=cd (u.put qH [] V [s1]);rw[<- Qi] at x I L;have aXK:∀ b∈[w1.heap.size],w.heap.size<=b:=yH;obtain⟨y,Q⟩:=cd (fx++[w1.heap.size]);rw[<- Q] at x;refine bE ?_;have c:∀ m w',uu base mb vb vv fx cut w (DA [pA] s1 f) m w'->R m w':=by rw[Qi];exact c
 unfold DA at c;refine aZJ (Uf x (aZL I.len zo) kf) ?_;rintro e w3 ⟨Un,iv3,aqt,g3,f3,rfl,AY,h3,L3⟩;have o:=NS.trans Un;have Qu:=o.size;have qC:GK (N+1+1) (f.put kf [] V [0]):=I.put (qK zd zs zo);have eK:=h.oT o i zd;have p3:=h.oT o e5 zd;refine dH eK @p3 pG (zA @Um @Lf) ?_;refine aZJ (ih pA zo h3 qC zo (VK.of rC L) (by show eW f.vars.length M pA;grind) (h.bd o Ul) q2) ?_;rintro e z ⟨Lg,d⟩;have S:=o.trans Lg;have Lb:=S.size;cases B:kS pA s1 (f.put kf [] V [0]) with
 | none=>
  rw[B] at d c;have d:e=gR (.fault 4):=d;subst d;refine bE ?_;exact c _ _ ⟨S,J⟩
 | some l=>
 rw[B] at d c;dsimp only at c;obtain⟨rfl,Lc,Ld,t,NR,h4⟩:=d;obtain⟨yh,T⟩:=DI _ _ _ _ _ B qC (by show eW f.vars.length M pA;grind) q2 zo;have T:l.vars=k.vars:=T.trans L;have L4:=L3.fr h3 Lg NR;obtain⟨C,GU⟩:=Ak _ _ _ _ B;have hi4:l.ins=f.ins++⟨kf,[],V,[0]⟩::C:=by rw[GU];show(f.ins++[_])++C=_;grind
 have uI:y++[g3]++t=y++g3::t:=zg;refine bE ?_;refine Ft h4 (wd:=kR) (nm:=[]) (cv:=ai) (con:=V) (s:=[s1]) zs J (aZL yh.len zo) zo ?_;rintro w5 Uv ⟨iv5,agi,U⟩;have pH:=S.trans Uv;have qF:GK ((N+1+1+4*iR pA)+1) (l.put kR [] V [s1]):=yh.put (qK zd zs zo);have xH:(l.put kR [] V [s1]).vars=k.vars:=T;have L5:=L4.fr h4 Uv (bl:=[z.heap.size]) (fun b i=>by rw[aZ4] at i;omega);have W:(l.put kR [] V [s1]).ins=f.ins++⟨kf,[],V,[0]⟩::(C++[⟨kR,[],V,[s1]⟩]):=by show l.ins++[_]=_;grind
 obtain⟨X,agl⟩:=cd (l.put kR [] V [s1]);rw[<- agl] at U qF xH W c;refine bE ?_;refine aZJ (K9 U (wd:=ni) (nm:=[102,97,105,108]) (cv:=ai) (con:=V) (s:=[]) (sv:=bV) (bl:=[]) J (.inl zg) yH (aZL qF.len zo)) ?_;rintro e w6 ⟨rfl,Uw,tj,tl,h6⟩;have pI:=pH.trans Uw;have L6:=L5.fr U Uw (bl:=[]) (fun b i=>by cases i);have hi6:(X.put ni [102,97,105,108] V []).ins=f.ins++⟨kf,[],V,[0]⟩::(C++[⟨kR,[],V,[s1]⟩]++[⟨ni,[102,97,105,108],V,[]⟩]):=by show X.ins++[_]=_;grind
 obtain⟨xb,yb,hf,hC⟩:=Ug h6 L6 hi6 J J (s1:=y) (g:=g3) (s2:=t++[z.heap.size]++[]) zs x.ins.Qx (K:=fun e D=>e = ah (ak #[])/\iy base mb vb w D/\fJ base mb vb tj vv tl (y++[g3]++t++[z.heap.size]++[]) cut D ((X.put ni [102,97,105,108] V []).land f.ins.length))
  (fun D AR _ h7=>⟨J,iy.own pI AR yH,h7⟩)
 subst hf;refine bE ?_;refine⟨zk,?_⟩;refine aZJ hC ?_;rintro e D ⟨rfl,Fx,h7⟩;refine bE ?_;refine c _ _ ⟨Fx,J,tj,tl,[w1.heap.size]++[g3]++t++[z.heap.size],fun b i=>?_,?_⟩<;>grind
end
def QA{base mb vb:Nat}{cut:Int}:∀ n,Uj base mb vb cut n
 | 0,x,c=>by have:=amj x;omega
 | n+1,.mk kind name args parts,c=>by
  intro h hk d e b hx f;have o:=b;unfold eW at o;rcases o.2.1 with a | a | a | a | a | a
  .exact aqp (QA n) c (.inl a) h hk d e b hx f
  .exact aqp (QA n) c (.inr a) h hk d e b hx f
  .exact aOY (QA n) c a h hk d e b hx f
  .exact aO5 (QA n) c a h hk d e b hx f
  .exact aPc (QA n) c a h hk d e b hx f
  .exact aOX a h hk d e b hx
open Go.Proofs.YtoegidfbnkaabaaGreatDoor.Sx
section
variable{p0 p1 p2 p3 p4 p5 p6 p7:Y}{w:Z}{R:Ending->Z->Prop}
def aPd:=cz w R [p0,p1] (gd [(3,[24]),(8,[39]),(13,[50]),(21,[89]),(26,[104])] [(17006,[]),(35002,[])] [(32,9)] [(15,[9,0,1,2,3,4,5,6,7,8]),(29,[9,0,1,2,3,4,5,6,7,8])] [] [] [1,25,40,44,51,90,105,114,144]) Tryz.func80
end
def P.GK.aqz{s:Nat}{k:Mk}(h:GK N k)(b:k.slot=O (s,yZ)):GK (N+1) (Mk.put { yZ with vars:=yZ.vars.set j (O s) } P.tT [] V [s]):=by
 obtain⟨g1,g2,g3,-⟩:=h.slot b;have hv:GK N { yZ with vars:=yZ.vars.set j (O s) }:=⟨g1.len,g1.ins,g1.slots,fun y a t ht=>by
  rcases List.mem_or_eq_of_mem_set a with a | a
  .exact g1.vars y a t ht
  grind⟩
 exact hv.put (qK zd zs zo)
section
variable{base mb vb:Nat}{iv vv:Y}{gj:List Y}{sb:List Nat}{cut:Int}{w:Z}{k:Mk}
def aqA(h:fJ base mb vb iv vv gj sb cut w k)(hk:GK N k)(hN:N<=90000)(hj:j<k.vars.length)(No:k.vars.length<=12){K:Z->Prop}(hR:k.slot=V->∀ w',iy base mb vb w w'->R (gR (.fault 4)) w')
  (hK:∀ s b w',k.slot=O (s,b)->iy base mb vb w w'->(∃ th ti y3,fJ base mb vb th vv ti y3 cut w' (Mk.put { b with vars:=b.vars.set j (O s) } P.tT [] V [s]))->K w') :
  HD fun S=>S w.drew /\
   NC (pp mb) fun q=>
   uy a9L (Instr.fieldAt 247 q 1) S (fun r=>
   uy a9L (aZX 45 r) S (fun t=>
   CA a9L 104 #[pp mb] w.drew (fun u x=>
   S x /\
   RD a9L (Instr.indexAt 45 t (zi (j:Int))) x (fun y=>
   WU a9L (Instr.storeAt 3 y u) x (fun f=>
   NC (pp mb) fun z=>
   RD a9L (Instr.fieldAt 247 z 1) f (fun B=>
   RD a9L (aZX 45 B) f (fun C=>
   RD a9L (Instr.indexAt 45 C (zi (j:Int))) f (fun D=>
   RD a9L (aZX 3 D) f (fun E=>
   WR a9L (Instr.buildSlice 45 1 #[(0,E)]) f (fun F MY=>
   CA a9L 105 #[pp mb,(aT [110,101,119]),(aT []),ai,F] MY (fun _ MZ=>K MZ) (PC R)) (PX R)) (PX R)) (PX R)) (PX R)) (PX R)) (PXA R)) NX) (Lv R))):=by
 have hc:=h.cell;obtain⟨W,jU⟩:=h.vars;have lv:=bg jU;have X:Ext w w.drew:=yF;have H:(j:Int).toNat=j:=zo;have I:(j:Int)<(k.vars.length:Int):=zo;refine⟨fun w'=>∃ n i c,w'.heap[mb]?=aM #[n,i,vv,c] 247,yH,?_⟩;rw[ju];refine cO (pq mb 2) (fun w' hS=>eR) ?_;refine cO vv (fun w' hS=>by
  obtain⟨n,i,c,L⟩:=hS;rw[W] at L ⊢;have:=bg L;simp (disch:=first|assumption|omega|simp only[zS]<;>omega|decide) only[zB,simprocAttr,kJ,L]) ?_
 refine aZJ (K8 (h.ext X) hk.slots) ?_;rintro e M ⟨pH,d⟩;have g:=(bB.dZ X).trans pH;cases l:k.slot with
 | none=>
  rw[l] at d;have d:e=gR (.fault 4):=d;subst d;exact fun _=>hR l _ g
 | some p=>
  obtain⟨s1,b⟩:=p;rw[l] at d;obtain⟨he,Q⟩:e = ah (zi (s1:Nat))/\fJ base mb vb iv vv gj sb cut M b:=d;subst he;obtain⟨q1,q2,q3,-⟩:=hk.slot l;refine⟨⟨_,_,_,Q.cell⟩,?_⟩;have F7:j<b.vars.length:=zg;obtain⟨s2,s3⟩:=Q.ap8 (s:=s1) F7 (by have:=g.size;omega);have m:=Q.vars.2;have La:(b.vars.map tg).toArray.size=b.vars.length:=zs;obtain⟨a,hA⟩:=cd ((b.vars.map tg).toArray);rw[<- hA] at m s2 s3 La;have hjA:j<a.size:=zo;obtain⟨w6,o⟩:=cd (bO M vb (ae (a.setIfInBounds j (zi (s1:Int))) 3 (0,0)));have g6:w6.heap[vb]?=aM (a.setIfInBounds j (zi (s1:Int))) 3:=yH;rw[<- o] at s2 s3;have T:=s2.cell;rw[W] at T ⊢;have jC:(a.setIfInBounds j (zi (s1:Int)))[j]?=O (zi (s1:Int)):=zg;refine iZ I m @H ?_;rw[<- o];refine dH T @g6 jC (zA @H I) ?_;rw[<- o];refine dH T @g6 jC (zA @H I) ?_;rw[<- o];have U:w6.heap.size=M.heap.size:=yH;rw[<- U];refine Ft s2 (wd:=P.tT) (nm:=[]) (cv:=ai) (con:=V) (s:=[s1]) zs J (aZL q1.len zo) (yH) ?_;rintro w7 Fx ⟨iv7,aXN,h7⟩;exact hK s1 b w7 l yF zg
end
def rD(w:Z)(mb:Nat)(c:Co):Prop:=∃ base vb iv vv gj sb cut k,fJ base mb vb iv vv gj sb cut w k/\k.slots=c.slots/\k.ins=c.ins
theorem rD.ext{w w':Z}{mb:Nat}{c:Co}(h:rD w mb c)(a:Ext w w'):rD w' mb c:=by
 obtain⟨base,vb,iv,vv,gj,sb,cut,k,b,d⟩:=h;exact⟨base,vb,iv,vv,gj,sb,cut,k,b.ext a,d⟩
theorem iy.toExt(a:Ext w0 w)(c:iy base mb pb w w')(hm:w0.heap.size<=mb)(hv:w0.heap.size<=pb)(f:w0.heap.size<=base):Ext w0 w':=
 ⟨c.os.trans a.os,c.tape.trans a.tape,c.output.trans a.output,aZL a.size c.size,fun b o d _=>c.block _ _ (a.ext _ _ d) (by
  have:=bg d;rintro (e | e | ⟨e,-⟩)<;>omega)⟩
def aqD{w:Z}{b nv:Nat}{nm:Bs}{av bv Ux:Y}{args:List Ex}{body:Bd}{M:Nat}(q:Bool)(hb:w.heap[b]?=aM #[aT nm,av,bv,Ux] 86)
  (vQ:∃ a c,Ux = .slice a nv c) (gw:lp (fun _=>True) w av args) (mn:dL (fun _=>True) w bv body) (hx:fi nv args) (Gm:args.length<=4) (jm:fH args<=2900) (eY:eW nv M body) (QB:iR body<=5800) (mY:nv<=12) :
  Calls a9L 80 #[pp b,.bool q] w fun e w'=>Ext w w'/\match A8 args body nv q with
   | none=>e=gR (.fault 4)
   | some c=>∃ mb,e = ah (aq (O ⟨mb,0,V⟩))/\w.heap.size<=mb/\rD w' mb c:=by
 suffices H:∀ R:Ending->Z->Prop,(∀ e w',(Ext w w'/\match A8 args body nv q with
   | none=>e=gR (.fault 4)
   | some c=>∃ mb,e = ah (aq (O ⟨mb,0,V⟩))/\w.heap.size<=mb/\rD w' mb c)->R e w')->Calls a9L 80 #[aq (O ⟨b,0,V⟩),.bool q] w R from H _ yH
 intro R h;obtain⟨va,vc,rfl⟩:=vQ;refine aPd ?_;have aXO:(nv:Int) ≥ 0:=zo;refine cH hb ?_;rw[size_alloc];obtain⟨wA,qG⟩:=cd ((w.alloc (ae (madeCells #[zi 0] nv) 3 (0,0))).alloc (ae #[zi 0,bV,cR w.heap.size nv nv,zi 0] 247));rw[<- qG];have yx:Ext w wA:=yF;have sA:wA.heap.size=w.heap.size+1+1:=yH;have gA1:wA.heap[w.heap.size]?=aM (madeCells #[zi 0] nv) 3:=yH;have gA2:wA.heap[w.heap.size+1]?=aM #[zi 0,bV,cR w.heap.size nv nv,zi 0] 247:=yH;clear qG;obtain⟨mb,KT⟩:=cd (w.heap.size+1);obtain⟨vb,yw⟩:=cd w.heap.size;obtain⟨vv,S⟩:=cd (Value.slice (O ⟨vb,0,V⟩) nv nv);rw[<- KT];rw[<- KT,<- yw] at gA2;rw[<- yw] at gA1;refine⟨fun m z w'=>∃ j f,z 24=zi ((j:Nat):Int)/\j<=nv/\m=nv-j/\Ext w w'/\w'.heap[mb]?=aM #[zi 0,bV,cR vb nv nv,zi 0] 247/\w'.heap[vb]?=aM f 3/\f.size=nv/\∀ i,i<j->f[i]?=O (zi (-1)),
  ⟨_,0,_,J,aZY _,J,yx,gA2,gA1,size_madeCells ..,zg⟩,?_⟩
 intro m z d w3 D;refine toPr ?_;obtain⟨j,f,NY,hj,rfl,eD,gm3,gv3,La,hAj⟩:=D;have lm3:=bg gm3;have lv3:=bg gv3;by_cases fw:j<nv
 .have jW:((j:Nat):Int).toNat=j:=zo;have k:((j:Nat):Int)<(nv:Int):=zo;refine dH NY k @gm3 (zA @gv3 @jW) ?_;refine⟨_,?_,j+1,f.setIfInBounds j (zi (-1)),zg,zo,J,?_,J,zg,fun i hi=>?_⟩
  .omega
  .exact yF
  grind
 have ID:j=nv:=zo;subst ID;have k:¬ ((j:Nat):Int)<((j:Nat):Int):=zo;have hAe:f=((a0m j (V:Option Nat)).map tg).toArray:=by
  grind [Array.ext,Array.getElem?_eq_getElem,tg]
 subst hAe;have T:fJ vb mb vb bV vv [] [] 0 w3 ⟨0,[],a0m j V⟩:=⟨yH,zo,⟨J,yH⟩,⟨J,J⟩,yH,aZK _,zg,List.nodup_nil⟩;obtain⟨K,aqI⟩:∃ y:Mk,y=⟨0,[],a0m j V⟩:=⟨_,J⟩;have xi:GK 0 K:=by rw[aqI];exact⟨aZK _,zg,zs,zg⟩
 have O8:K.vars.length=j:=zg;unfold A8 at h;rw[<- aqI] at T h;have hs0:K.slots=0:=zg;have pG:K.ins=[]:=zg;obtain⟨Uy,gw,lR⟩:=gw;have vy:=lR.E9;obtain⟨aa,ac,rfl⟩:=gw.sl;have eK:=eD.ext _ _ hb;refine iZ NY k eK ?_;refine⟨fun m z w'=>∃ i ls B,z 39=zi ((i:Nat):Int)/\i<=args.length/\m=args.length-i/\ls=aZ9 i/\P.CJ K i ls B/\fJ vb mb vb bV vv [] [] 0 w' B/\iy vb mb vb w3 w'/\GK 0 B/\B.vars=K.vars/\B.slots=i,
  ⟨_,0,[],K,J,aZY _,J,J,P.CJ.zero K,T,yF,xi,J,hs0⟩,?_⟩
 intro m z2 d2 w4 D;refine toPr ?_;obtain⟨i,ls,B,U,hi,rfl,Gt,iH,h1,lW,jQ,kz,dX⟩:=D;have Lb:=lW.size;by_cases lQ:i<args.length
 .have k:((i:Nat):Int)<(Uy.length:Int):=zo;refine du U k ?_;refine aZJ (K8 h1 jQ.slots) ?_;rintro e w5 ⟨pH,g⟩;cases E:B.slot with
  | none=>
   rw[E] at g;rw[iH.none E lQ] at h;have g:e=gR (.fault 4):=g;subst g;exact h _ _ ⟨(by grind [iy.toExt,bB.trans]),J⟩
  | some p=>
   obtain⟨s1,x⟩:=p;rw[E] at g;obtain⟨he,h2⟩:e = ah (zi (s1:Nat))/\fJ vb mb vb bV vv [] [] 0 w5 x:=g;subst he;obtain⟨q1,q2,q3,q4,q5,q6⟩:=jQ.slot E;refine cH U ?_;refine⟨_,?_,i+1,ls++[s1],x,zg,zo,J,by grind [List.range_succ],iH.step E,h2,yF,q1,q3.trans kz,zo⟩;omega
 have Ks:i=args.length:=zo;subst Ks;subst Gt;have k:¬ (args.length:Int)<(Uy.length:Int):=zo;rw[iH.done] at h;dsimp only at h;refine du U k ?_;refine⟨fun _ w'=>∃ x NW Qz vo,fJ vb mb vb NW vv Qz vo 0 w' x/\iy vb mb vb w3 w'/\(if q=A then B.news 0 j else O B)=O x/\GK 12 x/\x.vars.length=j,?_,?_⟩
 .cases q with
  | false=>
   refine bE ?_;exact⟨B,_,_,_,h1,lW,J,(by grind [GK.up]),zg⟩
  | true=>
   have jw:=h1.cell;rw[S] at jw;have lc1:=bg jw;refine cH jw ?_;refine⟨fun m z w'=>∃ i l L N F,z 50=zi ((i:Nat):Int)/\i<=j/\m=j-i/\fJ vb mb vb L vv N F 0 w' l/\iy vb mb vb w3 w'/\B.news 0 j=l.news i (j-i)/\GK i l/\l.vars.length=j,
    ⟨_,0,B,_,_,_,J,aZY _,J,h1,lW,J,jQ,zg⟩,?_⟩
   intro m z5 d5 w5 D;refine toPr ?_;obtain⟨i,l,L,N,F,W,hi,rfl,h5,pH,heq,qF,xH⟩:=D;by_cases nA:i<j
   .have k:((i:Nat):Int)<((j:Nat):Int):=zo;have e1:j-i=(j-(i+1))+1:=zo;refine du W k ?_;rw[W];refine aqA h5 qF zo zo zo (fun C w6 pI=>?_) fun s x w6 C pI hM6=>?_
    .rw[e1,Mk.news,C] at heq;rw[zip J,heq] at h;exact h _ _ ⟨(by grind [iy.toExt,bB.trans]),J⟩
    .obtain⟨tj,tl,X,h6⟩:=hM6;rw[e1,Mk.news,C] at heq;refine bE ?_;refine⟨_,?_,i+1,_,tj,tl,X,zg,zo,J,h6,yF,heq,qF.aqz C,?_⟩
     .omega
     .obtain⟨-,-,q3,-⟩:=qF.slot C;show(x.vars.set i (O s)).length=j;grind
   .have nA:i=j:=zo;subst nA;have k:¬ ((i:Nat):Int)<((i:Nat):Int):=zo;rw[Nat.sub_self,Mk.news] at heq;refine du W k ?_;exact⟨l,L,N,F,h5,pH,heq,qF.up zo,xH⟩
 rintro sq w6 ⟨x,NW,Qz,vo,h2,pI,iF,sJ,jU⟩ dq;rw[iF] at h;dsimp only at h;have sz6:=pI.size;refine aZJ (K8 h2 sJ.slots) ?_;rintro e w7 ⟨aPi,g⟩;have Fx:=pI.trans aPi;have sz7:=Fx.size;cases E:x.slot with
 | none=>
  rw[E] at g h;have g:e=gR (.fault 4):=g;subst g;refine bE ?_;exact h _ _ ⟨(by grind [iy.toExt]),J⟩
 | some p=>
 obtain⟨cs,Q⟩:=p;rw[E] at g h;dsimp only at h;obtain⟨he,h7⟩:e = ah (zi (cs:Nat))/\fJ vb mb vb NW vv Qz vo 0 w7 Q:=g;subst he;obtain⟨q1,q2,q3,-⟩:=sJ.slot E;have uL:=h7.cell;have lc7:=bg uL;obtain⟨w8,Lj⟩:=cd (bO w7 mb (ae #[zi (Q.slots:Nat),NW,vv,zi (cs:Int)] 247));have Xv:bB (fun b _=>b=mb) w7 w8:=yF;have h8:fJ vb mb vb NW vv Qz vo (cs:Int) w8 Q:=h7.own Xv (n:=Q.slots) (yH);have NT:iy vb mb vb w3 w8:=Fx.trans (Xv.mono fun b o _ e=>.inl e);have hc8:=h8.cell;refine cH uL ?_;rw[<- Lj];have sw8:w8.heap.size=w7.heap.size:=yH;rw[<- sw8];refine Ft h8 (wd:=uQ) (nm:=[]) (cv:=ai) (con:=V) (s:=[cs]) zs J (aZL q1.len zo) zo ?_;rintro w9 aPk ⟨iv9,aPm,h9⟩;have Bu:=NT.trans aPk;have I5:GK 13 (Q.put uQ [] V [cs]):=q1.put (qK zd zs zo);have Fw:(Q.put uQ [] V [cs]).vars.length=j:=by show Q.vars.length=j;grind
 obtain⟨k9,Fv⟩:=cd (Q.put uQ [] V [cs]);rw[<- Fv] at h9 I5 Fw h;obtain⟨sb9,aPo⟩:=cd (vo++[w8.heap.size]);rw[<- aPo] at h9;have Ur:=T.oT Bu eK zd;refine cH Ur ?_;refine⟨fun m z w'=>∃ i l L N F Ni,z 89=zi ((i:Nat):Int)/\i<=args.length/\m=args.length-i/\fJ vb mb vb L vv N F (cs:Int) w' l/\iy vb mb vb w3 w' /\
   rU args (aZ9 args.length) k9=rU (args.drop i) ((aZ9 args.length).drop i) l/\GK Ni l/\Ni+fH (args.drop i)<=13+fH args/\l.vars.length=j,
  ⟨_,0,k9,iv9,aPm,sb9,13,J,aZY _,J,h9,Bu,J,I5,aZK _,Fw⟩,?_⟩
 intro m z10 d10 jg D;refine toPr ?_;obtain⟨i,l,L,N,F,Ni,h89,hi,rfl,oN,D9,heq,agv,Yy,aqJ⟩:=D;have aqv:=D9.size;by_cases lQ:i<args.length
 .have ql:i<Uy.length:=zo;obtain⟨sbx,IK,e3,e4,e5,e6⟩:=gw.at' ql;obtain⟨u,e7,hu⟩:=eO.at' i lQ lR;rw[e7] at e6;simp only[aZZ,true_and] at e3;obtain⟨rfl,rfl⟩:=e3;have jW:((i:Nat):Int).toNat=i:=zo;have I4:=T.oT D9 (eD.ext _ _ e5) zo;have k:((i:Nat):Int)<(Uy.length:Int):=zo;refine dH h89 k @I4 (zA @e6 @jW) ?_;have Bt:gZ l.vars.length args[i]:=by rw[aqJ];exact hx.at lQ
  have PA:=Uc args i lQ;have hir:i<(aZ9 args.length).length:=zg;have M0:eL (fun _=>True) w3 u args[i]:=eL.mono zg (by grind [bB.ext]) _ _ hu;refine aZJ (ap9 _ args[i] (aZK _) oN agv zo Bt (T.ex D9 M0) zo) ?_;rintro e jc ⟨Yx,g⟩;have dC:rU (args.drop i) ((aZ9 args.length).drop i) l=match yG args[i] i l with
    | none=>V
    | some m=>rU (args.drop (i+1)) ((aZ9 args.length).drop (i+1)) m:=by
   rw[aZP lQ,aZP hir,rU,List.getElem_range];rfl
  cases ht:yG args[i] i l with
  | none=>
   rw[ht] at g dC;rw[heq,dC] at h;have g:e=gR (.fault 4):=g;subst g;exact h _ _ ⟨(by grind [iy.toExt,bB.trans]),J⟩
  | some k6=>
   rw[ht] at g dC;obtain⟨he,tj,tl,CM,Yu,G8⟩:=g;subst he;obtain⟨g1,g2⟩:=acW _ _ _ _ _ ht agv zo Bt;refine cH h89 ?_;refine⟨_,?_,i+1,k6,tj,tl,F++CM,Ni+iA args[i],zg,zo,J,G8,yF,heq.trans dC,g1,zo,zo⟩;omega
 have Ks:i=args.length:=zo;subst Ks;have k:¬ (args.length:Int)<(Uy.length:Int):=zo;rw[heq,List.drop_length,rU] at h;dsimp only at h;have aqK:=oN.cell;rw[S] at aqK;have Yz:Ni<=2913:=zo;refine iZ h89 k aqK ?_;refine⟨fun m z w'=>∃ i r L N F,z 104=zi ((i:Nat):Int)/\i<=j/\m=j-i/\fJ vb mb vb L vv N F (cs:Int) w' r/\iy vb mb vb w3 w'/\l.rest 0 j=r.rest i (j-i)/\GK (Ni+i) r/\r.vars.length=j/\∀ q,q<i->∃ t:Nat,r.vars[q]?=O (O t),
  ⟨_,0,l,_,_,_,J,aZY _,J,oN,D9,J,agv,aqJ,zg⟩,?_⟩
 intro m z12 d12 nI D;refine toPr ?_;obtain⟨i,r,iv5,agi,sb5,YA,hi,rfl,B2,I6,heq,Lk,NA,hvq⟩:=D;have Uz:=B2.cell;obtain⟨aXY,YB⟩:=B2.vars;rw[S] at Uz;have aXZ:=bg Uz;have aX0:=bg YB;have aX1:=I6.size;by_cases nA:i<j
 .have k:((i:Nat):Int)<((j:Nat):Int):=zo;have ein:((i:Nat):Int).toNat=i:=zo;have e1:j-i=(j-(i+1))+1:=zo;have I:(r.vars.map tg).toArray[i]?=O (tg r.vars[i]):=zg;have La:(r.vars.map tg).toArray.size=j:=zg;obtain⟨f,hA⟩:=cd ((r.vars.map tg).toArray);rw[<- hA] at YB I La;have qX:r.vars.getD i V=r.vars[i]:=zg;cases g:r.vars[i] with
  | some t=>
   rw[g] at I qX;have I:f[i]?=O (zi (t:Int)):=I;rw[e1,Mk.rest,qX] at heq;have Ka:¬ (t:Int)<0:=zo;refine dH YA k Uz (zA YB (zA I (zA @ein Ka))) ?_;refine⟨_,?_,i+1,r,iv5,agi,sb5,zg,zo,J,B2,I6,heq,(by grind [GK.up]),NA,fun q hq=>?_⟩
   .omega
   .by_cases qR:q=i
    .grind
    .exact hvq q zo
  | none=>
   rw[g] at I qX;have I:f[i]?=O (zi (-1)):=I;rw[e1,Mk.rest,qX] at heq;refine dH YA k Uz (zA YB (zA I @ein)) ?_;rw[YA];refine aqA B2 Lk zo zo zo (fun C mi aPr=>?_) fun s x mi C aPr aPs=>?_
   .rw[C] at heq;rw[heq] at h;exact h _ _ ⟨(by grind [iy.toExt,bB.trans]),J⟩
   .obtain⟨tj,tl,X,h6⟩:=aPs;rw[C] at heq;obtain⟨-,-,GS,-⟩:=Lk.slot C;refine bE ?_;refine⟨_,?_,i+1,_,tj,tl,X,zg,zo,J,h6,yF,heq,Lk.aqz C,?_,fun q hq=>?_⟩
    .omega
    .show(x.vars.set i (O s)).length=j;grind
    .show ∃ t:Nat,(x.vars.set i (O s))[q]?=O (O t);by_cases qR:q=i
     .grind
     .rw[List.getElem?_set_ne zo,GS];exact hvq q zo
 have nA:i=j:=zo;subst nA;have k:¬ ((i:Nat):Int)<((i:Nat):Int):=zo;rw[Nat.sub_self,Mk.rest] at heq;rw[heq] at h;dsimp only at h;have rC:P.VK r:=fun q hq=>zg;have aPt:=T.oT I6 eK zd;have dC:Ext nI nI.drew:=yF;refine dH YA k aPt Uz ?_;have ny:dL (fun _=>True) nI.drew bv body:=dL.mono zg yH _ _ (T.bd I6 (dL.mono zg (by grind [bB.ext]) _ _ mn));refine aZJ (QA _ body zo (B2.ext dC) Lk zo rC (by rw[NA];exact eY) ny (cs:=cs) zo) ?_;rintro e I0 ⟨aPu,g⟩;have afS:=I6.trans ((bB.dZ dC).trans aPu);cases ht:kS body cs r with
 | none=>
  rw[ht] at g h;have g:e=gR (.fault 4):=g;subst g;exact h _ _ ⟨(by grind [iy.toExt]),J⟩
 | some k6=>
 rw[ht] at g h;dsimp only at h;obtain⟨rfl,aX2,aX3,aX4,aX5,CE⟩:=g;obtain⟨aqN,-⟩:=DI (M:=M) (nv:=r.vars.length) _ _ _ _ _ ht Lk (by rw[NA];exact eY) zo zo;refine bE ?_;refine⟨fun _ w'=>iy vb mb vb w3 w'/\rD w' mb ⟨k6.slots,(k6.put (if q=A then [100,111,110,101] else [114,101,116]) [] V []).ins⟩,?_,?_⟩
 .cases q with
  | true=>
   refine bE ?_;refine aZJ (K9 CE (wd:=[100,111,110,101]) (nm:=[]) (cv:=ai) (con:=V) (s:=[]) (sv:=bV) (bl:=[]) J (.inl zg) zg (aZL aqN.len zo)) ?_;rintro e Ua ⟨rfl,aqO,aPv,aPw,Ub⟩;refine bE ?_;exact⟨yF,_,_,_,_,_,_,_,_,Ub,J,J⟩
  | false=>
   refine bE ?_;refine aZJ (K9 CE (wd:=[114,101,116]) (nm:=[]) (cv:=ai) (con:=V) (s:=[]) (sv:=bV) (bl:=[]) J (.inl zg) zg (aZL aqN.len zo)) ?_;rintro e Ua ⟨rfl,aqO,aPv,aPw,Ub⟩;refine bE ?_;exact⟨yF,_,_,_,_,_,_,_,_,Ub,J,J⟩
 .rintro s6 Ua ⟨aqO,uW⟩ d6;refine bE ?_;exact h _ _ ⟨(by grind [iy.toExt]),mb,J,zo,uW⟩
theorem jE.oT(a:jE wb w w'){T:Nat}(c:w.heap[b]?=aM cs T)(d:T≠5)(f:b≠wb):w'.heap[b]?=aM cs T:=a.block _ _ c (by
 rintro (e | ⟨-,cs',z,e⟩)<;>grind)
theorem qp.ne(h:qp w wb out){T:Nat}(a:w.heap[b]?=aM cs T)(c:T≠100):b≠wb:=fun e=>by
 obtain⟨d,buf,-,f,-⟩:=h;grind
def xV:List Bs->Bs
 | []=>[]
 | w::r=>32::(w++xV r)
theorem YC:∀ (l:List Bs),(l.map fun w=>(32:UInt8)::w).flatten=xV l
 | []=>rfl
 | w::r=>by rw[List.map_cons,List.flatten_cons,YC r];rfl
theorem agw:∀ (a b:List Bs),xV (a++b)=xV a++xV b
 | [],b=>rfl
 | w::r,b=>by rw[List.cons_append,xV,xV,agw r b];simp
theorem aqP{l:List Bs}(a:j<l.length):xV (l.take (j+1))=xV (l.take j)++32::l[j]:=by
 grind [List.take_add_one,List.getElem?_eq_getElem,agw,xV]
def aPx(l:List Bs)(j:Nat):(xV (l.take j)).length<=(xV l).length:=by
 grind [List.take_append_drop,xV,agw,aZO]
def YD{first:Bs}{l:List Bs}(h:qp w wb out)(o:fK (fun _=>True) w 9 tv (l.map fun s=>aT s))(E:l.length<=1000)(hlen:out.length+first.length+(xV l).length+1<=1000000000) :
  Calls a9L 108 #[pp wb,aT first,tv] w fun e w'=>e = ah (ak #[])/\qp w' wb (out++mz first l)/\jE wb w w':=by
 obtain⟨F,lc,rfl⟩:=o.sl;refine aMH ?_;refine(apR h first zo).mono ?_;rintro e w1 ⟨⟨v1,rfl⟩,t,u⟩;have x:(l.map fun s=>(aZ1 (bs s))).length=l.length:=zs;refine bE ?_;refine⟨fun m z w'=>∃ j,z 13=zi ((j:Nat):Int)/\j<=l.length/\m=l.length-j/\qp w' wb (out++first++xV (l.take j))/\jE wb w w',⟨_,0,J,aZY _,J,by rw[List.take_zero,xV,List.append_nil];exact t,u⟩,?_⟩;intro m z d w3 y;refine toPr ?_;obtain⟨j,c,H,rfl,f,i⟩:=y;by_cases b:j<l.length
 .obtain⟨g,cs,p,I,q,K⟩:=o.at' (j:=j) (by rw[x];exact b);simp only[aZZ,true_and] at p;obtain⟨rfl,rfl⟩:=p;have B:cs[j]?=O (aT (l[j])):=zg;have C:((j:Nat):Int).toNat=j:=zo;have k:((j:Nat):Int)<(((l.map fun s=>(aZ1 (bs s))).length:Nat):Int):=zo;have g3:=i.oT q zd (h.ne q zd);have a:=aPx l (j+1);rw[aqP b] at a;simp only[aZO,aZQ] at a;refine dH c k @g3 (zA @B @C) ?_;rw[ya _ _ zg];refine aZJ (apR f ([32]++l[j]) zg) ?_;rintro e D ⟨⟨v4,rfl⟩,r,n⟩;refine cH c ?_;refine⟨_,?_,j+1,zg,zo,J,?_,i.trans n⟩
  .omega
  grind [aqP,a0d]
 .have b:j=l.length:=zo;subst b;have k:¬ (l.length:Int)<(((l.map fun s=>(aZ1 (bs s))).length:Nat):Int):=zo;rw[List.take_length] at f;refine du c k ?_;refine aZJ (aOi f 10 zg) ?_;rintro e D ⟨⟨v4,rfl⟩,r,n⟩;refine bE ?_;refine⟨?_,i.trans n⟩;unfold mz;rw[YC,<- a0d,<- a0d];exact r
def Tryz.aPz:(Tryz.prog.info? 9).map (fun i=>(i.zero,i.size,i.bytes))=O (O (aT []),1,16):=zk
abbrev CO(base:Nat)(w:Z)(v:Y)(l:List Bs):Prop:=w.ownsRow base 9 1 v l.length (l.map fun s=>.string (bs s))
section
variable{ba:Nat}{v:Y}{l:List Bs}{w w':Z}
theorem CO.nil:CO ba w bV []:=⟨J,yH⟩
theorem CO.ext(h:CO ba w v l)(a:Ext w w'):CO ba w' v l:=jJ a.ext h
theorem CO.sl(h:CO ba w v l):fK (fun _=>True) w 9 v (l.map fun s=>aT s):=Et h zg
def CO.push(h:CO w0.heap.size w v l)(a:Ext w0 w)(z:l.length<=1000){K:Y->Z->Prop}
  (k:∀ v' w',CO w0.heap.size w' v' (l++[s])->Ext w0 w'->K v' w') :
  WR a9L (Builtin.append_ #[39,39] 39 #[v,cR w.heap.size 1 1]) (w.alloc (ae #[aT s] 9)) K X:=by
 have c:Ext w (w.alloc (ae #[aT s] 9)):=yF;obtain⟨i,n,j⟩:=Option.map_eq_some_iff.1 Tryz.aPz;simp only[Prod.mk.injEq] at j;obtain⟨p,q,r⟩:=j;refine Sx.C3 (m:=1) (t:=39) (e:=9) zk n p q r J zd (jJ c.ext h) (sx J) J (fun u hu=>?_) zo zd (by rw[size_alloc];have:=a.size;omega) fun v' w' B d hv=>k v' w' ?_ ?_
 .simp only[List.mem_cons,List.not_mem_nil,or_false] at hu;subst hu;rfl
 .exact yH
 .have:=d.size;have s1:=c.size;have s0:=a.size;refine⟨d.os.trans (c.os.trans a.os),d.tape.trans (c.tape.trans a.tape),d.output.trans (c.output.trans a.output),zo,fun b o x _=>?_⟩;have y:=c.ext _ _ (a.ext _ _ x);rw[d.block b (bg y) (fun e=>?_)]
  .exact yH
  .rcases h.2 with⟨f,-⟩| ⟨g,cap,cur,f,C,-⟩
   .rw[f] at e;cases e
   .rw[f] at e;injection e with e;grind
end
theorem qp.ext{w w':Z}{wb:Nat}{out:Bs}(h:qp w wb out)(a:Ext w w'):qp w' wb out:=by
 obtain⟨b,buf,c,d,e⟩:=h;exact⟨b,buf,c,a.ext _ _ d,jJ a.ext e⟩
theorem qs.at{w:Z}:∀ {l:List P.In} {vs:List Y} {sb:List Nat} {j:Nat} {i:P.In},qs w vs l sb->l[j]?=O i->∃ cv sv bl,vs[j*4]?=O (aT i.word)/\vs[j*4+1]?=O (aT i.name)/\vs[j*4+2]?=O cv/\vs[j*4+3]?=O sv/\xO cv i.const/\I1 w sv i.s bl
 | [],_,_,j,i,_,a=>zg
 | x::r,vs,sb,0,i,⟨cv,sv,bl,rest,c,d,e,f,g,b⟩,a=>by
  grind
 | x::r,vs,sb,j+1,i,⟨cv,sv,bl,rest,c,d,e,f,g,b⟩,a=>by
  obtain⟨m,h,k,q1,q2,q3,q4,n,o⟩:=qs.at b (show r[j]?=O i from a);grind
def fJ.bfr{cut:Int}{k:Mk}(h:fJ base mb pb iv vv gj fx cut w k)(d:jE wb w w')(e:∀ T cs,w.heap[wb]?=aM cs T->T=100):fJ base mb pb iv vv gj fx cut w' k:=by
 have f:∀ {b T:Nat} {cs:Array Y},T≠5->T≠100->w.heap[b]?=aM cs T->w'.heap[b]?=aM cs T:=(by grind [jE.oT]);refine⟨(by grind [cell]),h.lo,⟨h.row.1,?_⟩,h.ins.bH yH,(by grind [vars]),h.I2,h.sep,h.I3⟩;rcases h.row.2 with g | ⟨b,cap,cur,rfl,a,i,c⟩
 .exact yH
 .exact .inr ⟨b,cap,cur,J,a,yH,c⟩
theorem qp.ty(h:qp w wb out):∀ (T:Nat) (cs:Array Y),w.heap[wb]?=aM cs T->T=100:=fun T cs hx=>by
 obtain⟨a,buf,-,b,-⟩:=h;grind
def aPC{cv:Y}(b:xO cv (O t))(d:er t)(f:w.heap[pb]?=aM #[bV,zi 9] 96)(g:w.heap[tb]?=aM #[aq V,bV,pp pb,.map V] 103)(h:lH w)(j:4<tb)(k:pb≠4)(m:pb≠tb) :
  Calls a9L 31 #[pp tb,cv,zi 0] w fun e w'=>e = ah (ak #[])/\mD tb pb w w'/\∃ nm,sd w' tb (pp pb) nm (Cf (O t)):=by
 have o:xD [] tb pb 0 96 #[bV,zi 9]:=⟨trivial,zs,m,j,k,zo,zo⟩;have p:lI id 0 [] tb pb 0 96 #[bV,zi 9] (.map V) w ⟨9,[],[]⟩:=
  ⟨⟨zg,yH⟩,⟨aq V,bV,.inl J,g,World.ownsRow_nil _ _ _ _⟩,.inl ⟨J,J⟩,f,h,zg⟩
 have key:lE [] 2 t 0 ⟨9,[],[]⟩=O (O ⟨8,Cf (O t),[]⟩):=by
  cases t with
  | atom a=>rfl
  | int n=>rfl
  | var i=>exact b.elim
  | comp s l=>exact b.elim
 have q:dM id 0 w cv t:=b.eh;refine aZJ ((cw 2).tm (least:=0) o ⟨_,p⟩ q d (by simp [Ws.cU]) (aZK _) key) ?_;rintro e x ⟨r,rfl,c,u⟩;exact⟨J,r,c,u.bu⟩
