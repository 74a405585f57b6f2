/- A part of one proof (KG10, KG11, KG12, KG13, KG14, ShX3c, KG14b, KG15, VT2, VT3). -/
import Derived.Test.YtoegidfbnkaabaaGreatDoorPkHBA
set_option linter.all false
set_option maxRecDepth 100000
set_option maxHeartbeats 8000000
open Option renaming some → O, none → V
open Go renaming Value → Y, World → Z
open Bool renaming true → A
open Go.Obj renaming cells → ae
open Go.Ending renaming returned → ah
open Go.Value renaming nilIface → ai, tuple → ak, pointer → aq
open Go.Calls renaming mono → a0c
open Nat renaming le_refl → a0d, le_trans → a0f, zero_le → a0r, add_zero → a1z
open List renaming drop_eq_getElem_cons → a0h, length_append → a0i, length_cons → a0j, mem_append → a0q, mem_singleton → a0x, length_nil → a0A, range → a0C, append_assoc → a0I, replicate → a0P
open Go.Instr renaming loadAt → a0o
open Go.Value.slice renaming injEq → a0s
open Go.Value renaming string → a0u
open Go.Proofs.Tryz renaming prog → bag
namespace Go.Proofs.YtoegidfbnkaabaaGreatDoor
open P
open Go.RowKit Sx
variable{M N b base cap j mb n pb tb wb:Nat}{R:Ending->Z->Prop}{X:Y->Z->Prop}{cs:Array Y}{iv tv v vv:Y}{gk:List Y}{out s:Bs}{t:Tm}{gz:List Bd}{zp:Mk}{fQ:List Nat}{w w' w0:Z}
section
variable{base mb vb:Nat}{cut:Int}
def aPM{name:Bs}{args:List Ex}(iP:pb=103){k:Mk}{cs:Nat}
  (h:fG base mb vb iv vv gk fQ cut w k) (hk:GK N k) (hN:N+4*iS (.mk pb name args gz)<=90000) (rK:P.VK k) (U:eV k.vars.length M (.mk pb name args gz)) (hx:dJ (fun _=>True) w v (.mk pb name args gz)) :
  Calls bag 107 #[pp mb,v,zi (cs:Nat)] w (uG base mb vb vv fQ cut w (kX (.mk pb name args gz) cs k)):=by
 suffices H:∀ R:Ending->Z->Prop,(∀ n w',uG base mb vb vv fQ cut w (kX (.mk pb name args gz) cs k) n w'->R n w')->Calls bag 107 #[pp mb,v,zi (cs:Nat)] w R from H _ fun _ _ h=>h;intro R c;unfold eV at U;obtain⟨o1,o2,o3,o4,o5,o6,o7,o8⟩:=U;unfold dJ at hx;obtain⟨b,av,pv,di,us,rfl,-,a,W,X,lG,mW⟩:=hx;have hc:=h.cell;have lc:=bf hc;have lv:=bf h.vars.2;have Gv:=X.Fg;obtain⟨aa,ac,rfl⟩:=W.sl;simp only[iS] at hN;subst iP;refine Uj ?_;unfold kX at c;rw[bX zd,bX zd,bX zd,bX zd,bX zd] at c;refine cG a ?_;refine⟨fun m z w'=>∃ j f Bw Bx g o ls v1,z 27=zi ((j:Nat):Int)/\z 15=v1/\j<=args.length/\m=args.length-j/\ls.length=j/\fG base mb vb Bw vv Bx (fQ++g) cut w' f/\(∀ b∈g,w.heap.size<=b/\v1.ownBlock≠O b)/\iB base mb vb w w'/\og w.heap.size w' v1 ls /\
   P.uH k args j ls f/\GK o f/\o+ft (args.drop j)<=N+ft args/\f.vars=k.vars/\(∀ y∈ls,y<64)/\(ls=[]->v1 = bH),
  ⟨_,0,k,iv,gk,[],N,[],_,J,J,a0r _,J,J,zg,yH,yF,og.nil,P.uH.zero k args,hk,a0d _,J,zg,fun _=>J⟩,?_⟩
 intro m z d w3 hI;refine toPr ?_;obtain⟨j,f,Bw,Bx,g,o,ls,v1,C,D,hj,rfl,GB,E,Ue,q,r,F,t,hNj,I,afU,Yc⟩:=hI;obtain⟨ra,rc,rfl⟩:=gX r;have QB:=q.size;have dR:=fun b=>r.own (b:=b);by_cases i:j<args.length
 .have qq:j<di.length:=zo;obtain⟨sb1,IL,e3,e4,e5,e6⟩:=W.at' qq;obtain⟨u,e7,hu⟩:=eH.at' j i X;rw[e7] at e6;simp only[a0s,true_and] at e3;obtain⟨rfl,rfl⟩:=e3;have jJ:((j:Nat):Int).toNat=j:=zo;have I5:=h.oU q e5 zd;have K:((j:Nat):Int)<(di.length:Int):=zo;refine dC C K @I5 (zA @e6 @jJ) ?_;have FE:gO f.vars.length args[j]:=by rw[I];exact o5.at i
  have PE:=Ud args j i;have afZ:=Yv args j;refine a0c (aqq _ args[j] (a0d _) E t zo (VK.of rK I) FE (h.ex q hu)) ?_;rintro e w4 ⟨lY,l⟩;have Lj:=lY.size;cases ht:An args[j] f with
  | none=>
   rw[ht] at l;rw[F.none i ht] at c;have l:e=gV (.fault 4):=l;subst l;refine bD ?_;exact c _ _ ⟨yF,J⟩
  | some p=>
   obtain⟨s1,k4⟩:=p;rw[ht] at l;obtain⟨he,Lk,Ll,np,NV,h4⟩:=l;subst he;obtain⟨g1,g2,g3⟩:=acX _ _ _ _ _ ht t FE;have CO:=r.fr lY lc lv;have aqr:=fun b=>CO.own (b:=b);have aPE:=h4.ins.lt;refine cG D ?_;have x:∀ b∈fQ++g++np,(Value.slice ra ls.length rc).ownBlock≠O b:=fun b a he=>by
    rcases a0q.1 a with a | a
    .rcases a0q.1 a with a | a
     .have:=(dR b he).1;have:=h.ins.lt _ a;omega
     grind
    grind
   refine CO.push zo zo fun v5 w5 Qm iR xQ=>?_;refine cG C ?_;refine⟨_,?_,j+1,k4,Lk,Ll,g++np,o+gH args[j],ls++[s1],v5,zg,zg,zo,J,zg,?_,fun y L=>?_,iB.own yF iR yH,Qm,F.step i ht,g1,zo,g2.trans I,fun y L=>?_,zg⟩
   .omega
   .rw[<- a0I];exact h4.G6 iR yH x zg
   .exact yH
   grind
 .have i:j=args.length:=zo;subst i;have K:¬ (args.length:Int)<(di.length:Int):=zo;rw[F.done] at c;have c:∀ n w',uG base mb vb vv fQ cut w (O (f.put (if jK name=ls.length then nk else Ao) name V ls)) n w'->R n w':=c;have Q:=h.oU q a zd;refine iJ C K Q ?_;refine a0c (Mx name) ?_;rintro e w4 ⟨rfl,rfl⟩;obtain⟨bl,Hb,oL⟩:=r.sin Yc;have x:∀ b∈bl,b ∉ fQ++g/\b≠vb:=fun b a=>by
   have a:=oL b a;have:=(dR b a).1;refine⟨fun hm=>?_,zo⟩;rcases a0q.1 hm with hm | hm
   .have:=h.ins.lt _ hm;omega
   grind
  by_cases B:jK name=(ls.length:Int)
  .rw[zip B] at c;refine iJ D B Q ?_;refine a0c (Lh E (wd:=nk) (nm:=name) (cv:=ai) (con:=V) (s:=ls) J Hb x (a0f t.len zo)) ?_;rintro e w6 ⟨rfl,pM,S,T,Hc⟩;refine bD ?_;refine c _ _ ⟨yF,J,S,T,g++bl,fun y L=>?_,zg⟩;exact yH
  .rw[bX B] at c;refine iJ D B Q ?_;refine a0c (Lh E (wd:=Ao) (nm:=name) (cv:=ai) (con:=V) (s:=ls) J Hb x (a0f t.len zo)) ?_;rintro e w6 ⟨rfl,pM,S,T,Hc⟩;refine bD ?_;refine c _ _ ⟨yF,J,S,T,g++bl,fun y L=>?_,zg⟩;exact yH
end
section
variable{base mb vb:Nat}{cut:Int}
def aPN(ih:Uk base mb vb cut n){name:Bs}{args:List Ex}(hn:iS (.mk cap name args gz)<=n+1)(iP:cap=59){k:Mk}{cs:Nat}
  (h:fG base mb vb iv vv gk fQ cut w k) (hk:GK N k) (hN:N+4*iS (.mk cap name args gz)<=90000) (rK:P.VK k) (de:eV k.vars.length M (.mk cap name args gz)) (hx:dJ (fun _=>True) w v (.mk cap name args gz)) (E:cs<64) :
  Calls bag 107 #[pp mb,v,zi (cs:Nat)] w (uG base mb vb vv fQ cut w (kX (.mk cap name args gz) cs k)):=by
 suffices H:∀ R:Ending->Z->Prop,(∀ s w',uG base mb vb vv fQ cut w (kX (.mk cap name args gz) cs k) s w'->R s w')->Calls bag 107 #[pp mb,v,zi (cs:Nat)] w R from H _ fun _ _ h=>h;intro R d;unfold eV at de;obtain⟨o1,o2,o3,o4,o5,o6,o7,o8⟩:=de;unfold dJ at hx;obtain⟨b,av,pv,vs,us,rfl,-,o,gi,Ct,lG,F⟩:=hx;have hc:=h.cell;have uz:=F.GW;simp only[iS] at hn hN;subst iP;have B1:gz.length=2:=zo;obtain⟨pA,t,rfl⟩:∃ pA t,gz=[pA,t]:=by
  rcases gz with _ | ⟨a,_ | ⟨b,_ | ⟨c,r⟩⟩⟩<;>grind
 simp only[jw,a1z] at hn hN;simp only[a0j,a0A] at uz;obtain⟨u0,Ul,Um⟩:=gx.Cw 0 zs F;have aqE:=o8.at (j:=0) zs;obtain⟨u1,eu1,uB⟩:=gx.Cw 1 zs F;have Yz:=o8.at (j:=1) zs;obtain⟨pb,Cx,e3,e4,e5,Lm⟩:=lG.at' (j:=0) zo;rw[Ul] at Lm;subst e3;have I:Cx[1]?=O u1:=by
  obtain⟨XQ,XR,e3,-,YA,YB⟩:=lG.at' (j:=1) zo;grind
 have kS:∀ q:Nat,q<us.length->(q:Int)<(us.length:Int):=zg;have pJ:=kS 0 zo;have Yg:=kS 1 zo;have Un:((0:Nat):Int).toNat=0:=rfl;have L:((1:Nat):Int).toNat=1:=rfl;refine Uj ?_;unfold kX at d;rw[bX zd,bX zd,zip rfl] at d;refine cG o ?_;have NW:iB base mb vb w w:=yF;have jZ:k.vars=k.vars:=rfl;have d:∀ s w',uG base mb vb vv fQ cut w (DG [pA,t] cs k) s w'->R s w':=d;unfold DG at d;refine a0c (Ug h (a0f hk.len zo) kx) ?_;rintro e w3 ⟨Uo,iv3,aqG,g3,f3,rfl,A6,h3,L3⟩;have u:=NW.trans Uo;have QB:=u.size;have qK:GK (N+1) (k.put kx [] V [0]):=hk.put (qR zd zs zo);have eK:=h.oU u o zd;have p3:=h.oU u e5 zd;refine dC eK @p3 pJ (zA @Un @Lm) ?_;refine a0c (ih pA zo h3 qK zo (VK.of rK jZ) (by show eV k.vars.length M pA;grind) (h.bd u Um) E) ?_;rintro e w4 ⟨Ln,f⟩;have Q:=u.trans Ln;have Lj:=Q.size;cases z:kX pA cs (k.put kx [] V [0]) with
 | none=>
  rw[z] at f d;have f:e=gV (.fault 4):=f;subst f;exact d _ _ ⟨Q,J⟩
 | some i=>
 rw[z] at f d;dsimp only at d;obtain⟨rfl,Lk,Ll,l,NV,h4⟩:=f;obtain⟨yw,S⟩:=DP _ _ _ _ _ z qK (by show eV k.vars.length M pA;grind) E zo;have S:i.vars=k.vars:=S.trans jZ;have L4:=L3.fr h3 Ln NV;obtain⟨T,G1⟩:=Au _ _ _ _ z;have hi4:i.ins=k.ins++⟨kx,[],V,[0]⟩::T:=by rw[G1];show(k.ins++[_])++T=_;grind
 have uU:fQ++[g3]++l=fQ++g3::l:=zg;refine bD ?_;refine a0c (Ug h4 (a0f yw.len zo) jP) ?_;rintro e w8 ⟨Ur,U,W,g8,f8,rfl,hg8,h8,L8⟩;have NY:=Q.trans Ur;have hk8:GK ((N+1+4*iS pA)+1) (i.put jP [] V [0]):=yw.put (qR zd zs zo);have L8b:=L4.fr h4 Ur (bl:=[g8]) (fun b o=>by rw[a0x] at o;omega);have hi8:(i.put jP [] V [0]).ins=k.ins++⟨kx,[],V,[0]⟩::(T++[⟨jP,[],V,[0]⟩]):=by show i.ins++[_]=_;grind
 have fx:k.ins.length<i.ins.length:=zg;obtain⟨X,hX,VX⟩:=P.aqz (m:=i) (w:=jP) (j:=k.ins.length) fx;obtain⟨k9,B⟩:=b9 ((i.put jP [] V [0]).land k.ins.length);have I6:GK ((N+1+4*iS pA)+1) k9:=by rw[B];exact hk8.land zo _
 have FH:k9.vars=k.vars:=by rw[B];exact S
 rw[<- B] at hX d;obtain⟨sb8,aPR⟩:=b9 ((fQ++[g3]++l)++[g8]);obtain⟨xb,yb,hf,hC⟩:=Uh h8 L8b hi8 J J (s1:=fQ) (g:=g3) (s2:=l++[g8]) zs h.ins.QC (K:=fun e x=>e = ah (ak #[])/\iB base mb vb w x/\bz (fun b _=>O g3=O b) w8 x/\(∃ cs,w8.heap[g3]?=aN cs 3)/\fG base mb vb U vv W ((fQ++[g3]++l)++[g8]) cut x ((i.put jP [] V [0]).land k.ins.length))
  (fun x C wX p=>⟨J,iB.own NY C yH,C,wX,p⟩)
 subst hf;refine bD ?_;refine⟨zk,?_⟩;refine a0c hC ?_;rintro e x ⟨rfl,y,C,wX,p⟩;rw[<- B] at p;have sz9:=y.size;have L9:=L8.G6 (g:=g3) zs wX C;have Us:=h.oU y o zd;have p9:=h.oU y e5 zd;refine dC Us @p9 Yg (zA @L @I) ?_;refine a0c (ih t zo p I6 zo (VK.of rK FH) (by rw[FH];exact Yz) (h.bd y uB) E) ?_;rintro e jD ⟨Ut,f⟩;have Ee:=y.trans Ut;have aqI:=Ee.size;rw[P.aqy] at d;cases NZ:kX t cs k9 with
 | none=>
  rw[NZ] at f d;have f:e=gV (.fault 4):=f;subst f;exact d _ _ ⟨Ee,J⟩
 | some NR=>
 rw[NZ] at f d;dsimp only at d;obtain⟨rfl,Uu,Uv,N0,agb,tn⟩:=f;have L10:=L9.fr p Ut agb;obtain⟨r10,aqJ⟩:=Au _ _ _ _ NZ;have age:NR.ins=X++⟨jP,[],V,[0]⟩::r10:=zg;have hcX:(fQ++[g3]++l).length=yg X:=by
  have:=p.ins.QC;rw[hX,af0,a0i] at this;have e1:yg [(⟨jP,[],V,[0]⟩:P.In)]=1:=rfl;grind
 obtain⟨xc,yc,eU,hC2⟩:=Uh tn L10 age VX J (s1:=(fQ++[g3]++l)) (g:=g8) (s2:=N0) zs hcX (K:=fun e D=>e = ah (ak #[])/\iB base mb vb w D/\fG base mb vb Uu vv Uv ((fQ++[g3]++l)++[g8]++N0) cut D (NR.land i.ins.length))
  (fun D agi _ Gt=>⟨J,iB.own Ee agi yH,Gt⟩)
 subst eU;refine bD ?_;refine⟨zk,?_⟩;refine a0c hC2 ?_;rintro e D ⟨rfl,YC,Gt⟩;refine bD ?_;refine d _ _ ⟨YC,J,Uu,Uv,[g3]++l++[g8]++N0,fun b o=>?_,?_⟩
 .simp only[a0q,a0x] at o;grind
 grind
end
section
variable{base mb vb:Nat}{cut:Int}
def aPU(ih:Uk base mb vb cut n){name:Bs}{args:List Ex}(hn:iS (.mk cap name args gz)<=n+1)(iP:cap=63){k:Mk}{cs:Nat}
  (h:fG base mb vb iv vv gk fQ cut w k) (hk:GK N k) (hN:N+4*iS (.mk cap name args gz)<=90000) (rK:P.VK k) (de:eV k.vars.length M (.mk cap name args gz)) (hx:dJ (fun _=>True) w v (.mk cap name args gz)) (jh:cs<64) :
  Calls bag 107 #[pp mb,v,zi (cs:Nat)] w (uG base mb vb vv fQ cut w (kX (.mk cap name args gz) cs k)):=by
 suffices H:∀ R:Ending->Z->Prop,(∀ E w',uG base mb vb vv fQ cut w (kX (.mk cap name args gz) cs k) E w'->R E w')->Calls bag 107 #[pp mb,v,zi (cs:Nat)] w R from H _ fun _ _ h=>h;intro R i;unfold eV at de;obtain⟨o1,o2,o3,o4,o5,o6,o7,o8⟩:=de;unfold dJ at hx;obtain⟨b,av,pv,vs,us,rfl,-,l,gi,Ct,lG,W⟩:=hx;have hc:=h.cell;have lv:=bf h.vars.2;have uz:=W.GW;simp only[iS] at hn hN;subst iP;have B1:gz.length=3:=zo;obtain⟨pA,z,F,rfl⟩:∃ pA z F,gz=[pA,z,F]:=by
  rcases gz with _ | ⟨a,_ | ⟨b,_ | ⟨c,_ | ⟨d,r⟩⟩⟩⟩<;>grind
 simp only[jw,a1z] at hn hN;simp only[a0j,a0A] at uz;obtain⟨u0,Ul,Um⟩:=gx.Cw 0 zs W;have aqE:=o8.at (j:=0) zs;obtain⟨u1,eu1,uB⟩:=gx.Cw 1 zs W;have Yz:=o8.at (j:=1) zs;obtain⟨u2,eu2,Fk⟩:=gx.Cw 2 zs W;have aPV:=o8.at (j:=2) zs;obtain⟨pb,Cx,e3,e4,e5,Lm⟩:=lG.at' (j:=0) zo;rw[Ul] at Lm;subst e3;have e61:Cx[1]?=O u1:=by
  obtain⟨XQ,XR,e3,-,YA,YB⟩:=lG.at' (j:=1) zo;grind
 have e62:Cx[2]?=O u2:=by
  obtain⟨XQ,XR,e3,-,YA,YB⟩:=lG.at' (j:=2) zo;grind
 have kS:∀ q:Nat,q<us.length->(q:Int)<(us.length:Int):=zg;have pJ:=kS 0 zo;have Yg:=kS 1 zo;have hi2:=kS 2 zo;have Un:((0:Nat):Int).toNat=0:=rfl;have ei1:((1:Nat):Int).toNat=1:=rfl;have ei2:((2:Nat):Int).toNat=2:=rfl;refine Uj ?_;unfold kX at i;rw[bX zd,bX zd,bX zd,zip rfl] at i;refine cG l ?_;refine a0c (Lg h hk.slots) ?_;rintro e w1 ⟨Ec,f⟩;cases km:k.slot with
 | none=>
  rw[km] at f i;have f:e=gV (.fault 4):=f;subst f;refine bD ?_;exact i _ _ ⟨Ec,J⟩
 | some p=>
 obtain⟨s1,k1⟩:=p;rw[km] at f i;obtain⟨he,h1⟩:e = ah (zi (s1:Nat))/\fG base mb vb iv vv gk fQ cut w1 k1:=f;subst he;obtain⟨q1,q2,q3,-⟩:=hk.slot km;have sz1:=Ec.size;refine bD ?_;refine FD h1 (wd:=qO) (nm:=[]) (cv:=ai) (con:=V) (s:=[s1]) zs J (a0f q1.len zo) zo ?_;rintro w2 I7 ⟨N1,QE,h2⟩;have NW:=Ec.trans I7;have sz2:=NW.size;have sS:GK (N+1) (k1.put qO [] V [s1]):=q1.put (qR zd zs zo);have jZ:(k1.put qO [] V [s1]).vars=k.vars:=q3;obtain⟨o,Qn⟩:=b9 (k1.put qO [] V [s1]);rw[<- Qn] at h2 sS jZ;obtain⟨x,agj⟩:=b9 (fQ++[w1.heap.size]);rw[<- agj] at h2;refine bD ?_;have i:∀ E w',uG base mb vb vv fQ cut w (DH [pA,z,F] s1 cs o) E w'->R E w':=by rw[Qn];exact i
 unfold DH at i;refine a0c (Ug h2 (a0f sS.len zo) kx) ?_;rintro e w3 ⟨Uo,iv3,aqG,g3,f3,rfl,A6,h3,L3⟩;have I:=NW.trans Uo;have QB:=I.size;have qK:GK (N+1+1) (o.put kx [] V [0]):=sS.put (qR zd zs zo);have eK:=h.oU I l zd;have p3:=h.oU I e5 zd;refine dC eK @p3 pJ (zA @Un @Lm) ?_;refine a0c (ih pA zo h3 qK zo (VK.of rK jZ) (by show eV o.vars.length M pA;grind) (h.bd I Um) q2) ?_;rintro e y ⟨Ln,f⟩;have lY:=I.trans Ln;have Lj:=lY.size;cases tZ:kX pA s1 (o.put kx [] V [0]) with
 | none=>
  rw[tZ] at f i;have f:e=gV (.fault 4):=f;subst f;refine bD ?_;exact i _ _ ⟨lY,J⟩
 | some B=>
 rw[tZ] at f i;dsimp only at i;obtain⟨rfl,Lk,Ll,u,NV,h4⟩:=f;obtain⟨yw,vy⟩:=DP _ _ _ _ _ tZ qK (by show eV o.vars.length M pA;grind) q2 zo;have vy:B.vars=k.vars:=vy.trans jZ;have L4:=L3.fr h3 Ln NV;obtain⟨L,G1⟩:=Au _ _ _ _ tZ;have hi4:B.ins=o.ins++⟨kx,[],V,[0]⟩::L:=by rw[G1];show(o.ins++[_])++L=_;grind
 have uU:x++[g3]++u=x++g3::u:=zg;refine bD ?_;refine FD h4 (wd:=kW) (nm:=[]) (cv:=ai) (con:=V) (s:=[s1]) zs J (a0f yw.len zo) zo ?_;rintro w5 Uw ⟨iv5,agl,h5⟩;have Q:=lY.trans Uw;have sz5:=Q.size;have qM:GK ((N+1+1+4*iS pA)+1) (B.put kW [] V [s1]):=yw.put (qR zd zs zo);have xQ:(B.put kW [] V [s1]).vars=k.vars:=vy;have L5:=L4.fr h4 Uw (bl:=[y.heap.size]) (fun b l=>by rw[a0x] at l;omega);have hi5:(B.put kW [] V [s1]).ins=o.ins++⟨kx,[],V,[0]⟩::(L++[⟨kW,[],V,[s1]⟩]):=by show B.ins++[_]=_;grind
 obtain⟨k5,ago⟩:=b9 (B.put kW [] V [s1]);rw[<- ago] at h5 qM xQ hi5 i;have Tg:=h.oU Q l zd;have p5:=h.oU Q e5 zd;unfold E2 at i;refine dC Tg @p5 Yg (zA @ei1 @e61) ?_;refine a0c (ih z zo h5 qM zo (VK.of rK xQ) (by rw[xQ];exact Yz) (h.bd Q uB) jh) ?_;rintro e w6 ⟨Ux,f⟩;have pM:=Q.trans Ux;have sz6:=pM.size;cases Kb:kX z cs k5 with
 | none=>
  rw[Kb] at f i;have f:e=gV (.fault 4):=f;subst f;exact i _ _ ⟨pM,J⟩
 | some t=>
 rw[Kb] at f i;dsimp only at i;obtain⟨rfl,tK,tL,C,Yy,h6⟩:=f;obtain⟨S,AZ⟩:=DP (M:=M) (nv:=k.vars.length) _ _ _ _ _ Kb qM Yz jh zo;have AZ:t.vars=k.vars:=AZ.trans xQ;have L6:=L5.fr h5 Ux Yy;obtain⟨r6,hr6⟩:=Au _ _ _ _ Kb;have hi6:t.ins=o.ins++⟨kx,[],V,[0]⟩::(L++[⟨kW,[],V,[s1]⟩]++r6):=zg;refine bD ?_;refine a0c (Ug h6 (a0f S.len zo) jP) ?_;rintro e w8 ⟨Ur,iv8,af4,g8,f8,rfl,hg8,h8,L8⟩;have NY:=pM.trans Ur;have hk8:GK ((((N+1+1+4*iS pA)+1)+4*iS z)+1) (t.put jP [] V [0]):=S.put (qR zd zs zo);have L8b:=L6.fr h6 Ur (bl:=[g8]) yH;have hi8:(t.put jP [] V [0]).ins=o.ins++⟨kx,[],V,[0]⟩::((L++[⟨kW,[],V,[s1]⟩]++r6)++[⟨jP,[],V,[0]⟩]):=by show t.ins++[_]=_;grind
 have fx:o.ins.length<t.ins.length:=zg;obtain⟨X,hX,VX⟩:=P.aqz (m:=t) (w:=jP) (j:=o.ins.length) fx;obtain⟨k9,FG⟩:=b9 ((t.put jP [] V [0]).land o.ins.length);have I6:GK ((((N+1+1+4*iS pA)+1)+4*iS z)+1) k9:=by rw[FG];exact hk8.land zo _
 have FH:k9.vars=k.vars:=by rw[FG];exact AZ
 rw[<- FG] at hX i;obtain⟨sb8,aPR⟩:=b9 ((x++[g3]++u++[y.heap.size]++C)++[g8]);obtain⟨xb,yb,hf,hC⟩:=Uh h8 L8b hi8 J J (s1:=x) (g:=g3) (s2:=(u++[y.heap.size]++C)++[g8]) zs h2.ins.QC (K:=fun e T=>e = ah (ak #[])/\iB base mb vb w T/\bz (fun b _=>O g3=O b) w8 T/\(∃ cs,w8.heap[g3]?=aN cs 3)/\fG base mb vb iv8 vv af4 ((x++[g3]++u++[y.heap.size]++C)++[g8]) cut T ((t.put jP [] V [0]).land o.ins.length))
  (fun T B3 wX D=>⟨J,iB.own NY B3 yH,B3,wX,D⟩)
 subst hf;refine bD ?_;refine⟨zk,?_⟩;refine a0c hC ?_;rintro e T ⟨rfl,U,B3,wX,D⟩;rw[<- FG] at D;have sz9:=U.size;have L9:=L8.G6 (g:=g3) zs wX B3;have Us:=h.oU U l zd;have p9:=h.oU U e5 zd;refine dC Us @p9 hi2 (zA @ei2 @e62) ?_;refine a0c (ih F zo D I6 zo (VK.of rK FH) (by rw[FH];exact aPV) (h.bd U Fk) jh) ?_;rintro e jD ⟨Ut,f⟩;have Ee:=U.trans Ut;have aqI:=Ee.size;rw[P.aqy] at i;cases NZ:kX F cs k9 with
 | none=>
  rw[NZ] at f i;have f:e=gV (.fault 4):=f;subst f;exact i _ _ ⟨Ee,J⟩
 | some NR=>
 rw[NZ] at f i;dsimp only at i;obtain⟨rfl,Uu,Uv,N0,agb,tn⟩:=f;have L10:=L9.fr D Ut agb;obtain⟨r10,aqJ⟩:=Au _ _ _ _ NZ;have age:NR.ins=X++⟨jP,[],V,[0]⟩::r10:=zg;have hcX:(x++[g3]++u++[y.heap.size]++C).length=yg X:=by
  have:=D.ins.QC;rw[hX,af0,a0i] at this;have e1:yg [(⟨jP,[],V,[0]⟩:P.In)]=1:=rfl;exact yH
 obtain⟨xc,yc,eU,hC2⟩:=Uh tn L10 age VX J (s1:=(x++[g3]++u++[y.heap.size]++C)) (g:=g8) (s2:=N0) zs hcX (K:=fun e j5=>e = ah (ak #[])/\iB base mb vb w j5/\fG base mb vb Uu vv Uv ((x++[g3]++u++[y.heap.size]++C)++[g8]++N0) cut j5 (NR.land t.ins.length))
  (fun j5 agi _ Gt=>⟨J,iB.own Ee agi yH,Gt⟩)
 subst eU;refine bD ?_;refine⟨zk,?_⟩;refine a0c hC2 ?_;rintro e j5 ⟨rfl,YC,Gt⟩;refine bD ?_;refine i _ _ ⟨YC,J,Uu,Uv,[w1.heap.size]++[g3]++u++[y.heap.size]++C++[g8]++N0,fun b l=>?_,?_⟩
 .simp only[a0q,a0x] at l;rcases l with(((((l | l) | l) | l) | l) | l) | l
  .omega
  .omega
  .exact yH
  .omega
  .exact yH
  .omega
  exact yH
 exact yH
end
section
variable{base mb vb:Nat}{cut:Int}
def aP1(ih:Uk base mb vb cut n){name:Bs}{args:List Ex}(hn:iS (.mk cap name args gz)<=n+1)(iP:cap=126){k:Mk}{cs:Nat}
  (h:fG base mb vb iv vv gk fQ cut w k) (hk:GK N k) (hN:N+4*iS (.mk cap name args gz)<=90000) (rK:P.VK k) (de:eV k.vars.length M (.mk cap name args gz)) (hx:dJ (fun _=>True) w v (.mk cap name args gz)) (jh:cs<64) :
  Calls bag 107 #[pp mb,v,zi (cs:Nat)] w (uG base mb vb vv fQ cut w (kX (.mk cap name args gz) cs k)):=by
 suffices H:∀ R:Ending->Z->Prop,(∀ m w',uG base mb vb vv fQ cut w (kX (.mk cap name args gz) cs k) m w'->R m w')->Calls bag 107 #[pp mb,v,zi (cs:Nat)] w R from H _ fun _ _ h=>h;intro R c;unfold eV at de;obtain⟨o1,o2,o3,o4,o5,o6,o7,o8⟩:=de;unfold dJ at hx;obtain⟨b,av,pv,vs,us,rfl,-,i,gi,Ct,lG,mW⟩:=hx;have hc:=h.cell;have lv:=bf h.vars.2;have uz:=mW.GW;simp only[iS] at hn hN;subst iP;have B1:gz.length=1:=zo;obtain⟨pA,rfl⟩:∃ pA,gz=[pA]:=by
  rcases gz with _ | ⟨a,_ | ⟨b,r⟩⟩<;>grind
 simp only[jw,a1z] at hn hN;simp only[a0j,a0A] at uz;obtain⟨u0,Ul,Um⟩:=gx.Cw 0 zs mW;have aqE:=o8.at (j:=0) zs;obtain⟨pb,Cx,e3,e4,e5,Lm⟩:=lG.at' (j:=0) zo;rw[Ul] at Lm;subst e3;have kS:∀ q:Nat,q<us.length->(q:Int)<(us.length:Int):=zg;have pJ:=kS 0 zo;have Un:((0:Nat):Int).toNat=0:=rfl;refine Uj ?_;unfold kX at c;rw[bX zd,bX zd,bX zd,bX zd,zip rfl] at c;refine cG i ?_;refine a0c (Lg h hk.slots) ?_;rintro e w1 ⟨E,d⟩;cases F:k.slot with
 | none=>
  rw[F] at d c;have d:e=gV (.fault 4):=d;subst d;refine bD ?_;exact c _ _ ⟨E,J⟩
 | some p=>
 obtain⟨s1,u⟩:=p;rw[F] at d c;obtain⟨he,h1⟩:e = ah (zi (s1:Nat))/\fG base mb vb iv vv gk fQ cut w1 u:=d;subst he;obtain⟨q1,q2,q3,-⟩:=hk.slot F;have sz1:=E.size;refine bD ?_;refine FD h1 (wd:=qO) (nm:=[]) (cv:=ai) (con:=V) (s:=[s1]) zs J (a0f q1.len zo) zo ?_;rintro w2 I7 ⟨N1,QE,x⟩;have NW:=E.trans I7;have sz2:=NW.size;have I:GK (N+1) (u.put qO [] V [s1]):=q1.put (qR zd zs zo);have L:(u.put qO [] V [s1]).vars=k.vars:=q3;obtain⟨f,Qn⟩:=b9 (u.put qO [] V [s1]);rw[<- Qn] at x I L;have aYf:∀ b∈[w1.heap.size],w.heap.size<=b:=yH;obtain⟨y,Q⟩:=b9 (fQ++[w1.heap.size]);rw[<- Q] at x;refine bD ?_;have c:∀ m w',uG base mb vb vv fQ cut w (DI [pA] s1 f) m w'->R m w':=by rw[Qn];exact c
 unfold DI at c;refine a0c (Ug x (a0f I.len zo) kx) ?_;rintro e w3 ⟨Uo,iv3,aqG,g3,f3,rfl,A6,h3,L3⟩;have o:=NW.trans Uo;have QB:=o.size;have qK:GK (N+1+1) (f.put kx [] V [0]):=I.put (qR zd zs zo);have eK:=h.oU o i zd;have p3:=h.oU o e5 zd;refine dC eK @p3 pJ (zA @Un @Lm) ?_;refine a0c (ih pA zo h3 qK zo (VK.of rK L) (by show eV f.vars.length M pA;grind) (h.bd o Um) q2) ?_;rintro e z ⟨Ln,d⟩;have S:=o.trans Ln;have Lj:=S.size;cases B:kX pA s1 (f.put kx [] V [0]) with
 | none=>
  rw[B] at d c;have d:e=gV (.fault 4):=d;subst d;refine bD ?_;exact c _ _ ⟨S,J⟩
 | some l=>
 rw[B] at d c;dsimp only at c;obtain⟨rfl,Lk,Ll,t,NV,h4⟩:=d;obtain⟨yw,T⟩:=DP _ _ _ _ _ B qK (by show eV f.vars.length M pA;grind) q2 zo;have T:l.vars=k.vars:=T.trans L;have L4:=L3.fr h3 Ln NV;obtain⟨C,G1⟩:=Au _ _ _ _ B;have hi4:l.ins=f.ins++⟨kx,[],V,[0]⟩::C:=by rw[G1];show(f.ins++[_])++C=_;grind
 have uU:y++[g3]++t=y++g3::t:=zg;refine bD ?_;refine FD h4 (wd:=kW) (nm:=[]) (cv:=ai) (con:=V) (s:=[s1]) zs J (a0f yw.len zo) zo ?_;rintro w5 Uw ⟨iv5,agl,U⟩;have pL:=S.trans Uw;have qM:GK ((N+1+1+4*iS pA)+1) (l.put kW [] V [s1]):=yw.put (qR zd zs zo);have xQ:(l.put kW [] V [s1]).vars=k.vars:=T;have L5:=L4.fr h4 Uw (bl:=[z.heap.size]) (fun b i=>by rw[a0x] at i;omega);have W:(l.put kW [] V [s1]).ins=f.ins++⟨kx,[],V,[0]⟩::(C++[⟨kW,[],V,[s1]⟩]):=by show l.ins++[_]=_;grind
 obtain⟨X,ago⟩:=b9 (l.put kW [] V [s1]);rw[<- ago] at U qM xQ W c;refine bD ?_;refine a0c (Lh U (wd:=nk) (nm:=[102,97,105,108]) (cv:=ai) (con:=V) (s:=[]) (sv:=bH) (bl:=[]) J (.inl zg) yH (a0f qM.len zo)) ?_;rintro e w6 ⟨rfl,Ux,tK,tL,h6⟩;have pM:=pL.trans Ux;have L6:=L5.fr U Ux (bl:=[]) (fun b i=>by cases i);have hi6:(X.put nk [102,97,105,108] V []).ins=f.ins++⟨kx,[],V,[0]⟩::(C++[⟨kW,[],V,[s1]⟩]++[⟨nk,[102,97,105,108],V,[]⟩]):=by show X.ins++[_]=_;grind
 obtain⟨xb,yb,hf,hC⟩:=Uh h6 L6 hi6 J J (s1:=y) (g:=g3) (s2:=t++[z.heap.size]++[]) zs x.ins.QC (K:=fun e D=>e = ah (ak #[])/\iB base mb vb w D/\fG base mb vb tK vv tL (y++[g3]++t++[z.heap.size]++[]) cut D ((X.put nk [102,97,105,108] V []).land f.ins.length))
  (fun D yK _ h7=>⟨J,iB.own pM yK yH,h7⟩)
 subst hf;refine bD ?_;refine⟨zk,?_⟩;refine a0c hC ?_;rintro e D ⟨rfl,FI,h7⟩;refine bD ?_;refine c _ _ ⟨FI,J,tK,tL,[w1.heap.size]++[g3]++t++[z.heap.size],fun b i=>?_,?_⟩<;>grind
end
def QF{base mb vb:Nat}{cut:Int}:∀ n,Uk base mb vb cut n
 | 0,x,c=>by have:=aml x;omega
 | n+1,.mk kind name args parts,c=>by
  intro h hk d e b hx f;have o:=b;unfold eV at o;rcases o.2.1 with a | a | a | a | a | a
  .exact aqD (QF n) c (.inl a) h hk d e b hx f
  .exact aqD (QF n) c (.inr a) h hk d e b hx f
  .exact aPN (QF n) c a h hk d e b hx f
  .exact aPU (QF n) c a h hk d e b hx f
  .exact aP1 (QF n) c a h hk d e b hx f
  .exact aPM a h hk d e b hx
open Go.Proofs.YtoegidfbnkaabaaGreatDoor.Sx
section
variable{p0 p1 p2 p3 p4 p5 p6 p7:Y}{w:Z}{R:Ending->Z->Prop}
def aP2:=cz w R [p0,p1] (gd [(3,[24]),(8,[39]),(13,[50]),(21,[89]),(26,[104])] [(17006,[]),(35002,[])] [(32,9)] [(15,[9,0,1,2,3,4,5,6,7,8]),(29,[9,0,1,2,3,4,5,6,7,8])] [] [] [1,25,40,44,51,90,105,114,144]) Tryz.func80
end
def P.GK.aqM{s:Nat}{k:Mk}(h:GK N k)(b:k.slot=O (s,zp)):GK (N+1) (Mk.put { zp with vars:=zp.vars.set j (O s) } P.ug [] V [s]):=by
 obtain⟨g1,g2,g3,-⟩:=h.slot b;have hv:GK N { zp with vars:=zp.vars.set j (O s) }:=⟨g1.len,g1.ins,g1.slots,fun y a t ht=>by
  rcases List.mem_or_eq_of_mem_set a with a | a
  .exact g1.vars y a t ht
  grind⟩
 exact hv.put (qR zd zs zo)
section
variable{base mb vb:Nat}{iv vv:Y}{gk:List Y}{sb:List Nat}{cut:Int}{w:Z}{k:Mk}
def aqN(h:fG base mb vb iv vv gk sb cut w k)(hk:GK N k)(hN:N<=90000)(hj:j<k.vars.length)(IP:k.vars.length<=12){K:Z->Prop}(hR:k.slot=V->∀ w',iB base mb vb w w'->R (gV (.fault 4)) w')
  (hK:∀ s b w',k.slot=O (s,b)->iB base mb vb w w'->(∃ tI tJ zt,fG base mb vb tI vv tJ zt cut w' (Mk.put { b with vars:=b.vars.set j (O s) } P.ug [] V [s]))->K w') :
  HD fun S=>S w.drew /\
   NC (pp mb) fun q=>
   uI bag (Instr.fieldAt 247 q 1) S (fun r=>
   uI bag (a0o 45 r) S (fun t=>
   CA bag 104 #[pp mb] w.drew (fun u x=>
   S x /\
   RD bag (Instr.indexAt 45 t (zi (j:Int))) x (fun y=>
   WU bag (Instr.storeAt 3 y u) x (fun f=>
   NC (pp mb) fun z=>
   RD bag (Instr.fieldAt 247 z 1) f (fun B=>
   RD bag (a0o 45 B) f (fun C=>
   RD bag (Instr.indexAt 45 C (zi (j:Int))) f (fun D=>
   RD bag (a0o 3 D) f (fun E=>
   WR bag (Instr.buildSlice 45 1 #[(0,E)]) f (fun F M6=>
   CA bag 105 #[pp mb,(aM [110,101,119]),(aM []),ai,F] M6 (fun _ M7=>K M7) (PC R)) (PX R)) (PX R)) (PX R)) (PX R)) (PX R)) (PXA R)) NX) (LB R))):=by
 have hc:=h.cell;obtain⟨W,jZ⟩:=h.vars;have lv:=bf jZ;have X:Ext w w.drew:=yF;have H:(j:Int).toNat=j:=zo;have I:(j:Int)<(k.vars.length:Int):=zo;refine⟨fun w'=>∃ n i c,w'.heap[mb]?=aN #[n,i,vv,c] 247,yH,?_⟩;rw[jx];refine cQ (pq mb 2) (fun w' hS=>eQ) ?_;refine cQ vv (fun w' hS=>by
  obtain⟨n,i,c,L⟩:=hS;rw[W] at L ⊢;have:=bf L;simp (disch:=first|assumption|omega|simp only[zS]<;>omega|decide) only[zB,simprocAttr,lh,L]) ?_
 refine a0c (Lg (h.ext X) hk.slots) ?_;rintro e M ⟨pL,d⟩;have g:=(bz.ea X).trans pL;cases l:k.slot with
 | none=>
  rw[l] at d;have d:e=gV (.fault 4):=d;subst d;exact fun _=>hR l _ g
 | some p=>
  obtain⟨s1,b⟩:=p;rw[l] at d;obtain⟨he,Q⟩:e = ah (zi (s1:Nat))/\fG base mb vb iv vv gk sb cut M b:=d;subst he;obtain⟨q1,q2,q3,-⟩:=hk.slot l;refine⟨⟨_,_,_,Q.cell⟩,?_⟩;have Gf:j<b.vars.length:=zg;obtain⟨s2,s3⟩:=Q.aqm (s:=s1) Gf (by have:=g.size;omega);have m:=Q.vars.2;have Li:(b.vars.map tH).toArray.size=b.vars.length:=zs;obtain⟨a,hA⟩:=b9 ((b.vars.map tH).toArray);rw[<- hA] at m s2 s3 Li;have hjA:j<a.size:=zo;obtain⟨w6,o⟩:=b9 (bO M vb (ae (a.setIfInBounds j (zi (s1:Int))) 3 (0,0)));have g6:w6.heap[vb]?=aN (a.setIfInBounds j (zi (s1:Int))) 3:=yH;rw[<- o] at s2 s3;have T:=s2.cell;rw[W] at T ⊢;have jF:(a.setIfInBounds j (zi (s1:Int)))[j]?=O (zi (s1:Int)):=zg;refine iJ I m @H ?_;rw[<- o];refine dC T @g6 jF (zA @H I) ?_;rw[<- o];refine dC T @g6 jF (zA @H I) ?_;rw[<- o];have U:w6.heap.size=M.heap.size:=yH;rw[<- U];refine FD s2 (wd:=P.ug) (nm:=[]) (cv:=ai) (con:=V) (s:=[s1]) zs J (a0f q1.len zo) (yH) ?_;rintro w7 FI ⟨iv7,aYi,h7⟩;exact hK s1 b w7 l yF zg
end
def rL(w:Z)(mb:Nat)(c:Co):Prop:=∃ base vb iv vv gk sb cut k,fG base mb vb iv vv gk sb cut w k/\k.slots=c.slots/\k.ins=c.ins
theorem rL.ext{w w':Z}{mb:Nat}{c:Co}(h:rL w mb c)(a:Ext w w'):rL w' mb c:=by
 obtain⟨base,vb,iv,vv,gk,sb,cut,k,b,d⟩:=h;exact⟨base,vb,iv,vv,gk,sb,cut,k,b.ext a,d⟩
theorem iB.toExt(a:Ext w0 w)(c:iB base mb pb w w')(hm:w0.heap.size<=mb)(hv:w0.heap.size<=pb)(f:w0.heap.size<=base):Ext w0 w':=
 ⟨c.os.trans a.os,c.tape.trans a.tape,c.output.trans a.output,a0f a.size c.size,fun b o d _=>c.block _ _ (a.ext _ _ d) (by
  have:=bf d;rintro (e | e | ⟨e,-⟩)<;>omega)⟩
def aqQ{w:Z}{b nv:Nat}{nm:Bs}{av bv Uy:Y}{args:List Ex}{body:Bd}{M:Nat}(q:Bool)(hb:w.heap[b]?=aN #[aM nm,av,bv,Uy] 86)
  (wh:∃ a c,Uy = .slice a nv c) (gi:ln (fun _=>True) w av args) (mz:dJ (fun _=>True) w bv body) (hx:eZ nv args) (Gv:args.length<=4) (jc:ft args<=2900) (eX:eV nv M body) (QG:iS body<=5800) (mC:nv<=12) :
  Calls bag 80 #[pp b,.bool q] w fun e w'=>Ext w w'/\match Bg args body nv q with
   | none=>e=gV (.fault 4)
   | some c=>∃ mb,e = ah (aq (O ⟨mb,0,V⟩))/\w.heap.size<=mb/\rL w' mb c:=by
 suffices H:∀ R:Ending->Z->Prop,(∀ e w',(Ext w w'/\match Bg args body nv q with
   | none=>e=gV (.fault 4)
   | some c=>∃ mb,e = ah (aq (O ⟨mb,0,V⟩))/\w.heap.size<=mb/\rL w' mb c)->R e w')->Calls bag 80 #[aq (O ⟨b,0,V⟩),.bool q] w R from H _ yH
 intro R h;obtain⟨va,vc,rfl⟩:=wh;refine aP2 ?_;have aYj:(nv:Int) ≥ 0:=zo;refine cG hb ?_;rw[size_alloc];obtain⟨wA,qN⟩:=b9 ((w.alloc (ae (madeCells #[zi 0] nv) 3 (0,0))).alloc (ae #[zi 0,bH,cM w.heap.size nv nv,zi 0] 247));rw[<- qN];have yQ:Ext w wA:=yF;have sA:wA.heap.size=w.heap.size+1+1:=yH;have gA1:wA.heap[w.heap.size]?=aN (madeCells #[zi 0] nv) 3:=yH;have gA2:wA.heap[w.heap.size+1]?=aN #[zi 0,bH,cM w.heap.size nv nv,zi 0] 247:=yH;clear qN;obtain⟨mb,K0⟩:=b9 (w.heap.size+1);obtain⟨vb,yO⟩:=b9 w.heap.size;obtain⟨vv,S⟩:=b9 (Value.slice (O ⟨vb,0,V⟩) nv nv);rw[<- K0];rw[<- K0,<- yO] at gA2;rw[<- yO] at gA1;refine⟨fun m z w'=>∃ j f,z 24=zi ((j:Nat):Int)/\j<=nv/\m=nv-j/\Ext w w'/\w'.heap[mb]?=aN #[zi 0,bH,cM vb nv nv,zi 0] 247/\w'.heap[vb]?=aN f 3/\f.size=nv/\∀ i,i<j->f[i]?=O (zi (-1)),
  ⟨_,0,_,J,a0r _,J,yQ,gA2,gA1,size_madeCells ..,zg⟩,?_⟩
 intro m z d w3 D;refine toPr ?_;obtain⟨j,f,h24,hj,rfl,eI,gm3,gv3,Li,hAj⟩:=D;have lm3:=bf gm3;have lv3:=bf gv3;by_cases fx:j<nv
 .have jJ:((j:Nat):Int).toNat=j:=zo;have k:((j:Nat):Int)<(nv:Int):=zo;refine dC h24 k @gm3 (zA @gv3 @jJ) ?_;refine⟨_,?_,j+1,f.setIfInBounds j (zi (-1)),zg,zo,J,?_,J,zg,fun i hi=>?_⟩
  .omega
  .exact yF
  grind
 have ID:j=nv:=zo;subst ID;have k:¬ ((j:Nat):Int)<((j:Nat):Int):=zo;have hAe:f=((a0P j (V:Option Nat)).map tH).toArray:=by
  grind [Array.ext,Array.getElem?_eq_getElem,tH]
 subst hAe;have T:fG vb mb vb bH vv [] [] 0 w3 ⟨0,[],a0P j V⟩:=⟨yH,zo,⟨J,yH⟩,⟨J,J⟩,yH,a0d _,zg,List.nodup_nil⟩;obtain⟨K,aqW⟩:∃ y:Mk,y=⟨0,[],a0P j V⟩:=⟨_,J⟩;have xy:GK 0 K:=by rw[aqW];exact⟨a0d _,zg,zs,zg⟩
 have Pb:K.vars.length=j:=zg;unfold Bg at h;rw[<- aqW] at T h;have hs0:K.slots=0:=zg;have pJ:K.ins=[]:=zg;obtain⟨Uz,gi,lu⟩:=gi;have vL:=lu.Fg;obtain⟨aa,ac,rfl⟩:=gi.sl;have eK:=eI.ext _ _ hb;refine iJ h24 k eK ?_;refine⟨fun m z w'=>∃ i ls B,z 39=zi ((i:Nat):Int)/\i<=args.length/\m=args.length-i/\ls=a0C i/\P.CN K i ls B/\fG vb mb vb bH vv [] [] 0 w' B/\iB vb mb vb w3 w'/\GK 0 B/\B.vars=K.vars/\B.slots=i,
  ⟨_,0,[],K,J,a0r _,J,J,P.CN.zero K,T,yF,xy,J,hs0⟩,?_⟩
 intro m z2 d2 w4 D;refine toPr ?_;obtain⟨i,ls,B,U,hi,rfl,GB,iA,h1,lY,jU,kH,dX⟩:=D;have Lj:=lY.size;by_cases kS:i<args.length
 .have k:((i:Nat):Int)<(Uz.length:Int):=zo;refine dy U k ?_;refine a0c (Lg h1 jU.slots) ?_;rintro e w5 ⟨pL,g⟩;cases E:B.slot with
  | none=>
   rw[E] at g;rw[iA.none E kS] at h;have g:e=gV (.fault 4):=g;subst g;exact h _ _ ⟨(by grind [iB.toExt,bz.trans]),J⟩
  | some p=>
   obtain⟨s1,x⟩:=p;rw[E] at g;obtain⟨he,h2⟩:e = ah (zi (s1:Nat))/\fG vb mb vb bH vv [] [] 0 w5 x:=g;subst he;obtain⟨q1,q2,q3,q4,q5,q6⟩:=jU.slot E;refine cG U ?_;refine⟨_,?_,i+1,ls++[s1],x,zg,zo,J,by grind [List.range_succ],iA.step E,h2,yF,q1,q3.trans kH,zo⟩;omega
 have Ky:i=args.length:=zo;subst Ky;subst GB;have k:¬ (args.length:Int)<(Uz.length:Int):=zo;rw[iA.done] at h;dsimp only at h;refine dy U k ?_;refine⟨fun _ w'=>∃ x N1 QE vG,fG vb mb vb N1 vv QE vG 0 w' x/\iB vb mb vb w3 w'/\(if q=A then B.news 0 j else O B)=O x/\GK 12 x/\x.vars.length=j,?_,?_⟩
 .cases q with
  | false=>
   refine bD ?_;exact⟨B,_,_,_,h1,lY,J,(by grind [GK.up]),zg⟩
  | true=>
   have js:=h1.cell;rw[S] at js;have lc1:=bf js;refine cG js ?_;refine⟨fun m z w'=>∃ i l L N F,z 50=zi ((i:Nat):Int)/\i<=j/\m=j-i/\fG vb mb vb L vv N F 0 w' l/\iB vb mb vb w3 w'/\B.news 0 j=l.news i (j-i)/\GK i l/\l.vars.length=j,
    ⟨_,0,B,_,_,_,J,a0r _,J,h1,lY,J,jU,zg⟩,?_⟩
   intro m z5 d5 w5 D;refine toPr ?_;obtain⟨i,l,L,N,F,W,hi,rfl,h5,pL,heq,qM,xQ⟩:=D;by_cases nG:i<j
   .have k:((i:Nat):Int)<((j:Nat):Int):=zo;have e1:j-i=(j-(i+1))+1:=zo;refine dy W k ?_;rw[W];refine aqN h5 qM zo zo zo (fun C w6 pM=>?_) fun s x w6 C pM hM6=>?_
    .rw[e1,Mk.news,C] at heq;rw[zip J,heq] at h;exact h _ _ ⟨(by grind [iB.toExt,bz.trans]),J⟩
    .obtain⟨tK,tL,X,h6⟩:=hM6;rw[e1,Mk.news,C] at heq;refine bD ?_;refine⟨_,?_,i+1,_,tK,tL,X,zg,zo,J,h6,yF,heq,qM.aqM C,?_⟩
     .omega
     .obtain⟨-,-,q3,-⟩:=qM.slot C;show(x.vars.set i (O s)).length=j;grind
   .have nG:i=j:=zo;subst nG;have k:¬ ((i:Nat):Int)<((i:Nat):Int):=zo;rw[Nat.sub_self,Mk.news] at heq;refine dy W k ?_;exact⟨l,L,N,F,h5,pL,heq,qM.up zo,xQ⟩
 rintro sq w6 ⟨x,N1,QE,vG,h2,pM,iU,sS,jZ⟩ dq;rw[iU] at h;dsimp only at h;have sz6:=pM.size;refine a0c (Lg h2 sS.slots) ?_;rintro e w7 ⟨aP7,g⟩;have FI:=pM.trans aP7;have sz7:=FI.size;cases E:x.slot with
 | none=>
  rw[E] at g h;have g:e=gV (.fault 4):=g;subst g;refine bD ?_;exact h _ _ ⟨(by grind [iB.toExt]),J⟩
 | some p=>
 obtain⟨cs,Q⟩:=p;rw[E] at g h;dsimp only at h;obtain⟨he,h7⟩:e = ah (zi (cs:Nat))/\fG vb mb vb N1 vv QE vG 0 w7 Q:=g;subst he;obtain⟨q1,q2,q3,-⟩:=sS.slot E;have uZ:=h7.cell;have lc7:=bf uZ;obtain⟨w8,Lq⟩:=b9 (bO w7 mb (ae #[zi (Q.slots:Nat),N1,vv,zi (cs:Int)] 247));have Xz:bz (fun b _=>b=mb) w7 w8:=yF;have h8:fG vb mb vb N1 vv QE vG (cs:Int) w8 Q:=h7.own Xz (n:=Q.slots) (yH);have NY:iB vb mb vb w3 w8:=FI.trans (Xz.mono fun b o _ e=>.inl e);have hc8:=h8.cell;refine cG uZ ?_;rw[<- Lq];have sw8:w8.heap.size=w7.heap.size:=yH;rw[<- sw8];refine FD h8 (wd:=vh) (nm:=[]) (cv:=ai) (con:=V) (s:=[cs]) zs J (a0f q1.len zo) zo ?_;rintro w9 aP9 ⟨iv9,aQb,h9⟩;have By:=NY.trans aP9;have I6:GK 13 (Q.put vh [] V [cs]):=q1.put (qR zd zs zo);have FH:(Q.put vh [] V [cs]).vars.length=j:=by show Q.vars.length=j;grind
 obtain⟨k9,FG⟩:=b9 (Q.put vh [] V [cs]);rw[<- FG] at h9 I6 FH h;obtain⟨sb9,aQd⟩:=b9 (vG++[w8.heap.size]);rw[<- aQd] at h9;have Us:=T.oU By eK zd;refine cG Us ?_;refine⟨fun m z w'=>∃ i l L N F Ni,z 89=zi ((i:Nat):Int)/\i<=args.length/\m=args.length-i/\fG vb mb vb L vv N F (cs:Int) w' l/\iB vb mb vb w3 w' /\
   rZ args (a0C args.length) k9=rZ (args.drop i) ((a0C args.length).drop i) l/\GK Ni l/\Ni+ft (args.drop i)<=13+ft args/\l.vars.length=j,
  ⟨_,0,k9,iv9,aQb,sb9,13,J,a0r _,J,h9,By,J,I6,a0d _,FH⟩,?_⟩
 intro m z10 d10 jD D;refine toPr ?_;obtain⟨i,l,L,N,F,Ni,h89,hi,rfl,tn,Ee,heq,agy,aYs,aqX⟩:=D;have aqI:=Ee.size;by_cases kS:i<args.length
 .have qq:i<Uz.length:=zo;obtain⟨sbx,IL,e3,e4,e5,e6⟩:=gi.at' qq;obtain⟨u,e7,hu⟩:=eH.at' i kS lu;rw[e7] at e6;simp only[a0s,true_and] at e3;obtain⟨rfl,rfl⟩:=e3;have jJ:((i:Nat):Int).toNat=i:=zo;have I5:=T.oU Ee (eI.ext _ _ e5) zo;have k:((i:Nat):Int)<(Uz.length:Int):=zo;refine dC h89 k @I5 (zA @e6 @jJ) ?_;have FE:gO l.vars.length args[i]:=by rw[aqX];exact hx.at kS
  have PE:=Ud args i kS;have hir:i<(a0C args.length).length:=zg;have M8:eG (fun _=>True) w3 u args[i]:=eG.mono zg (by grind [bz.ext]) _ _ hu;refine a0c (aqn _ args[i] (a0d _) tn agy zo FE (T.ex Ee M8) zo) ?_;rintro e j5 ⟨YC,g⟩;have dA:rZ (args.drop i) ((a0C args.length).drop i) l=match yY args[i] i l with
    | none=>V
    | some m=>rZ (args.drop (i+1)) ((a0C args.length).drop (i+1)) m:=by
   rw[a0h kS,a0h hir,rZ,List.getElem_range];rfl
  cases ht:yY args[i] i l with
  | none=>
   rw[ht] at g dA;rw[heq,dA] at h;have g:e=gV (.fault 4):=g;subst g;exact h _ _ ⟨(by grind [iB.toExt,bz.trans]),J⟩
  | some k6=>
   rw[ht] at g dA;obtain⟨he,tK,tL,CR,Yy,Hc⟩:=g;subst he;obtain⟨g1,g2⟩:=acV _ _ _ _ _ ht agy zo FE;refine cG h89 ?_;refine⟨_,?_,i+1,k6,tK,tL,F++CR,Ni+gH args[i],zg,zo,J,Hc,yF,heq.trans dA,g1,zo,zo⟩;omega
 have Ky:i=args.length:=zo;subst Ky;have k:¬ (args.length:Int)<(Uz.length:Int):=zo;rw[heq,List.drop_length,rZ] at h;dsimp only at h;have aqY:=tn.cell;rw[S] at aqY;have YD:Ni<=2913:=zo;refine iJ h89 k aqY ?_;refine⟨fun m z w'=>∃ i r L N F,z 104=zi ((i:Nat):Int)/\i<=j/\m=j-i/\fG vb mb vb L vv N F (cs:Int) w' r/\iB vb mb vb w3 w'/\l.rest 0 j=r.rest i (j-i)/\GK (Ni+i) r/\r.vars.length=j/\∀ q,q<i->∃ t:Nat,r.vars[q]?=O (O t),
  ⟨_,0,l,_,_,_,J,a0r _,J,tn,Ee,J,agy,aqX,zg⟩,?_⟩
 intro m z12 d12 pK D;refine toPr ?_;obtain⟨i,r,iv5,agl,sb5,YE,hi,rfl,B5,I7,heq,Lr,NF,hvq⟩:=D;have UA:=B5.cell;obtain⟨aYu,YF⟩:=B5.vars;rw[S] at UA;have aYv:=bf UA;have aYw:=bf YF;have aYx:=I7.size;by_cases nG:i<j
 .have k:((i:Nat):Int)<((j:Nat):Int):=zo;have ein:((i:Nat):Int).toNat=i:=zo;have e1:j-i=(j-(i+1))+1:=zo;have I:(r.vars.map tH).toArray[i]?=O (tH r.vars[i]):=zg;have Li:(r.vars.map tH).toArray.size=j:=zg;obtain⟨f,hA⟩:=b9 ((r.vars.map tH).toArray);rw[<- hA] at YF I Li;have rh:r.vars.getD i V=r.vars[i]:=zg;cases g:r.vars[i] with
  | some t=>
   rw[g] at I rh;have I:f[i]?=O (zi (t:Int)):=I;rw[e1,Mk.rest,rh] at heq;have Kf:¬ (t:Int)<0:=zo;refine dC YE k UA (zA YF (zA I (zA @ein Kf))) ?_;refine⟨_,?_,i+1,r,iv5,agl,sb5,zg,zo,J,B5,I7,heq,(by grind [GK.up]),NF,fun q hq=>?_⟩
   .omega
   .by_cases qZ:q=i
    .grind
    .exact hvq q zo
  | none=>
   rw[g] at I rh;have I:f[i]?=O (zi (-1)):=I;rw[e1,Mk.rest,rh] at heq;refine dC YE k UA (zA YF (zA I @ein)) ?_;rw[YE];refine aqN B5 Lr zo zo zo (fun C mr aQg=>?_) fun s x mr C aQg aQh=>?_
   .rw[C] at heq;rw[heq] at h;exact h _ _ ⟨(by grind [iB.toExt,bz.trans]),J⟩
   .obtain⟨tK,tL,X,h6⟩:=aQh;rw[C] at heq;obtain⟨-,-,GZ,-⟩:=Lr.slot C;refine bD ?_;refine⟨_,?_,i+1,_,tK,tL,X,zg,zo,J,h6,yF,heq,Lr.aqM C,?_,fun q hq=>?_⟩
    .omega
    .show(x.vars.set i (O s)).length=j;grind
    .show ∃ t:Nat,(x.vars.set i (O s))[q]?=O (O t);by_cases qZ:q=i
     .grind
     .rw[List.getElem?_set_ne zo,GZ];exact hvq q zo
 have nG:i=j:=zo;subst nG;have k:¬ ((i:Nat):Int)<((i:Nat):Int):=zo;rw[Nat.sub_self,Mk.rest] at heq;rw[heq] at h;dsimp only at h;have rK:P.VK r:=fun q hq=>zg;have aQi:=T.oU I7 eK zd;have dA:Ext pK pK.drew:=yF;refine dC YE k aQi UA ?_;have nE:dJ (fun _=>True) pK.drew bv body:=dJ.mono zg yH _ _ (T.bd I7 (dJ.mono zg (by grind [bz.ext]) _ _ mz));refine a0c (QF _ body zo (B5.ext dA) Lr zo rK (by rw[NF];exact eX) nE (cs:=cs) zo) ?_;rintro e I1 ⟨aQj,g⟩;have afV:=I7.trans ((bz.ea dA).trans aQj);cases ht:kX body cs r with
 | none=>
  rw[ht] at g h;have g:e=gV (.fault 4):=g;subst g;exact h _ _ ⟨(by grind [iB.toExt]),J⟩
 | some k6=>
 rw[ht] at g h;dsimp only at h;obtain⟨rfl,aYy,aYz,aYA,aYB,CJ⟩:=g;obtain⟨aq1,-⟩:=DP (M:=M) (nv:=r.vars.length) _ _ _ _ _ ht Lr (by rw[NF];exact eX) zo zo;refine bD ?_;refine⟨fun _ w'=>iB vb mb vb w3 w'/\rL w' mb ⟨k6.slots,(k6.put (if q=A then [100,111,110,101] else [114,101,116]) [] V []).ins⟩,?_,?_⟩
 .cases q with
  | true=>
   refine bD ?_;refine a0c (Lh CJ (wd:=[100,111,110,101]) (nm:=[]) (cv:=ai) (con:=V) (s:=[]) (sv:=bH) (bl:=[]) J (.inl zg) zg (a0f aq1.len zo)) ?_;rintro e Ub ⟨rfl,aq2,aQk,aQl,Uc⟩;refine bD ?_;exact⟨yF,_,_,_,_,_,_,_,_,Uc,J,J⟩
  | false=>
   refine bD ?_;refine a0c (Lh CJ (wd:=[114,101,116]) (nm:=[]) (cv:=ai) (con:=V) (s:=[]) (sv:=bH) (bl:=[]) J (.inl zg) zg (a0f aq1.len zo)) ?_;rintro e Ub ⟨rfl,aq2,aQk,aQl,Uc⟩;refine bD ?_;exact⟨yF,_,_,_,_,_,_,_,_,Uc,J,J⟩
 .rintro s6 Ub ⟨aq2,vn⟩ d6;refine bD ?_;exact h _ _ ⟨(by grind [iB.toExt]),mb,J,zo,vn⟩
theorem jH.oU(a:jH wb w w'){T:Nat}(c:w.heap[b]?=aN cs T)(d:T≠5)(f:b≠wb):w'.heap[b]?=aN cs T:=a.block _ _ c (by
 rintro (e | ⟨-,cs',z,e⟩)<;>grind)
theorem qw.ne(h:qw w wb out){T:Nat}(a:w.heap[b]?=aN cs T)(c:T≠100):b≠wb:=fun e=>by
 obtain⟨d,buf,-,f,-⟩:=h;grind
def yh:List Bs->Bs
 | []=>[]
 | w::r=>32::(w++yh r)
theorem YG:∀ (l:List Bs),(l.map fun w=>(32:UInt8)::w).flatten=yh l
 | []=>rfl
 | w::r=>by rw[List.map_cons,List.flatten_cons,YG r];rfl
theorem agz:∀ (a b:List Bs),yh (a++b)=yh a++yh b
 | [],b=>rfl
 | w::r,b=>by rw[List.cons_append,yh,yh,agz r b];simp
theorem aq3{l:List Bs}(a:j<l.length):yh (l.take (j+1))=yh (l.take j)++32::l[j]:=by
 grind [List.take_add_one,List.getElem?_eq_getElem,agz,yh]
def aQm(l:List Bs)(j:Nat):(yh (l.take j)).length<=(yh l).length:=by
 grind [List.take_append_drop,yh,agz,a0i]
def YH{first:Bs}{l:List Bs}(h:qw w wb out)(o:fD (fun _=>True) w 9 tv (l.map fun s=>aM s))(E:l.length<=1000)(hlen:out.length+first.length+(yh l).length+1<=1000000000) :
  Calls bag 108 #[pp wb,aM first,tv] w fun e w'=>e = ah (ak #[])/\qw w' wb (out++mJ first l)/\jH wb w w':=by
 obtain⟨F,lc,rfl⟩:=o.sl;refine aNu ?_;refine(ap6 h first zo).mono ?_;rintro e w1 ⟨⟨v1,rfl⟩,t,u⟩;have x:(l.map fun s=>(a0u (bs s))).length=l.length:=zs;refine bD ?_;refine⟨fun m z w'=>∃ j,z 13=zi ((j:Nat):Int)/\j<=l.length/\m=l.length-j/\qw w' wb (out++first++yh (l.take j))/\jH wb w w',⟨_,0,J,a0r _,J,by rw[List.take_zero,yh,List.append_nil];exact t,u⟩,?_⟩;intro m z d w3 y;refine toPr ?_;obtain⟨j,c,H,rfl,f,i⟩:=y;by_cases b:j<l.length
 .obtain⟨g,cs,p,I,q,K⟩:=o.at' (j:=j) (by rw[x];exact b);simp only[a0s,true_and] at p;obtain⟨rfl,rfl⟩:=p;have B:cs[j]?=O (aM (l[j])):=zg;have C:((j:Nat):Int).toNat=j:=zo;have k:((j:Nat):Int)<(((l.map fun s=>(a0u (bs s))).length:Nat):Int):=zo;have g3:=i.oU q zd (h.ne q zd);have a:=aQm l (j+1);rw[aq3 b] at a;simp only[a0i,a0j] at a;refine dC c k @g3 (zA @B @C) ?_;rw[LY _ _ zg];refine a0c (ap6 f ([32]++l[j]) zg) ?_;rintro e D ⟨⟨v4,rfl⟩,r,n⟩;refine cG c ?_;refine⟨_,?_,j+1,zg,zo,J,?_,i.trans n⟩
  .omega
  grind [aq3,a0I]
 .have b:j=l.length:=zo;subst b;have k:¬ (l.length:Int)<(((l.map fun s=>(a0u (bs s))).length:Nat):Int):=zo;rw[List.take_length] at f;refine dy c k ?_;refine a0c (aO6 f 10 zg) ?_;rintro e D ⟨⟨v4,rfl⟩,r,n⟩;refine bD ?_;refine⟨?_,i.trans n⟩;unfold mJ;rw[YG,<- a0I,<- a0I];exact r
def Tryz.aQn:(Tryz.prog.info? 9).map (fun i=>(i.zero,i.size,i.bytes))=O (O (aM []),1,16):=zk
abbrev CT(base:Nat)(w:Z)(v:Y)(l:List Bs):Prop:=w.ownsRow base 9 1 v l.length (l.map fun s=>.string (bs s))
section
variable{ba:Nat}{v:Y}{l:List Bs}{w w':Z}
theorem CT.nil:CT ba w bH []:=⟨J,yH⟩
theorem CT.ext(h:CT ba w v l)(a:Ext w w'):CT ba w' v l:=jM a.ext h
theorem CT.sl(h:CT ba w v l):fD (fun _=>True) w 9 v (l.map fun s=>aM s):=EC h zg
def CT.push(h:CT w0.heap.size w v l)(a:Ext w0 w)(z:l.length<=1000){K:Y->Z->Prop}
  (k:∀ v' w',CT w0.heap.size w' v' (l++[s])->Ext w0 w'->K v' w') :
  WR bag (Builtin.append_ #[39,39] 39 #[v,cM w.heap.size 1 1]) (w.alloc (ae #[aM s] 9)) K X:=by
 have c:Ext w (w.alloc (ae #[aM s] 9)):=yF;obtain⟨i,n,j⟩:=Option.map_eq_some_iff.1 Tryz.aQn;simp only[Prod.mk.injEq] at j;obtain⟨p,q,r⟩:=j;refine Sx.C6 (m:=1) (t:=39) (e:=9) zk n p q r J zd (jM c.ext h) (qG J) J (fun u hu=>?_) zo zd (by rw[size_alloc];have:=a.size;omega) fun v' w' B d hv=>k v' w' ?_ ?_
 .simp only[List.mem_cons,List.not_mem_nil,or_false] at hu;subst hu;rfl
 .exact yH
 .have:=d.size;have s1:=c.size;have s0:=a.size;refine⟨d.os.trans (c.os.trans a.os),d.tape.trans (c.tape.trans a.tape),d.output.trans (c.output.trans a.output),zo,fun b o x _=>?_⟩;have y:=c.ext _ _ (a.ext _ _ x);rw[d.block b (bf y) (fun e=>?_)]
  .exact yH
  .rcases h.2 with⟨f,-⟩| ⟨g,cap,cur,f,C,-⟩
   .rw[f] at e;cases e
   .rw[f] at e;injection e with e;grind
end
theorem qw.ext{w w':Z}{wb:Nat}{out:Bs}(h:qw w wb out)(a:Ext w w'):qw w' wb out:=by
 obtain⟨b,buf,c,d,e⟩:=h;exact⟨b,buf,c,a.ext _ _ d,jM a.ext e⟩
theorem qy.at{w:Z}:∀ {l:List P.In} {vs:List Y} {sb:List Nat} {j:Nat} {i:P.In},qy w vs l sb->l[j]?=O i->∃ cv sv bl,vs[j*4]?=O (aM i.word)/\vs[j*4+1]?=O (aM i.name)/\vs[j*4+2]?=O cv/\vs[j*4+3]?=O sv/\x8 cv i.const/\I2 w sv i.s bl
 | [],_,_,j,i,_,a=>zg
 | x::r,vs,sb,0,i,⟨cv,sv,bl,rest,c,d,e,f,g,b⟩,a=>by
  grind
 | x::r,vs,sb,j+1,i,⟨cv,sv,bl,rest,c,d,e,f,g,b⟩,a=>by
  obtain⟨m,h,k,q1,q2,q3,q4,n,o⟩:=qy.at b (show r[j]?=O i from a);grind
def fG.bfr{cut:Int}{k:Mk}(h:fG base mb pb iv vv gk fQ cut w k)(d:jH wb w w')(e:∀ T cs,w.heap[wb]?=aN cs T->T=100):fG base mb pb iv vv gk fQ cut w' k:=by
 have f:∀ {b T:Nat} {cs:Array Y},T≠5->T≠100->w.heap[b]?=aN cs T->w'.heap[b]?=aN cs T:=(by grind [jH.oU]);refine⟨(by grind [cell]),h.lo,⟨h.row.1,?_⟩,h.ins.bI yH,(by grind [vars]),h.I3,h.sep,h.I4⟩;rcases h.row.2 with g | ⟨b,cap,cur,rfl,a,i,c⟩
 .exact yH
 .exact .inr ⟨b,cap,cur,J,a,yH,c⟩
theorem qw.ty(h:qw w wb out):∀ (T:Nat) (cs:Array Y),w.heap[wb]?=aN cs T->T=100:=fun T cs hx=>by
 obtain⟨a,buf,-,b,-⟩:=h;grind
def aQq{cv:Y}(b:x8 cv (O t))(c:ef t)(d:w.heap[pb]?=aN #[bH,zi 9] 96)(f:w.heap[tb]?=aN #[aq V,bH,pp pb,.map V] 103)(g:kJ w)(h:4<tb)(j:pb≠4)(k:pb≠tb) :
  Calls bag 31 #[pp tb,cv,zi 0] w fun e w'=>e = ah (ak #[])/\ml tb pb w w'/\∃ nm,su w' tb (pp pb) nm (Cf (O t)):=by
 have m:wS [] tb pb 0 96 #[bH,zi 9]:=⟨trivial,zs,k,h,j,zo,zo⟩;have o:lI id 0 [] tb pb 0 96 #[bH,zi 9] (.map V) w ⟨9,[],[]⟩:=
  ⟨⟨zg,yH⟩,⟨aq V,bH,.inl J,f,World.ownsRow_nil _ _ _ _⟩,.inl ⟨J,J⟩,d,g,zg⟩
 have key:ku [] 2 t 0 ⟨9,[],[]⟩=O (O ⟨8,Cf (O t),[]⟩):=by
  cases t with
  | atom a=>rfl
  | int n=>rfl
  | var i=>exact b.elim
  | comp s l=>exact b.elim
 have p:dL id 0 w cv t:=b.ep;refine a0c ((cw 2).tm (least:=0) m ⟨_,o⟩ p c (by simp [Ws.cS]) (a0d _) key) ?_;rintro e x ⟨q,rfl,r,u⟩;exact⟨J,q,r,u.bu⟩
