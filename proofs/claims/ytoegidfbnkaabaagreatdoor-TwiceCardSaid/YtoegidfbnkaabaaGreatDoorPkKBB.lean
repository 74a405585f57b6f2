/- A part of one proof (KG10, KG11, KG12, KG13, KG14, ShX3c, KG14b, KG15, VT2, VT3). -/
import Derived.Test.YtoegidfbnkaabaaGreatDoorPkKBA
set_option linter.all false
set_option maxRecDepth 100000
set_option maxHeartbeats 8000000
open Option renaming some → O, none → V
open Go renaming Value → Y, World → Z
open Bool renaming true → A
open Go.Obj renaming cells → ah
open Go.Ending renaming returned → ai
open Go.Value renaming nilIface → aj, tuple → aq, pointer → au
open Go.Calls renaming mono → a0C
open Nat renaming le_refl → a0D, le_trans → a0E, zero_le → a0R, add_zero → a2r
open List renaming length_append → a0H, drop_eq_getElem_cons → a0I, length_cons → a0J, mem_append → a0P, mem_singleton → a0Y, length_nil → a0Z, range → a09, append_assoc → a1b, replicate → a1g
open Go.Instr renaming loadAt → a0Q
open Go.Value.slice renaming injEq → a0S
open Go.Value renaming string → a0U
open Go.Proofs.Tryz renaming prog → baH
namespace Go.Proofs.YtoegidfbnkaabaaGreatDoor
open P
open Go.RowKit Sx
variable{M N b base cap j mb n pb tb:Nat}{R:Ending->Z->Prop}{X:Y->Z->Prop}{cs:Array Y}{iv tv v vv:Y}{gx:List Y}{out s:Bs}{t:Tm}{gI:List Bd}{zu:Mk}{fw:List Nat}{w w' w0:Z}
section
variable{base mb vb:Nat}{cut:Int}
def aP3{name:Bs}{args:List Ex}(iS:pb=103){k:Mk}{cs:Nat}
  (h:fM base mb vb iv vv gx fw cut w k) (hk:GK N k) (hN:N+4*iZ (.mk pb name args gI)<=90000) (rV:P.VK k) (T:eY k.vars.length M (.mk pb name args gI)) (hx:dM (fun _=>True) w v (.mk pb name args gI)) :
  Calls baH 107 #[pp mb,v,zi (cs:Nat)] w (uS base mb vb vv fw cut w (kZ (.mk pb name args gI) cs k)):=by
 suffices H:∀ R:Ending->Z->Prop,(∀ n w',uS base mb vb vv fw cut w (kZ (.mk pb name args gI) cs k) n w'->R n w')->Calls baH 107 #[pp mb,v,zi (cs:Nat)] w R from H _ fun _ _ h=>h;intro R c;unfold eY at T;obtain⟨o1,o2,o3,o4,o5,o6,o7,o8⟩:=T;unfold dM at hx;obtain⟨b,av,pv,dk,us,rfl,-,a,U,W,lH,nT⟩:=hx;have hc:=h.cell;have lc:=bn hc;have lv:=bn h.vars.2;have Fb:=W.Ft;obtain⟨aa,ac,rfl⟩:=U.sl;simp only[iZ] at hN;subst iS;refine UH ?_;unfold kZ at c;rw[bO zd,bO zd,bO zd,bO zd,bO zd] at c;refine cM a ?_;refine⟨fun m z w'=>∃ j f X BE g o ls v1,z 27=zi ((j:Nat):Int)/\z 15=v1/\j<=args.length/\m=args.length-j/\ls.length=j/\fM base mb vb X vv BE (fw++g) cut w' f/\(∀ b∈g,w.heap.size<=b/\v1.ownBlock≠O b)/\iF base mb vb w w'/\oz w.heap.size w' v1 ls /\
   P.uT k args j ls f/\GK o f/\o+fL (args.drop j)<=N+fL args/\f.vars=k.vars/\(∀ y∈ls,y<64)/\(ls=[]->v1 = b9),
  ⟨_,0,k,iv,gx,[],N,[],_,J,J,a0R _,J,J,zg,yH,yF,oz.nil,P.uT.zero k args,hk,a0D _,J,zg,fun _=>J⟩,?_⟩
 intro m z d w3 hI;refine toPr ?_;obtain⟨j,f,X,BE,g,o,ls,v1,C,D,hj,rfl,GL,E,UC,q,r,F,t,hNj,G,agw,Yz⟩:=hI;obtain⟨ra,rc,rfl⟩:=ij r;have QV:=q.size;have dU:=fun b=>r.own (b:=b);by_cases i:j<args.length
 .have qG:j<dk.length:=zo;obtain⟨sb1,IX,e3,e4,e5,e6⟩:=U.at' qG;obtain⟨u,e7,hu⟩:=eT.at' j i W;rw[e7] at e6;simp only[a0S,true_and] at e3;obtain⟨rfl,rfl⟩:=e3;have j8:((j:Nat):Int).toNat=j:=zo;have Jg:=h.py q e5 zd;have I:((j:Nat):Int)<(dk.length:Int):=zo;refine dL C I @Jg (zA @e6 @j8) ?_;have FK:ir f.vars.length args[j]:=by rw[G];exact o5.at i
  have P0:=UB args j i;have agB:=YT args j;refine a0C (aq2 _ args[j] (a0D _) E t zo (VK.of rV G) FK (h.ex q hu)) ?_;rintro e w4 ⟨mm,l⟩;have Ls:=mm.size;cases ht:Aq args[j] f with
  | none=>
   rw[ht] at l;rw[F.none i ht] at c;have l:e=gW (.fault 4):=l;subst l;refine bF ?_;exact c _ _ ⟨yF,J⟩
  | some p=>
   obtain⟨s1,k4⟩:=p;rw[ht] at l;obtain⟨he,Lt,Lu,nE,Od,h4⟩:=l;subst he;obtain⟨g1,g2,g3⟩:=adB _ _ _ _ _ ht t FK;have C9:=r.fr mm lc lv;have aq3:=fun b=>C9.own (b:=b);have aPV:=h4.ins.lt;refine cM D ?_;have x:∀ b∈fw++g++nE,(Value.slice ra ls.length rc).ownBlock≠O b:=fun b a he=>by
    rcases a0P.1 a with a | a
    .rcases a0P.1 a with a | a
     .have:=(dU b he).1;have:=h.ins.lt _ a;omega
     grind
    grind
   refine C9.push zo zo fun v5 w5 QH iU yd=>?_;refine cM C ?_;refine⟨_,?_,j+1,k4,Lt,Lu,g++nE,o+iH args[j],ls++[s1],v5,zg,zg,zo,J,zg,?_,fun y K=>?_,iF.own yF iU yH,QH,F.step i ht,g1,zo,g2.trans G,fun y K=>?_,zg⟩
   .omega
   .rw[<- a1b];exact h4.Hh iU yH x zg
   .exact yH
   grind
 .have i:j=args.length:=zo;subst i;have I:¬ (args.length:Int)<(dk.length:Int):=zo;rw[F.done] at c;have c:∀ n w',uS base mb vb vv fw cut w (O (f.put (if jx name=ls.length then nD else Ar) name V ls)) n w'->R n w':=c;have L:=h.py q a zd;refine jt C I L ?_;refine a0C (MK name) ?_;rintro e w4 ⟨rfl,rfl⟩;obtain⟨bl,Hm,o9⟩:=r.sin Yz;have x:∀ b∈bl,b ∉ fw++g/\b≠vb:=fun b a=>by
   have a:=o9 b a;have:=(dU b a).1;refine⟨fun hm=>?_,zo⟩;rcases a0P.1 hm with hm | hm
   .have:=h.ins.lt _ hm;omega
   grind
  by_cases B:jx name=(ls.length:Int)
  .rw[zip B] at c;refine jt D B L ?_;refine a0C (Lq E (wd:=nD) (nm:=name) (cv:=aj) (con:=V) (s:=ls) J Hm x (a0E t.len zo)) ?_;rintro e w6 ⟨rfl,qf,Q,S,Hn⟩;refine bF ?_;refine c _ _ ⟨yF,J,Q,S,g++bl,fun y K=>?_,zg⟩;exact yH
  .rw[bO B] at c;refine jt D B L ?_;refine a0C (Lq E (wd:=Ar) (nm:=name) (cv:=aj) (con:=V) (s:=ls) J Hm x (a0E t.len zo)) ?_;rintro e w6 ⟨rfl,qf,Q,S,Hn⟩;refine bF ?_;refine c _ _ ⟨yF,J,Q,S,g++bl,fun y K=>?_,zg⟩;exact yH
end
section
variable{base mb vb:Nat}{cut:Int}
def aP4(ih:UI base mb vb cut n){name:Bs}{args:List Ex}(hn:iZ (.mk cap name args gI)<=n+1)(iS:cap=59){k:Mk}{cs:Nat}
  (h:fM base mb vb iv vv gx fw cut w k) (hk:GK N k) (hN:N+4*iZ (.mk cap name args gI)<=90000) (rV:P.VK k) (dj:eY k.vars.length M (.mk cap name args gI)) (hx:dM (fun _=>True) w v (.mk cap name args gI)) (E:cs<64) :
  Calls baH 107 #[pp mb,v,zi (cs:Nat)] w (uS base mb vb vv fw cut w (kZ (.mk cap name args gI) cs k)):=by
 suffices H:∀ R:Ending->Z->Prop,(∀ s w',uS base mb vb vv fw cut w (kZ (.mk cap name args gI) cs k) s w'->R s w')->Calls baH 107 #[pp mb,v,zi (cs:Nat)] w R from H _ fun _ _ h=>h;intro R d;unfold eY at dj;obtain⟨o1,o2,o3,o4,o5,o6,o7,o8⟩:=dj;unfold dM at hx;obtain⟨b,av,pv,vs,us,rfl,-,o,gD,CM,lH,F⟩:=hx;have hc:=h.cell;have uL:=F.G6;simp only[iZ] at hn hN;subst iS;have Cf:gI.length=2:=zo;obtain⟨pA,t,rfl⟩:∃ pA t,gI=[pA,t]:=by
  rcases gI with _ | ⟨a,_ | ⟨b,_ | ⟨c,r⟩⟩⟩<;>grind
 simp only[jD,a2r] at hn hN;simp only[a0J,a0Z] at uL;obtain⟨u0,UJ,UK⟩:=gF.CN 0 zs F;have arh:=o8.at (j:=0) zs;obtain⟨u1,eu1,uN⟩:=gF.CN 1 zs F;have YX:=o8.at (j:=1) zs;obtain⟨pb,CO,e3,e4,e5,Lv⟩:=lH.at' (j:=0) zo;rw[UJ] at Lv;subst e3;have G:CO[1]?=O u1:=by
  obtain⟨Ye,Yf,e3,-,e5',YY⟩:=lH.at' (j:=1) zo;grind
 have lX:∀ q:Nat,q<us.length->(q:Int)<(us.length:Int):=zg;have p8:=lX 0 zo;have YD:=lX 1 zo;have UL:((0:Nat):Int).toNat=0:=rfl;have I:((1:Nat):Int).toNat=1:=rfl;refine UH ?_;unfold kZ at d;rw[bO zd,bO zd,zip rfl] at d;refine cM o ?_;have Oe:iF base mb vb w w:=yF;have j6:k.vars=k.vars:=rfl;have d:∀ s w',uS base mb vb vv fw cut w (DS [pA,t] cs k) s w'->R s w':=d;unfold DS at d;refine a0C (UE h (a0E hk.len zo) kx) ?_;rintro e w3 ⟨UM,iv3,ark,g3,f3,rfl,xN,h3,L3⟩;have u:=Oe.trans UM;have QV:=u.size;have qT:GK (N+1) (k.put kx [] V [0]):=hk.put (rm zd zs zo);have eQ:=h.py u o zd;have p3:=h.py u e5 zd;refine dL eQ @p3 p8 (zA @UL @Lv) ?_;refine a0C (ih pA zo h3 qT zo (VK.of rV j6) (by show eY k.vars.length M pA;grind) (h.bd u UK) E) ?_;rintro e w4 ⟨Lw,f⟩;have L:=u.trans Lw;have Ls:=L.size;cases z:kZ pA cs (k.put kx [] V [0]) with
 | none=>
  rw[z] at f d;have f:e=gW (.fault 4):=f;subst f;exact d _ _ ⟨L,J⟩
 | some i=>
 rw[z] at f d;dsimp only at d;obtain⟨rfl,Lt,Lu,l,Od,h4⟩:=f;obtain⟨yI,Q⟩:=D0 _ _ _ _ _ z qT (by show eY k.vars.length M pA;grind) E zo;have Q:i.vars=k.vars:=Q.trans j6;have L4:=L3.fr h3 Lw Od;obtain⟨S,G9⟩:=Ax _ _ _ _ z;have hi4:i.ins=k.ins++⟨kx,[],V,[0]⟩::S:=by rw[G9];show(k.ins++[_])++S=_;grind
 have vj:fw++[g3]++l=fw++g3::l:=zg;refine bF ?_;refine a0C (UE h4 (a0E yI.len zo) jV) ?_;rintro e w8 ⟨UP,T,U,g8,f8,rfl,hg8,h8,L8⟩;have Of:=L.trans UP;have W:GK ((N+1+4*iZ pA)+1) (i.put jV [] V [0]):=yI.put (rm zd zs zo);have L8b:=L4.fr h4 UP (bl:=[g8]) (fun b o=>by rw[a0Y] at o;omega);have hi8:(i.put jV [] V [0]).ins=k.ins++⟨kx,[],V,[0]⟩::(S++[⟨jV,[],V,[0]⟩]):=by show i.ins++[_]=_;grind
 have fD:k.ins.length<i.ins.length:=zg;obtain⟨X,hX,Wg⟩:=P.arb (m:=i) (w:=jV) (j:=k.ins.length) fD;obtain⟨k9,B⟩:=ck ((i.put jV [] V [0]).land k.ins.length);have Jh:GK ((N+1+4*iZ pA)+1) k9:=by rw[B];exact W.land zo _
 have FN:k9.vars=k.vars:=by rw[B];exact Q
 rw[<- B] at hX d;obtain⟨sb8,aP8⟩:=ck ((fw++[g3]++l)++[g8]);obtain⟨xb,yb,hf,hC⟩:=UF h8 L8b hi8 J J (s1:=fw) (g:=g3) (s2:=l++[g8]) zs h.ins.QW (K:=fun e x=>e = ai (aq #[])/\iF base mb vb w x/\bD (fun b _=>O g3=O b) w8 x/\(∃ cs,w8.heap[g3]?=aP cs 3)/\fM base mb vb T vv U ((fw++[g3]++l)++[g8]) cut x ((i.put jV [] V [0]).land k.ins.length))
  (fun x C xk p=>⟨J,iF.own Of C yH,C,xk,p⟩)
 subst hf;refine bF ?_;refine⟨zk,?_⟩;refine a0C hC ?_;rintro e x ⟨rfl,y,C,xk,p⟩;rw[<- B] at p;have sz9:=y.size;have L9:=L8.Hh (g:=g3) zs xk C;have UQ:=h.py y o zd;have p9:=h.py y e5 zd;refine dL UQ @p9 YD (zA @I @G) ?_;refine a0C (ih t zo p Jh zo (VK.of rV FN) (by rw[FN];exact YX) (h.bd y uN) E) ?_;rintro e jA ⟨UR,f⟩;have Eu:=y.trans UR;have arn:=Eu.size;rw[P.ara] at d;cases Og:kZ t cs k9 with
 | none=>
  rw[Og] at f d;have f:e=gW (.fault 4):=f;subst f;exact d _ _ ⟨Eu,J⟩
 | some N9=>
 rw[Og] at f d;dsimp only at d;obtain⟨rfl,US,UT,Oh,agN,tN⟩:=f;have L10:=L9.fr p UR agN;obtain⟨r10,aro⟩:=Ax _ _ _ _ Og;have agQ:N9.ins=X++⟨jV,[],V,[0]⟩::r10:=zg;have hcX:(fw++[g3]++l).length=yr X:=by
  have:=p.ins.QW;rw[hX,agC,a0H] at this;have e1:yr [(⟨jV,[],V,[0]⟩:P.In)]=1:=rfl;grind
 obtain⟨xc,yc,fa,hC2⟩:=UF tN L10 agQ Wg J (s1:=(fw++[g3]++l)) (g:=g8) (s2:=Oh) zs hcX (K:=fun e D=>e = ai (aq #[])/\iF base mb vb w D/\fM base mb vb US vv UT ((fw++[g3]++l)++[g8]++Oh) cut D (N9.land i.ins.length))
  (fun D agT _ GD=>⟨J,iF.own Eu agT yH,GD⟩)
 subst fa;refine bF ?_;refine⟨zk,?_⟩;refine a0C hC2 ?_;rintro e D ⟨rfl,YZ,GD⟩;refine bF ?_;refine d _ _ ⟨YZ,J,US,UT,[g3]++l++[g8]++Oh,fun b o=>?_,?_⟩
 .simp only[a0P,a0Y] at o;grind
 grind
end
section
variable{base mb vb:Nat}{cut:Int}
def aQb(ih:UI base mb vb cut n){name:Bs}{args:List Ex}(hn:iZ (.mk cap name args gI)<=n+1)(iS:cap=63){k:Mk}{cs:Nat}
  (h:fM base mb vb iv vv gx fw cut w k) (hk:GK N k) (hN:N+4*iZ (.mk cap name args gI)<=90000) (rV:P.VK k) (dj:eY k.vars.length M (.mk cap name args gI)) (hx:dM (fun _=>True) w v (.mk cap name args gI)) (jP:cs<64) :
  Calls baH 107 #[pp mb,v,zi (cs:Nat)] w (uS base mb vb vv fw cut w (kZ (.mk cap name args gI) cs k)):=by
 suffices H:∀ R:Ending->Z->Prop,(∀ E w',uS base mb vb vv fw cut w (kZ (.mk cap name args gI) cs k) E w'->R E w')->Calls baH 107 #[pp mb,v,zi (cs:Nat)] w R from H _ fun _ _ h=>h;intro R i;unfold eY at dj;obtain⟨o1,o2,o3,o4,o5,o6,o7,o8⟩:=dj;unfold dM at hx;obtain⟨b,av,pv,vs,us,rfl,-,l,gD,CM,lH,U⟩:=hx;have hc:=h.cell;have lv:=bn h.vars.2;have uL:=U.G6;simp only[iZ] at hn hN;subst iS;have Cf:gI.length=3:=zo;obtain⟨pA,z,F,rfl⟩:∃ pA z F,gI=[pA,z,F]:=by
  rcases gI with _ | ⟨a,_ | ⟨b,_ | ⟨c,_ | ⟨d,r⟩⟩⟩⟩<;>grind
 simp only[jD,a2r] at hn hN;simp only[a0J,a0Z] at uL;obtain⟨u0,UJ,UK⟩:=gF.CN 0 zs U;have arh:=o8.at (j:=0) zs;obtain⟨u1,eu1,uN⟩:=gF.CN 1 zs U;have YX:=o8.at (j:=1) zs;obtain⟨u2,eu2,Fx⟩:=gF.CN 2 zs U;have aQc:=o8.at (j:=2) zs;obtain⟨pb,CO,e3,e4,e5,Lv⟩:=lH.at' (j:=0) zo;rw[UJ] at Lv;subst e3;have e61:CO[1]?=O u1:=by
  obtain⟨Ye,Yf,e3,-,e5',YY⟩:=lH.at' (j:=1) zo;grind
 have e62:CO[2]?=O u2:=by
  obtain⟨Ye,Yf,e3,-,e5',YY⟩:=lH.at' (j:=2) zo;grind
 have lX:∀ q:Nat,q<us.length->(q:Int)<(us.length:Int):=zg;have p8:=lX 0 zo;have YD:=lX 1 zo;have hi2:=lX 2 zo;have UL:((0:Nat):Int).toNat=0:=rfl;have ei1:((1:Nat):Int).toNat=1:=rfl;have ei2:((2:Nat):Int).toNat=2:=rfl;refine UH ?_;unfold kZ at i;rw[bO zd,bO zd,bO zd,zip rfl] at i;refine cM l ?_;refine a0C (Lp h hk.slots) ?_;rintro e w1 ⟨Es,f⟩;cases kq:k.slot with
 | none=>
  rw[kq] at f i;have f:e=gW (.fault 4):=f;subst f;refine bF ?_;exact i _ _ ⟨Es,J⟩
 | some p=>
 obtain⟨s1,W⟩:=p;rw[kq] at f i;obtain⟨he,h1⟩:e = ai (zi (s1:Nat))/\fM base mb vb iv vv gx fw cut w1 W:=f;subst he;obtain⟨q1,q2,q3,-⟩:=hk.slot kq;have sz1:=Es.size;refine bF ?_;refine FJ h1 (wd:=rh) (nm:=[]) (cv:=aj) (con:=V) (s:=[s1]) zs J (a0E q1.len zo) zo ?_;rintro w2 Ji ⟨Oi,QY,h2⟩;have Oe:=Es.trans Ji;have sz2:=Oe.size;have tG:GK (N+1) (W.put rh [] V [s1]):=q1.put (rm zd zs zo);have j6:(W.put rh [] V [s1]).vars=k.vars:=q3;obtain⟨o,QI⟩:=ck (W.put rh [] V [s1]);rw[<- QI] at h2 tG j6;obtain⟨x,agU⟩:=ck (fw++[w1.heap.size]);rw[<- agU] at h2;refine bF ?_;have i:∀ E w',uS base mb vb vv fw cut w (DT [pA,z,F] s1 cs o) E w'->R E w':=by rw[QI];exact i
 unfold DT at i;refine a0C (UE h2 (a0E tG.len zo) kx) ?_;rintro e w3 ⟨UM,iv3,ark,g3,f3,rfl,xN,h3,L3⟩;have G:=Oe.trans UM;have QV:=G.size;have qT:GK (N+1+1) (o.put kx [] V [0]):=tG.put (rm zd zs zo);have eQ:=h.py G l zd;have p3:=h.py G e5 zd;refine dL eQ @p3 p8 (zA @UL @Lv) ?_;refine a0C (ih pA zo h3 qT zo (VK.of rV j6) (by show eY o.vars.length M pA;grind) (h.bd G UK) q2) ?_;rintro e y ⟨Lw,f⟩;have mm:=G.trans Lw;have Ls:=mm.size;cases wT:kZ pA s1 (o.put kx [] V [0]) with
 | none=>
  rw[wT] at f i;have f:e=gW (.fault 4):=f;subst f;refine bF ?_;exact i _ _ ⟨mm,J⟩
 | some B=>
 rw[wT] at f i;dsimp only at i;obtain⟨rfl,Lt,Lu,u,Od,h4⟩:=f;obtain⟨yI,vJ⟩:=D0 _ _ _ _ _ wT qT (by show eY o.vars.length M pA;grind) q2 zo;have vJ:B.vars=k.vars:=vJ.trans j6;have L4:=L3.fr h3 Lw Od;obtain⟨I,G9⟩:=Ax _ _ _ _ wT;have hi4:B.ins=o.ins++⟨kx,[],V,[0]⟩::I:=by rw[G9];show(o.ins++[_])++I=_;grind
 have vj:x++[g3]++u=x++g3::u:=zg;refine bF ?_;refine FJ h4 (wd:=kY) (nm:=[]) (cv:=aj) (con:=V) (s:=[s1]) zs J (a0E yI.len zo) zo ?_;rintro w5 UU ⟨iv5,agW,h5⟩;have L:=mm.trans UU;have sz5:=L.size;have qX:GK ((N+1+1+4*iZ pA)+1) (B.put kY [] V [s1]):=yI.put (rm zd zs zo);have yd:(B.put kY [] V [s1]).vars=k.vars:=vJ;have L5:=L4.fr h4 UU (bl:=[y.heap.size]) (fun b l=>by rw[a0Y] at l;omega);have hi5:(B.put kY [] V [s1]).ins=o.ins++⟨kx,[],V,[0]⟩::(I++[⟨kY,[],V,[s1]⟩]):=by show B.ins++[_]=_;grind
 obtain⟨k5,agZ⟩:=ck (B.put kY [] V [s1]);rw[<- agZ] at h5 qX yd hi5 i;have TH:=h.py L l zd;have p5:=h.py L e5 zd;unfold Ff at i;refine dL TH @p5 YD (zA @ei1 @e61) ?_;refine a0C (ih z zo h5 qX zo (VK.of rV yd) (by rw[yd];exact YX) (h.bd L uN) jP) ?_;rintro e w6 ⟨UW,f⟩;have qf:=L.trans UW;have sz6:=qf.size;cases Kl:kZ z cs k5 with
 | none=>
  rw[Kl] at f i;have f:e=gW (.fault 4):=f;subst f;exact i _ _ ⟨qf,J⟩
 | some t=>
 rw[Kl] at f i;dsimp only at i;obtain⟨rfl,tX,tY,C,YW,h6⟩:=f;obtain⟨Q,A5⟩:=D0 (M:=M) (nv:=k.vars.length) _ _ _ _ _ Kl qX YX jP zo;have A5:t.vars=k.vars:=A5.trans yd;have L6:=L5.fr h5 UW YW;obtain⟨r6,hr6⟩:=Ax _ _ _ _ Kl;have hi6:t.ins=o.ins++⟨kx,[],V,[0]⟩::(I++[⟨kY,[],V,[s1]⟩]++r6):=zg;refine bF ?_;refine a0C (UE h6 (a0E Q.len zo) jV) ?_;rintro e w8 ⟨UP,iv8,agG,g8,f8,rfl,hg8,h8,L8⟩;have Of:=qf.trans UP;have hk8:GK ((((N+1+1+4*iZ pA)+1)+4*iZ z)+1) (t.put jV [] V [0]):=Q.put (rm zd zs zo);have L8b:=L6.fr h6 UP (bl:=[g8]) yH;have hi8:(t.put jV [] V [0]).ins=o.ins++⟨kx,[],V,[0]⟩::((I++[⟨kY,[],V,[s1]⟩]++r6)++[⟨jV,[],V,[0]⟩]):=by show t.ins++[_]=_;grind
 have fD:o.ins.length<t.ins.length:=zg;obtain⟨X,hX,Wg⟩:=P.arb (m:=t) (w:=jV) (j:=o.ins.length) fD;obtain⟨k9,FM⟩:=ck ((t.put jV [] V [0]).land o.ins.length);have Jh:GK ((((N+1+1+4*iZ pA)+1)+4*iZ z)+1) k9:=by rw[FM];exact hk8.land zo _
 have FN:k9.vars=k.vars:=by rw[FM];exact A5
 rw[<- FM] at hX i;obtain⟨sb8,aP8⟩:=ck ((x++[g3]++u++[y.heap.size]++C)++[g8]);obtain⟨xb,yb,hf,hC⟩:=UF h8 L8b hi8 J J (s1:=x) (g:=g3) (s2:=(u++[y.heap.size]++C)++[g8]) zs h2.ins.QW (K:=fun e S=>e = ai (aq #[])/\iF base mb vb w S/\bD (fun b _=>O g3=O b) w8 S/\(∃ cs,w8.heap[g3]?=aP cs 3)/\fM base mb vb iv8 vv agG ((x++[g3]++u++[y.heap.size]++C)++[g8]) cut S ((t.put jV [] V [0]).land o.ins.length))
  (fun S Cg xk D=>⟨J,iF.own Of Cg yH,Cg,xk,D⟩)
 subst hf;refine bF ?_;refine⟨zk,?_⟩;refine a0C hC ?_;rintro e S ⟨rfl,T,Cg,xk,D⟩;rw[<- FM] at D;have sz9:=T.size;have L9:=L8.Hh (g:=g3) zs xk Cg;have UQ:=h.py T l zd;have p9:=h.py T e5 zd;refine dL UQ @p9 hi2 (zA @ei2 @e62) ?_;refine a0C (ih F zo D Jh zo (VK.of rV FN) (by rw[FN];exact aQc) (h.bd T Fx) jP) ?_;rintro e jA ⟨UR,f⟩;have Eu:=T.trans UR;have arn:=Eu.size;rw[P.ara] at i;cases Og:kZ F cs k9 with
 | none=>
  rw[Og] at f i;have f:e=gW (.fault 4):=f;subst f;exact i _ _ ⟨Eu,J⟩
 | some N9=>
 rw[Og] at f i;dsimp only at i;obtain⟨rfl,US,UT,Oh,agN,tN⟩:=f;have L10:=L9.fr D UR agN;obtain⟨r10,aro⟩:=Ax _ _ _ _ Og;have agQ:N9.ins=X++⟨jV,[],V,[0]⟩::r10:=zg;have hcX:(x++[g3]++u++[y.heap.size]++C).length=yr X:=by
  have:=D.ins.QW;rw[hX,agC,a0H] at this;have e1:yr [(⟨jV,[],V,[0]⟩:P.In)]=1:=rfl;exact yH
 obtain⟨xc,yc,fa,hC2⟩:=UF tN L10 agQ Wg J (s1:=(x++[g3]++u++[y.heap.size]++C)) (g:=g8) (s2:=Oh) zs hcX (K:=fun e jE=>e = ai (aq #[])/\iF base mb vb w jE/\fM base mb vb US vv UT ((x++[g3]++u++[y.heap.size]++C)++[g8]++Oh) cut jE (N9.land t.ins.length))
  (fun jE agT _ GD=>⟨J,iF.own Eu agT yH,GD⟩)
 subst fa;refine bF ?_;refine⟨zk,?_⟩;refine a0C hC2 ?_;rintro e jE ⟨rfl,YZ,GD⟩;refine bF ?_;refine i _ _ ⟨YZ,J,US,UT,[w1.heap.size]++[g3]++u++[y.heap.size]++C++[g8]++Oh,fun b l=>?_,?_⟩
 .simp only[a0P,a0Y] at l;rcases l with(((((l | l) | l) | l) | l) | l) | l
  .omega
  .omega
  .exact yH
  .omega
  .exact yH
  .omega
  exact yH
 exact yH
end
section
variable{base mb vb:Nat}{cut:Int}
def aQi(ih:UI base mb vb cut n){name:Bs}{args:List Ex}(hn:iZ (.mk cap name args gI)<=n+1)(iS:cap=126){k:Mk}{cs:Nat}
  (h:fM base mb vb iv vv gx fw cut w k) (hk:GK N k) (hN:N+4*iZ (.mk cap name args gI)<=90000) (rV:P.VK k) (dj:eY k.vars.length M (.mk cap name args gI)) (hx:dM (fun _=>True) w v (.mk cap name args gI)) (jP:cs<64) :
  Calls baH 107 #[pp mb,v,zi (cs:Nat)] w (uS base mb vb vv fw cut w (kZ (.mk cap name args gI) cs k)):=by
 suffices H:∀ R:Ending->Z->Prop,(∀ m w',uS base mb vb vv fw cut w (kZ (.mk cap name args gI) cs k) m w'->R m w')->Calls baH 107 #[pp mb,v,zi (cs:Nat)] w R from H _ fun _ _ h=>h;intro R c;unfold eY at dj;obtain⟨o1,o2,o3,o4,o5,o6,o7,o8⟩:=dj;unfold dM at hx;obtain⟨b,av,pv,vs,us,rfl,-,i,gD,CM,lH,nT⟩:=hx;have hc:=h.cell;have lv:=bn h.vars.2;have uL:=nT.G6;simp only[iZ] at hn hN;subst iS;have Cf:gI.length=1:=zo;obtain⟨pA,rfl⟩:∃ pA,gI=[pA]:=by
  rcases gI with _ | ⟨a,_ | ⟨b,r⟩⟩<;>grind
 simp only[jD,a2r] at hn hN;simp only[a0J,a0Z] at uL;obtain⟨u0,UJ,UK⟩:=gF.CN 0 zs nT;have arh:=o8.at (j:=0) zs;obtain⟨pb,CO,e3,e4,e5,Lv⟩:=lH.at' (j:=0) zo;rw[UJ] at Lv;subst e3;have lX:∀ q:Nat,q<us.length->(q:Int)<(us.length:Int):=zg;have p8:=lX 0 zo;have UL:((0:Nat):Int).toNat=0:=rfl;refine UH ?_;unfold kZ at c;rw[bO zd,bO zd,bO zd,bO zd,zip rfl] at c;refine cM i ?_;refine a0C (Lp h hk.slots) ?_;rintro e w1 ⟨E,d⟩;cases F:k.slot with
 | none=>
  rw[F] at d c;have d:e=gW (.fault 4):=d;subst d;refine bF ?_;exact c _ _ ⟨E,J⟩
 | some p=>
 obtain⟨s1,u⟩:=p;rw[F] at d c;obtain⟨he,h1⟩:e = ai (zi (s1:Nat))/\fM base mb vb iv vv gx fw cut w1 u:=d;subst he;obtain⟨q1,q2,q3,-⟩:=hk.slot F;have sz1:=E.size;refine bF ?_;refine FJ h1 (wd:=rh) (nm:=[]) (cv:=aj) (con:=V) (s:=[s1]) zs J (a0E q1.len zo) zo ?_;rintro w2 Ji ⟨Oi,QY,x⟩;have Oe:=E.trans Ji;have sz2:=Oe.size;have G:GK (N+1) (u.put rh [] V [s1]):=q1.put (rm zd zs zo);have I:(u.put rh [] V [s1]).vars=k.vars:=q3;obtain⟨f,QI⟩:=ck (u.put rh [] V [s1]);rw[<- QI] at x G I;have aYC:∀ b∈[w1.heap.size],w.heap.size<=b:=yH;obtain⟨y,L⟩:=ck (fw++[w1.heap.size]);rw[<- L] at x;refine bF ?_;have c:∀ m w',uS base mb vb vv fw cut w (DU [pA] s1 f) m w'->R m w':=by rw[QI];exact c
 unfold DU at c;refine a0C (UE x (a0E G.len zo) kx) ?_;rintro e w3 ⟨UM,iv3,ark,g3,f3,rfl,xN,h3,L3⟩;have o:=Oe.trans UM;have QV:=o.size;have qT:GK (N+1+1) (f.put kx [] V [0]):=G.put (rm zd zs zo);have eQ:=h.py o i zd;have p3:=h.py o e5 zd;refine dL eQ @p3 p8 (zA @UL @Lv) ?_;refine a0C (ih pA zo h3 qT zo (VK.of rV I) (by show eY f.vars.length M pA;grind) (h.bd o UK) q2) ?_;rintro e z ⟨Lw,d⟩;have Q:=o.trans Lw;have Ls:=Q.size;cases B:kZ pA s1 (f.put kx [] V [0]) with
 | none=>
  rw[B] at d c;have d:e=gW (.fault 4):=d;subst d;refine bF ?_;exact c _ _ ⟨Q,J⟩
 | some l=>
 rw[B] at d c;dsimp only at c;obtain⟨rfl,Lt,Lu,t,Od,h4⟩:=d;obtain⟨yI,S⟩:=D0 _ _ _ _ _ B qT (by show eY f.vars.length M pA;grind) q2 zo;have S:l.vars=k.vars:=S.trans I;have L4:=L3.fr h3 Lw Od;obtain⟨C,G9⟩:=Ax _ _ _ _ B;have hi4:l.ins=f.ins++⟨kx,[],V,[0]⟩::C:=by rw[G9];show(f.ins++[_])++C=_;grind
 have vj:y++[g3]++t=y++g3::t:=zg;refine bF ?_;refine FJ h4 (wd:=kY) (nm:=[]) (cv:=aj) (con:=V) (s:=[s1]) zs J (a0E yI.len zo) zo ?_;rintro w5 UU ⟨iv5,agW,T⟩;have qe:=Q.trans UU;have qX:GK ((N+1+1+4*iZ pA)+1) (l.put kY [] V [s1]):=yI.put (rm zd zs zo);have yd:(l.put kY [] V [s1]).vars=k.vars:=S;have L5:=L4.fr h4 UU (bl:=[z.heap.size]) (fun b i=>by rw[a0Y] at i;omega);have U:(l.put kY [] V [s1]).ins=f.ins++⟨kx,[],V,[0]⟩::(C++[⟨kY,[],V,[s1]⟩]):=by show l.ins++[_]=_;grind
 obtain⟨W,X⟩:=ck (l.put kY [] V [s1]);rw[<- X] at T qX yd U c;refine bF ?_;refine a0C (Lq T (wd:=nD) (nm:=[102,97,105,108]) (cv:=aj) (con:=V) (s:=[]) (sv:=b9) (bl:=[]) J (.inl zg) yH (a0E qX.len zo)) ?_;rintro e w6 ⟨rfl,UW,tX,tY,h6⟩;have qf:=qe.trans UW;have L6:=L5.fr T UW (bl:=[]) (fun b i=>by cases i);have hi6:(W.put nD [102,97,105,108] V []).ins=f.ins++⟨kx,[],V,[0]⟩::(C++[⟨kY,[],V,[s1]⟩]++[⟨nD,[102,97,105,108],V,[]⟩]):=by show W.ins++[_]=_;grind
 obtain⟨xb,yb,hf,hC⟩:=UF h6 L6 hi6 J J (s1:=y) (g:=g3) (s2:=t++[z.heap.size]++[]) zs x.ins.QW (K:=fun e D=>e = ai (aq #[])/\iF base mb vb w D/\fM base mb vb tX vv tY (y++[g3]++t++[z.heap.size]++[]) cut D ((W.put nD [102,97,105,108] V []).land f.ins.length))
  (fun D A6 _ h7=>⟨J,iF.own qf A6 yH,h7⟩)
 subst hf;refine bF ?_;refine⟨zk,?_⟩;refine a0C hC ?_;rintro e D ⟨rfl,FO,h7⟩;refine bF ?_;refine c _ _ ⟨FO,J,tX,tY,[w1.heap.size]++[g3]++t++[z.heap.size],fun b i=>?_,?_⟩<;>grind
end
def QZ{base mb vb:Nat}{cut:Int}:∀ n,UI base mb vb cut n
 | 0,x,c=>by have:=ane x;omega
 | n+1,.mk kind name args parts,c=>by
  intro h hk d e b hx f;have o:=b;unfold eY at o;rcases o.2.1 with a | a | a | a | a | a
  .exact arf (QZ n) c (.inl a) h hk d e b hx f
  .exact arf (QZ n) c (.inr a) h hk d e b hx f
  .exact aP4 (QZ n) c a h hk d e b hx f
  .exact aQb (QZ n) c a h hk d e b hx f
  .exact aQi (QZ n) c a h hk d e b hx f
  .exact aP3 a h hk d e b hx
open Go.Proofs.YtoegidfbnkaabaaGreatDoor.Sx
section
variable{p0 p1 p2 p3 p4 p5 p6 p7:Y}{w:Z}{R:Ending->Z->Prop}
def aQj:=cz w R [p0,p1] (gd [(3,[24]),(8,[39]),(13,[50]),(21,[89]),(26,[104])] [(17006,[]),(35002,[])] [(32,9)] [(15,[9,0,1,2,3,4,5,6,7,8]),(29,[9,0,1,2,3,4,5,6,7,8])] [] [] [1,25,40,44,51,90,105,114,144]) Tryz.func80
end
def P.GK.ars{s:Nat}{k:Mk}(h:GK N k)(b:k.slot=O (s,zu)):GK (N+1) (Mk.put { zu with vars:=zu.vars.set j (O s) } P.uB [] V [s]):=by
 obtain⟨g1,g2,g3,-⟩:=h.slot b;have hv:GK N { zu with vars:=zu.vars.set j (O s) }:=⟨g1.len,g1.ins,g1.slots,fun y a t ht=>by
  rcases List.mem_or_eq_of_mem_set a with a | a
  .exact g1.vars y a t ht
  grind⟩
 exact hv.put (rm zd zs zo)
section
variable{base mb vb:Nat}{iv vv:Y}{gx:List Y}{sb:List Nat}{cut:Int}{w:Z}{k:Mk}
def art(h:fM base mb vb iv vv gx sb cut w k)(hk:GK N k)(hN:N<=90000)(hj:j<k.vars.length)(NO:k.vars.length<=12){K:Z->Prop}(hR:k.slot=V->∀ w',iF base mb vb w w'->R (gW (.fault 4)) w')
  (hK:∀ s b w',k.slot=O (s,b)->iF base mb vb w w'->(∃ tV tW zv,fM base mb vb tV vv tW zv cut w' (Mk.put { b with vars:=b.vars.set j (O s) } P.uB [] V [s]))->K w') :
  HD fun S=>S w.drew /\
   NC (pp mb) fun q=>
   uU baH (Instr.fieldAt 247 q 1) S (fun r=>
   uU baH (a0Q 45 r) S (fun t=>
   CA baH 104 #[pp mb] w.drew (fun u x=>
   S x /\
   RD baH (Instr.indexAt 45 t (zi (j:Int))) x (fun y=>
   WU baH (Instr.storeAt 3 y u) x (fun f=>
   NC (pp mb) fun z=>
   RD baH (Instr.fieldAt 247 z 1) f (fun B=>
   RD baH (a0Q 45 B) f (fun C=>
   RD baH (Instr.indexAt 45 C (zi (j:Int))) f (fun D=>
   RD baH (a0Q 3 D) f (fun E=>
   WR baH (Instr.buildSlice 45 1 #[(0,E)]) f (fun F Nr=>
   CA baH 105 #[pp mb,(aW [110,101,119]),(aW []),aj,F] Nr (fun _ Ns=>K Ns) (PC R)) (PX R)) (PX R)) (PX R)) (PX R)) (PX R)) (PXA R)) NX) (LQ R))):=by
 have hc:=h.cell;obtain⟨U,j6⟩:=h.vars;have lv:=bn j6;have W:Ext w w.drew:=yF;have G:(j:Int).toNat=j:=zo;have H:(j:Int)<(k.vars.length:Int):=zo;refine⟨fun w'=>∃ n i c,w'.heap[mb]?=aP #[n,i,vv,c] 247,yH,?_⟩;rw[jF];refine cR (pq mb 2) (fun w' X=>eS) ?_;refine cR vv (fun w' X=>by
  obtain⟨n,i,c,I⟩:=X;rw[U] at I ⊢;have:=bn I;simp (disch:=first|assumption|omega|simp only[zS]<;>omega|decide) only[zB,simprocAttr,lp,I]) ?_
 refine a0C (Lp (h.ext W) hk.slots) ?_;rintro e L ⟨qe,d⟩;have g:=(bD.ed W).trans qe;cases l:k.slot with
 | none=>
  rw[l] at d;have d:e=gW (.fault 4):=d;subst d;exact fun _=>hR l _ g
 | some p=>
  obtain⟨s1,b⟩:=p;rw[l] at d;obtain⟨he,M⟩:e = ai (zi (s1:Nat))/\fM base mb vb iv vv gx sb cut L b:=d;subst he;obtain⟨q1,q2,q3,-⟩:=hk.slot l;refine⟨⟨_,_,_,M.cell⟩,?_⟩;have Gq:j<b.vars.length:=zg;obtain⟨s2,s3⟩:=M.aqY (s:=s1) Gq (by have:=g.size;omega);have m:=M.vars.2;have Lr:(b.vars.map tU).toArray.size=b.vars.length:=zs;obtain⟨a,hA⟩:=ck ((b.vars.map tU).toArray);rw[<- hA] at m s2 s3 Lr;have hjA:j<a.size:=zo;obtain⟨w6,o⟩:=ck (bT L vb (ah (a.setIfInBounds j (zi (s1:Int))) 3 (0,0)));have g6:w6.heap[vb]?=aP (a.setIfInBounds j (zi (s1:Int))) 3:=yH;rw[<- o] at s2 s3;have Q:=s2.cell;rw[U] at Q ⊢;have jL:(a.setIfInBounds j (zi (s1:Int)))[j]?=O (zi (s1:Int)):=zg;refine jt H m @G ?_;rw[<- o];refine dL Q @g6 jL (zA @G H) ?_;rw[<- o];refine dL Q @g6 jL (zA @G H) ?_;rw[<- o];have T:w6.heap.size=L.heap.size:=yH;rw[<- T];refine FJ s2 (wd:=P.uB) (nm:=[]) (cv:=aj) (con:=V) (s:=[s1]) zs J (a0E q1.len zo) (yH) ?_;rintro w7 FO ⟨iv7,aYF,h7⟩;exact hK s1 b w7 l yF zg
end
def rW(w:Z)(mb:Nat)(c:Co):Prop:=∃ base vb iv vv gx sb cut k,fM base mb vb iv vv gx sb cut w k/\k.slots=c.slots/\k.ins=c.ins
theorem rW.ext{w w':Z}{mb:Nat}{c:Co}(h:rW w mb c)(a:Ext w w'):rW w' mb c:=by
 obtain⟨base,vb,iv,vv,gx,sb,cut,k,b,d⟩:=h;exact⟨base,vb,iv,vv,gx,sb,cut,k,b.ext a,d⟩
theorem iF.toExt(a:Ext w0 w)(c:iF base mb pb w w')(hm:w0.heap.size<=mb)(hv:w0.heap.size<=pb)(f:w0.heap.size<=base):Ext w0 w':=
 ⟨c.os.trans a.os,c.tape.trans a.tape,c.output.trans a.output,a0E a.size c.size,fun b o d _=>c.block _ _ (a.ext _ _ d) (by
  have:=bn d;rintro (e | e | ⟨e,-⟩)<;>omega)⟩
def arw{w:Z}{b nv:Nat}{nm:Bs}{av bv UX:Y}{args:List Ex}{body:Bd}{M:Nat}(q:Bool)(hb:w.heap[b]?=aP #[aW nm,av,bv,UX] 86)
  (wX:∃ a c,UX = .slice a nv c) (gD:lE (fun _=>True) w av args) (mM:dM (fun _=>True) w bv body) (hx:fg nv args) (Fb:args.length<=4) (jr:fL args<=2900) (eW:eY nv M body) (Lx:iZ body<=5800) (nB:nv<=12) :
  Calls baH 80 #[pp b,.bool q] w fun e w'=>Ext w w'/\match Bo args body nv q with
   | none=>e=gW (.fault 4)
   | some c=>∃ mb,e = ai (au (O ⟨mb,0,V⟩))/\w.heap.size<=mb/\rW w' mb c:=by
 suffices H:∀ R:Ending->Z->Prop,(∀ e w',(Ext w w'/\match Bo args body nv q with
   | none=>e=gW (.fault 4)
   | some c=>∃ mb,e = ai (au (O ⟨mb,0,V⟩))/\w.heap.size<=mb/\rW w' mb c)->R e w')->Calls baH 80 #[au (O ⟨b,0,V⟩),.bool q] w R from H _ yH
 intro R h;obtain⟨va,vc,rfl⟩:=wX;refine aQj ?_;have aYG:(nv:Int) ≥ 0:=zo;refine cM hb ?_;rw[size_alloc];obtain⟨wA,qZ⟩:=ck ((w.alloc (ah (madeCells #[zi 0] nv) 3 (0,0))).alloc (ah #[zi 0,b9,cU w.heap.size nv nv,zi 0] 247));rw[<- qZ];have yY:Ext w wA:=yF;have sA:wA.heap.size=w.heap.size+1+1:=yH;have gA1:wA.heap[w.heap.size]?=aP (madeCells #[zi 0] nv) 3:=yH;have gA2:wA.heap[w.heap.size+1]?=aP #[zi 0,b9,cU w.heap.size nv nv,zi 0] 247:=yH;clear qZ;obtain⟨mb,La⟩:=ck (w.heap.size+1);obtain⟨vb,yX⟩:=ck w.heap.size;obtain⟨vv,Q⟩:=ck (Value.slice (O ⟨vb,0,V⟩) nv nv);rw[<- La];rw[<- La,<- yX] at gA2;rw[<- yX] at gA1;refine⟨fun m z w'=>∃ j f,z 24=zi ((j:Nat):Int)/\j<=nv/\m=nv-j/\Ext w w'/\w'.heap[mb]?=aP #[zi 0,b9,cU vb nv nv,zi 0] 247/\w'.heap[vb]?=aP f 3/\f.size=nv/\∀ i,i<j->f[i]?=O (zi (-1)),
  ⟨_,0,_,J,a0R _,J,yY,gA2,gA1,size_madeCells ..,zg⟩,?_⟩
 intro m z d w3 D;refine toPr ?_;obtain⟨j,f,h24,hj,rfl,eK,gm3,gv3,Lr,hAj⟩:=D;have lm3:=bn gm3;have lv3:=bn gv3;by_cases fD:j<nv
 .have j8:((j:Nat):Int).toNat=j:=zo;have k:((j:Nat):Int)<(nv:Int):=zo;refine dL h24 k @gm3 (zA @gv3 @j8) ?_;refine⟨_,?_,j+1,f.setIfInBounds j (zi (-1)),zg,zo,J,?_,J,zg,fun i hi=>?_⟩
  .omega
  .exact yF
  grind
 have IP:j=nv:=zo;subst IP;have k:¬ ((j:Nat):Int)<((j:Nat):Int):=zo;have hAe:f=((a1g j (V:Option Nat)).map tU).toArray:=by
  grind [Array.ext,Array.getElem?_eq_getElem,tU]
 subst hAe;have S:fM vb mb vb b9 vv [] [] 0 w3 ⟨0,[],a1g j V⟩:=⟨yH,zo,⟨J,yH⟩,⟨J,J⟩,yH,a0D _,zg,List.nodup_nil⟩;obtain⟨I,arC⟩:∃ y:Mk,y=⟨0,[],a1g j V⟩:=⟨_,J⟩;have xL:GK 0 I:=by rw[arC];exact⟨a0D _,zg,zs,zg⟩
 have Py:I.vars.length=j:=zg;unfold Bo at h;rw[<- arC] at S h;have Tp:I.slots=0:=zg;have p8:I.ins=[]:=zg;obtain⟨UY,gD,lY⟩:=gD;have tn:=lY.Ft;obtain⟨aa,ac,rfl⟩:=gD.sl;have eQ:=eK.ext _ _ hb;refine jt h24 k eQ ?_;refine⟨fun m z w'=>∃ i ls B,z 39=zi ((i:Nat):Int)/\i<=args.length/\m=args.length-i/\ls=a09 i/\P.C8 I i ls B/\fM vb mb vb b9 vv [] [] 0 w' B/\iF vb mb vb w3 w'/\GK 0 B/\B.vars=I.vars/\B.slots=i,
  ⟨_,0,[],I,J,a0R _,J,J,P.C8.zero I,S,yF,xL,J,Tp⟩,?_⟩
 intro m z2 d2 w4 D;refine toPr ?_;obtain⟨i,ls,B,T,hi,rfl,GL,iW,h1,mm,jZ,kJ,dY⟩:=D;have Ls:=mm.size;by_cases lX:i<args.length
 .have k:((i:Nat):Int)<(UY.length:Int):=zo;refine dB T k ?_;refine a0C (Lp h1 jZ.slots) ?_;rintro e w5 ⟨qe,g⟩;cases E:B.slot with
  | none=>
   rw[E] at g;rw[iW.none E lX] at h;have g:e=gW (.fault 4):=g;subst g;exact h _ _ ⟨(by grind [iF.toExt,bD.trans]),J⟩
  | some p=>
   obtain⟨s1,x⟩:=p;rw[E] at g;obtain⟨he,h2⟩:e = ai (zi (s1:Nat))/\fM vb mb vb b9 vv [] [] 0 w5 x:=g;subst he;obtain⟨q1,q2,q3,q4,q5,q6⟩:=jZ.slot E;refine cM T ?_;refine⟨_,?_,i+1,ls++[s1],x,zg,zo,J,by grind [List.range_succ],iW.step E,h2,yF,q1,q3.trans kJ,zo⟩;omega
 have KI:i=args.length:=zo;subst KI;subst GL;have k:¬ (args.length:Int)<(UY.length:Int):=zo;rw[iW.done] at h;dsimp only at h;refine dB T k ?_;refine⟨fun _ w'=>∃ x Oi QY vS,fM vb mb vb Oi vv QY vS 0 w' x/\iF vb mb vb w3 w'/\(if q=A then B.news 0 j else O B)=O x/\GK 12 x/\x.vars.length=j,?_,?_⟩
 .cases q with
  | false=>
   refine bF ?_;exact⟨B,_,_,_,h1,mm,J,(by grind [GK.up]),zg⟩
  | true=>
   have jH:=h1.cell;rw[Q] at jH;have lc1:=bn jH;refine cM jH ?_;refine⟨fun m z w'=>∃ i l K L F,z 50=zi ((i:Nat):Int)/\i<=j/\m=j-i/\fM vb mb vb K vv L F 0 w' l/\iF vb mb vb w3 w'/\B.news 0 j=l.news i (j-i)/\GK i l/\l.vars.length=j,
    ⟨_,0,B,_,_,_,J,a0R _,J,h1,mm,J,jZ,zg⟩,?_⟩
   intro m z5 d5 w5 D;refine toPr ?_;obtain⟨i,l,K,L,F,U,hi,rfl,h5,qe,heq,qX,yd⟩:=D;by_cases nu:i<j
   .have k:((i:Nat):Int)<((j:Nat):Int):=zo;have e1:j-i=(j-(i+1))+1:=zo;refine dB U k ?_;rw[U];refine art h5 qX zo zo zo (fun C w6 qf=>?_) fun s x w6 C qf hM6=>?_
    .rw[e1,Mk.news,C] at heq;rw[zip J,heq] at h;exact h _ _ ⟨(by grind [iF.toExt,bD.trans]),J⟩
    .obtain⟨tX,tY,W,h6⟩:=hM6;rw[e1,Mk.news,C] at heq;refine bF ?_;refine⟨_,?_,i+1,_,tX,tY,W,zg,zo,J,h6,yF,heq,qX.ars C,?_⟩
     .omega
     .obtain⟨-,-,q3,-⟩:=qX.slot C;show(x.vars.set i (O s)).length=j;grind
   .have nu:i=j:=zo;subst nu;have k:¬ ((i:Nat):Int)<((i:Nat):Int):=zo;rw[Nat.sub_self,Mk.news] at heq;refine dB U k ?_;exact⟨l,K,L,F,h5,qe,heq,qX.up zo,yd⟩
 rintro sq w6 ⟨x,Oi,QY,vS,h2,qf,jc,tG,j6⟩ dq;rw[jc] at h;dsimp only at h;have sz6:=qf.size;refine a0C (Lp h2 tG.slots) ?_;rintro e w7 ⟨aQo,g⟩;have FO:=qf.trans aQo;have sz7:=FO.size;cases E:x.slot with
 | none=>
  rw[E] at g h;have g:e=gW (.fault 4):=g;subst g;refine bF ?_;exact h _ _ ⟨(by grind [iF.toExt]),J⟩
 | some p=>
 obtain⟨cs,N⟩:=p;rw[E] at g h;dsimp only at h;obtain⟨he,h7⟩:e = ai (zi (cs:Nat))/\fM vb mb vb Oi vv QY vS 0 w7 N:=g;subst he;obtain⟨q1,q2,q3,-⟩:=tG.slot E;have vo:=h7.cell;have lc7:=bn vo;obtain⟨w8,LA⟩:=ck (bT w7 mb (ah #[zi (N.slots:Nat),Oi,vv,zi (cs:Int)] 247));have XX:bD (fun b _=>b=mb) w7 w8:=yF;have h8:fM vb mb vb Oi vv QY vS (cs:Int) w8 N:=h7.own XX (n:=N.slots) (yH);have Of:iF vb mb vb w3 w8:=FO.trans (XX.mono fun b o _ e=>.inl e);have hc8:=h8.cell;refine cM vo ?_;rw[<- LA];have sw8:w8.heap.size=w7.heap.size:=yH;rw[<- sw8];refine FJ h8 (wd:=vz) (nm:=[]) (cv:=aj) (con:=V) (s:=[cs]) zs J (a0E q1.len zo) zo ?_;rintro w9 aQq ⟨iv9,aQs,h9⟩;have BF:=Of.trans aQq;have Jh:GK 13 (N.put vz [] V [cs]):=q1.put (rm zd zs zo);have FN:(N.put vz [] V [cs]).vars.length=j:=by show N.vars.length=j;grind
 obtain⟨k9,FM⟩:=ck (N.put vz [] V [cs]);rw[<- FM] at h9 Jh FN h;obtain⟨sb9,aQu⟩:=ck (vS++[w8.heap.size]);rw[<- aQu] at h9;have UQ:=S.py BF eQ zd;refine cM UQ ?_;refine⟨fun m z w'=>∃ i l K L F Ni,z 89=zi ((i:Nat):Int)/\i<=args.length/\m=args.length-i/\fM vb mb vb K vv L F (cs:Int) w' l/\iF vb mb vb w3 w' /\
   sQ args (a09 args.length) k9=sQ (args.drop i) ((a09 args.length).drop i) l/\GK Ni l/\Ni+fL (args.drop i)<=13+fL args/\l.vars.length=j,
  ⟨_,0,k9,iv9,aQs,sb9,13,J,a0R _,J,h9,BF,J,Jh,a0D _,FN⟩,?_⟩
 intro m z10 d10 jA D;refine toPr ?_;obtain⟨i,l,K,L,F,Ni,X,hi,rfl,tN,Eu,heq,ag9,aYP,arD⟩:=D;have arn:=Eu.size;by_cases lX:i<args.length
 .have qG:i<UY.length:=zo;obtain⟨sbx,IX,e3,e4,e5,e6⟩:=gD.at' qG;obtain⟨u,e7,hu⟩:=eT.at' i lX lY;rw[e7] at e6;simp only[a0S,true_and] at e3;obtain⟨rfl,rfl⟩:=e3;have j8:((i:Nat):Int).toNat=i:=zo;have Jg:=S.py Eu (eK.ext _ _ e5) zo;have k:((i:Nat):Int)<(UY.length:Int):=zo;refine dL X k @Jg (zA @e6 @j8) ?_;have FK:ir l.vars.length args[i]:=by rw[arD];exact hx.at lX
  have P0:=UB args i lX;have hir:i<(a09 args.length).length:=zg;have Nt:eR (fun _=>True) w3 u args[i]:=eR.mono zg (by grind [bD.ext]) _ _ hu;refine a0C (aqZ _ args[i] (a0D _) tN ag9 zo FK (S.ex Eu Nt) zo) ?_;rintro e jE ⟨YZ,g⟩;have dE:sQ (args.drop i) ((a09 args.length).drop i) l=match y7 args[i] i l with
    | none=>V
    | some m=>sQ (args.drop (i+1)) ((a09 args.length).drop (i+1)) m:=by
   rw[a0I lX,a0I hir,sQ,List.getElem_range];rfl
  cases ht:y7 args[i] i l with
  | none=>
   rw[ht] at g dE;rw[heq,dE] at h;have g:e=gW (.fault 4):=g;subst g;exact h _ _ ⟨(by grind [iF.toExt,bD.trans]),J⟩
  | some k6=>
   rw[ht] at g dE;obtain⟨he,tX,tY,Db,YW,Hn⟩:=g;subst he;obtain⟨g1,g2⟩:=adz _ _ _ _ _ ht ag9 zo FK;refine cM X ?_;refine⟨_,?_,i+1,k6,tX,tY,F++Db,Ni+iH args[i],zg,zo,J,Hn,yF,heq.trans dE,g1,zo,zo⟩;omega
 have KI:i=args.length:=zo;subst KI;have k:¬ (args.length:Int)<(UY.length:Int):=zo;rw[heq,List.drop_length,sQ] at h;dsimp only at h;have arE:=tN.cell;rw[Q] at arE;have Y0:Ni<=2913:=zo;refine jt X k arE ?_;refine⟨fun m z w'=>∃ i r K L F,z 104=zi ((i:Nat):Int)/\i<=j/\m=j-i/\fM vb mb vb K vv L F (cs:Int) w' r/\iF vb mb vb w3 w'/\l.rest 0 j=r.rest i (j-i)/\GK (Ni+i) r/\r.vars.length=j/\∀ q,q<i->∃ t:Nat,r.vars[q]?=O (O t),
  ⟨_,0,l,_,_,_,J,a0R _,J,tN,Eu,J,ag9,arD,zg⟩,?_⟩
 intro m z12 d12 qd D;refine toPr ?_;obtain⟨i,r,iv5,agW,sb5,Y1,hi,rfl,Ci,Ji,heq,LB,I4,hvq⟩:=D;have UZ:=Ci.cell;obtain⟨aYR,Y2⟩:=Ci.vars;rw[Q] at UZ;have aYS:=bn UZ;have aYT:=bn Y2;have aYU:=Ji.size;by_cases nu:i<j
 .have k:((i:Nat):Int)<((j:Nat):Int):=zo;have ein:((i:Nat):Int).toNat=i:=zo;have e1:j-i=(j-(i+1))+1:=zo;have G:(r.vars.map tU).toArray[i]?=O (tU r.vars[i]):=zg;have Lr:(r.vars.map tU).toArray.size=j:=zg;obtain⟨f,hA⟩:=ck ((r.vars.map tU).toArray);rw[<- hA] at Y2 G Lr;have oU:r.vars.getD i V=r.vars[i]:=zg;cases g:r.vars[i] with
  | some t=>
   rw[g] at G oU;have G:f[i]?=O (zi (t:Int)):=G;rw[e1,Mk.rest,oU] at heq;have Kn:¬ (t:Int)<0:=zo;refine dL Y1 k UZ (zA Y2 (zA G (zA @ein Kn))) ?_;refine⟨_,?_,i+1,r,iv5,agW,sb5,zg,zo,J,Ci,Ji,heq,(by grind [GK.up]),I4,fun q hq=>?_⟩
   .omega
   .by_cases rv:q=i
    .grind
    .exact hvq q zo
  | none=>
   rw[g] at G oU;have G:f[i]?=O (zi (-1)):=G;rw[e1,Mk.rest,oU] at heq;refine dL Y1 k UZ (zA Y2 (zA G @ein)) ?_;rw[Y1];refine art Ci LB zo zo zo (fun C mH aQx=>?_) fun s x mH C aQx aQy=>?_
   .rw[C] at heq;rw[heq] at h;exact h _ _ ⟨(by grind [iF.toExt,bD.trans]),J⟩
   .obtain⟨tX,tY,W,h6⟩:=aQy;rw[C] at heq;obtain⟨-,-,CP,-⟩:=LB.slot C;refine bF ?_;refine⟨_,?_,i+1,_,tX,tY,W,zg,zo,J,h6,yF,heq,LB.ars C,?_,fun q hq=>?_⟩
    .omega
    .show(x.vars.set i (O s)).length=j;grind
    .show ∃ t:Nat,(x.vars.set i (O s))[q]?=O (O t);by_cases rv:q=i
     .grind
     .rw[List.getElem?_set_ne zo,CP];exact hvq q zo
 have nu:i=j:=zo;subst nu;have k:¬ ((i:Nat):Int)<((i:Nat):Int):=zo;rw[Nat.sub_self,Mk.rest] at heq;rw[heq] at h;dsimp only at h;have rV:P.VK r:=fun q hq=>zg;have aQz:=S.py Ji eQ zd;have dE:Ext qd qd.drew:=yF;refine dL Y1 k aQz UZ ?_;have nK:dM (fun _=>True) qd.drew bv body:=dM.mono zg yH _ _ (S.bd Ji (dM.mono zg (by grind [bD.ext]) _ _ mM));refine a0C (QZ _ body zo (Ci.ext dE) LB zo rV (by rw[I4];exact eW) nK (cs:=cs) zo) ?_;rintro e Jc ⟨aQA,g⟩;have agx:=Ji.trans ((bD.ed dE).trans aQA);cases ht:kZ body cs r with
 | none=>
  rw[ht] at g h;have g:e=gW (.fault 4):=g;subst g;exact h _ _ ⟨(by grind [iF.toExt]),J⟩
 | some k6=>
 rw[ht] at g h;dsimp only at h;obtain⟨rfl,aYV,aYW,aYX,aYY,C3⟩:=g;obtain⟨arH,-⟩:=D0 (M:=M) (nv:=r.vars.length) _ _ _ _ _ ht LB (by rw[I4];exact eW) zo zo;refine bF ?_;refine⟨fun _ w'=>iF vb mb vb w3 w'/\rW w' mb ⟨k6.slots,(k6.put (if q=A then [100,111,110,101] else [114,101,116]) [] V []).ins⟩,?_,?_⟩
 .cases q with
  | true=>
   refine bF ?_;refine a0C (Lq C3 (wd:=[100,111,110,101]) (nm:=[]) (cv:=aj) (con:=V) (s:=[]) (sv:=b9) (bl:=[]) J (.inl zg) zg (a0E arH.len zo)) ?_;rintro e Uz ⟨rfl,arI,aQB,aQC,UA⟩;refine bF ?_;exact⟨yF,_,_,_,_,_,_,_,_,UA,J,J⟩
  | false=>
   refine bF ?_;refine a0C (Lq C3 (wd:=[114,101,116]) (nm:=[]) (cv:=aj) (con:=V) (s:=[]) (sv:=b9) (bl:=[]) J (.inl zg) zg (a0E arH.len zo)) ?_;rintro e Uz ⟨rfl,arI,aQB,aQC,UA⟩;refine bF ?_;exact⟨yF,_,_,_,_,_,_,_,_,UA,J,J⟩
 .rintro s6 Uz ⟨arI,tR⟩ d6;refine bF ?_;exact h _ _ ⟨(by grind [iF.toExt]),mb,J,zo,tR⟩
theorem jM.py{wb:Nat}(a:jM wb w w'){T:Nat}(c:w.heap[b]?=aP cs T)(d:T≠5)(f:b≠wb):w'.heap[b]?=aP cs T:=a.block _ _ c (by
 rintro (e | ⟨-,cs',z,e⟩)<;>grind)
theorem qJ.ne{wb:Nat}(h:qJ w wb out){T:Nat}(a:w.heap[b]?=aP cs T)(c:T≠100):b≠wb:=fun e=>by
 obtain⟨d,buf,-,f,-⟩:=h;grind
def yt:List Bs->Bs
 | []=>[]
 | w::r=>32::(w++yt r)
theorem Y3:∀ (l:List Bs),(l.map fun w=>(32:UInt8)::w).flatten=yt l
 | []=>rfl
 | w::r=>by rw[List.map_cons,List.flatten_cons,Y3 r];rfl
theorem aha:∀ (a b:List Bs),yt (a++b)=yt a++yt b
 | [],b=>rfl
 | w::r,b=>by rw[List.cons_append,yt,yt,aha r b];simp
theorem arJ{l:List Bs}(a:j<l.length):yt (l.take (j+1))=yt (l.take j)++32::l[j]:=by
 grind [List.take_add_one,List.getElem?_eq_getElem,aha,yt]
def aQD(l:List Bs)(j:Nat):(yt (l.take j)).length<=(yt l).length:=by
 grind [List.take_append_drop,yt,aha,a0H]
def Y4{wb:Nat}{first:Bs}{l:List Bs}(h:qJ w wb out)(o:fO (fun _=>True) w 9 tv (l.map fun s=>aW s))(E:l.length<=1000)(hlen:out.length+first.length+(yt l).length+1<=1000000000) :
  Calls baH 108 #[pp wb,aW first,tv] w fun e w'=>e = ai (aq #[])/\qJ w' wb (out++mS first l)/\jM wb w w':=by
 obtain⟨F,lc,rfl⟩:=o.sl;refine aNM ?_;refine(aqK h first zo).mono ?_;rintro e w1 ⟨⟨v1,rfl⟩,t,u⟩;have x:(l.map fun s=>(a0U (bs s))).length=l.length:=zs;refine bF ?_;refine⟨fun m z w'=>∃ j,z 13=zi ((j:Nat):Int)/\j<=l.length/\m=l.length-j/\qJ w' wb (out++first++yt (l.take j))/\jM wb w w',⟨_,0,J,a0R _,J,by rw[List.take_zero,yt,List.append_nil];exact t,u⟩,?_⟩;intro m z d w3 y;refine toPr ?_;obtain⟨j,c,G,rfl,f,i⟩:=y;by_cases b:j<l.length
 .obtain⟨g,cs,p,H,q,I⟩:=o.at' (j:=j) (by rw[x];exact b);simp only[a0S,true_and] at p;obtain⟨rfl,rfl⟩:=p;have B:cs[j]?=O (aW (l[j])):=zg;have C:((j:Nat):Int).toNat=j:=zo;have k:((j:Nat):Int)<(((l.map fun s=>(a0U (bs s))).length:Nat):Int):=zo;have g3:=i.py q zd (h.ne q zd);have a:=aQD l (j+1);rw[arJ b] at a;simp only[a0H,a0J] at a;refine dL c k @g3 (zA @B @C) ?_;rw[Mh _ _ zg];refine a0C (aqK f ([32]++l[j]) zg) ?_;rintro e D ⟨⟨v4,rfl⟩,r,n⟩;refine cM c ?_;refine⟨_,?_,j+1,zg,zo,J,?_,i.trans n⟩
  .omega
  grind [arJ,a1b]
 .have b:j=l.length:=zo;subst b;have k:¬ (l.length:Int)<(((l.map fun s=>(a0U (bs s))).length:Nat):Int):=zo;rw[List.take_length] at f;refine dB c k ?_;refine a0C (aPn f 10 zg) ?_;rintro e D ⟨⟨v4,rfl⟩,r,n⟩;refine bF ?_;refine⟨?_,i.trans n⟩;unfold mS;rw[Y3,<- a1b,<- a1b];exact r
def Tryz.aQF:(Tryz.prog.info? 9).map (fun i=>(i.zero,i.size,i.bytes))=O (O (aW []),1,16):=zk
abbrev Dd(base:Nat)(w:Z)(v:Y)(l:List Bs):Prop:=w.ownsRow base 9 1 v l.length (l.map fun s=>.string (bs s))
section
variable{ba:Nat}{v:Y}{l:List Bs}{w w':Z}
theorem Dd.nil:Dd ba w b9 []:=⟨J,yH⟩
theorem Dd.ext(h:Dd ba w v l)(a:Ext w w'):Dd ba w' v l:=jQ a.ext h
theorem Dd.sl(h:Dd ba w v l):fO (fun _=>True) w 9 v (l.map fun s=>aW s):=EO h zg
def Dd.push(h:Dd w0.heap.size w v l)(a:Ext w0 w)(z:l.length<=1000){K:Y->Z->Prop}
  (k:∀ v' w',Dd w0.heap.size w' v' (l++[s])->Ext w0 w'->K v' w') :
  WR baH (Builtin.append_ #[39,39] 39 #[v,cU w.heap.size 1 1]) (w.alloc (ah #[aW s] 9)) K X:=by
 have c:Ext w (w.alloc (ah #[aW s] 9)):=yF;obtain⟨i,n,j⟩:=Option.map_eq_some_iff.1 Tryz.aQF;simp only[Prod.mk.injEq] at j;obtain⟨p,q,r⟩:=j;refine Sx.Dr (m:=1) (t:=39) (e:=9) zk n p q r J zd (jQ c.ext h) (tz J) J (fun u hu=>?_) zo zd (by rw[size_alloc];have:=a.size;omega) fun v' w' B d hv=>k v' w' ?_ ?_
 .simp only[List.mem_cons,List.not_mem_nil,or_false] at hu;subst hu;rfl
 .exact yH
 .have:=d.size;have s1:=c.size;have s0:=a.size;refine⟨d.os.trans (c.os.trans a.os),d.tape.trans (c.tape.trans a.tape),d.output.trans (c.output.trans a.output),zo,fun b o x _=>?_⟩;have y:=c.ext _ _ (a.ext _ _ x);rw[d.block b (bn y) (fun e=>?_)]
  .exact yH
  .rcases h.2 with⟨f,-⟩| ⟨g,cap,cur,f,C,-⟩
   .rw[f] at e;cases e
   .rw[f] at e;injection e with e;grind
end
theorem qJ.ext{w w':Z}{wb:Nat}{out:Bs}(h:qJ w wb out)(a:Ext w w'):qJ w' wb out:=by
 obtain⟨b,buf,c,d,e⟩:=h;exact⟨b,buf,c,a.ext _ _ d,jQ a.ext e⟩
theorem qL.at{w:Z}:∀ {l:List P.In} {vs:List Y} {sb:List Nat} {j:Nat} {i:P.In},qL w vs l sb->l[j]?=O i->∃ cv sv bl,vs[j*4]?=O (aW i.word)/\vs[j*4+1]?=O (aW i.name)/\vs[j*4+2]?=O cv/\vs[j*4+3]?=O sv/\ym cv i.const/\Jd w sv i.s bl
 | [],_,_,j,i,_,a=>zg
 | x::r,vs,sb,0,i,⟨cv,sv,bl,rest,c,d,e,f,g,b⟩,a=>by
  grind
 | x::r,vs,sb,j+1,i,⟨cv,sv,bl,rest,c,d,e,f,g,b⟩,a=>by
  obtain⟨m,h,k,q1,q2,q3,q4,n,o⟩:=qL.at b (show r[j]?=O i from a);grind
def fM.bfr{wb:Nat}{cut:Int}{k:Mk}(h:fM base mb pb iv vv gx fw cut w k)(d:jM wb w w')(e:∀ T cs,w.heap[wb]?=aP cs T->T=100):fM base mb pb iv vv gx fw cut w' k:=by
 have f:∀ {b T:Nat} {cs:Array Y},T≠5->T≠100->w.heap[b]?=aP cs T->w'.heap[b]?=aP cs T:=(by grind [jM.py]);refine⟨(by grind [cell]),h.lo,⟨h.row.1,?_⟩,h.ins.bJ yH,(by grind [vars]),h.Je,h.sep,h.Jf⟩;rcases h.row.2 with g | ⟨b,cap,cur,rfl,a,i,c⟩
 .exact yH
 .exact .inr ⟨b,cap,cur,J,a,yH,c⟩
theorem qJ.ty{wb:Nat}(h:qJ w wb out):∀ (T:Nat) (cs:Array Y),w.heap[wb]?=aP cs T->T=100:=fun T cs hx=>by
 obtain⟨a,buf,-,b,-⟩:=h;grind
def aQI{cv:Y}(b:ym cv (O t))(d:er t)(f:w.heap[pb]?=aP #[b9,zi 9] 96)(g:w.heap[tb]?=aP #[au V,b9,pp pb,.map V] 103)(h:lP w)(j:4<tb)(k:pb≠4)(m:pb≠tb) :
  Calls baH 31 #[pp tb,cv,zi 0] w fun e w'=>e = ai (aq #[])/\mW tb pb w w'/\∃ nm,sZ w' tb (pp pb) nm (Cw (O t)):=by
 have o:x7 [] tb pb 0 96 #[b9,zi 9]:=⟨trivial,zs,m,j,k,zo,zo⟩;have p:lQ id 0 [] tb pb 0 96 #[b9,zi 9] (.map V) w ⟨9,[],[]⟩:=
  ⟨⟨zg,yH⟩,⟨au V,b9,.inl J,g,World.ownsRow_nil _ _ _ _⟩,.inl ⟨J,J⟩,f,h,zg⟩
 have key:il [] 2 t 0 ⟨9,[],[]⟩=O (O ⟨8,Cw (O t),[]⟩):=by
  cases t with
  | atom a=>rfl
  | int n=>rfl
  | var i=>exact b.elim
  | comp s l=>exact b.elim
 have q:dN id 0 w cv t:=b.eD;refine a0C ((cw 2).tm (least:=0) o ⟨_,p⟩ q d (by simp [Ws.cW]) (a0D _) key) ?_;rintro e x ⟨r,rfl,c,u⟩;exact⟨J,r,c,u.bu⟩
