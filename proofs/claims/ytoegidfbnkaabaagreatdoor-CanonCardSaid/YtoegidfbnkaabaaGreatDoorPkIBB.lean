/- A part of one proof (KG10, KG11, KG12, KG13, KG14, ShX3c, KG14b, KG15, VT2, VT3). -/
import Derived.Test.YtoegidfbnkaabaaGreatDoorPkIBA
set_option linter.all false
set_option maxRecDepth 100000
set_option maxHeartbeats 8000000
open Option renaming some → O, none → V
open Go renaming Value → Y, World → Z
open Bool renaming true → A
open Go.Obj renaming cells → ae
open Go.Ending renaming returned → ah
open Go.Value renaming nilIface → ai, tuple → ak, pointer → aq
open Go.Calls renaming mono → a1a
open Nat renaming le_refl → a1c, le_trans → a1d, zero_le → a1q, add_zero → a2Y
open List renaming length_append → a1f, drop_eq_getElem_cons → a1h, length_cons → a1i, mem_append → a1o, range → a1t, length_nil → a1v, mem_singleton → a1x, append_assoc → a1E, replicate → a1N
open Go.Instr renaming loadAt → a1p
open Go.Value.slice renaming injEq → a1r
open Go.Value renaming string → a1u
open Go.Proofs.Tryz renaming prog → bbv
namespace Go.Proofs.YtoegidfbnkaabaaGreatDoor
open P
open Go.RowKit Sx
variable{M N b base cap j mb n pb tb wb:Nat}{R:Ending->Z->Prop}{X:Y->Z->Prop}{cs:Array Y}{iv tv v vv:Y}{gz:List Y}{out:Bs}{gI:List Bd}{Ab:Mk}{ft:List Nat}{w' w0:Z}
section
variable{base mb vb:Nat}{cut:Int}
def aQv{name:Bs}{args:List Ex}(ja:pb=103){w:Z}{k:Mk}{cs:Nat}
  (h:fL base mb vb iv vv gz ft cut w k) (hk:GK N k) (hN:N+4*je (.mk pb name args gI)<=90000) (sL:P.VK k) (U:fe k.vars.length M (.mk pb name args gI)) (hx:dP (fun _=>True) w v (.mk pb name args gI)) :
  Calls bbv 107 #[pp mb,v,zi (cs:Nat)] w (vg base mb vb vv ft cut w (ly (.mk pb name args gI) cs k)):=by
 suffices H:∀ R:Ending->Z->Prop,(∀ n w',vg base mb vb vv ft cut w (ly (.mk pb name args gI) cs k) n w'->R n w')->Calls bbv 107 #[pp mb,v,zi (cs:Nat)] w R from H _ fun _ _ h=>h;intro R c;unfold fe at U;obtain⟨o1,o2,o3,o4,o5,o6,o7,o8⟩:=U;unfold dP at hx;obtain⟨b,av,pv,dw,us,rfl,-,a,W,X,lR,nE⟩:=hx;have hc:=h.cell;have lc:=bh hc;have lv:=bh h.vars.2;have Hf:=X.FV;obtain⟨aa,ac,rfl⟩:=W.sl;simp only[je] at hN;subst ja;refine Vg ?_;unfold ly at c;rw[bI zd,bI zd,bI zd,bI zd,bI zd] at c;refine cO a ?_;refine⟨fun m z w'=>∃ j f B8 B9 g o ls v1,z 27=zi ((j:Nat):Int)/\z 15=v1/\j<=args.length/\m=args.length-j/\ls.length=j/\fL base mb vb B8 vv B9 (ft++g) cut w' f/\(∀ b∈g,w.heap.size<=b/\v1.ownBlock≠O b)/\iI base mb vb w w'/\oR w.heap.size w' v1 ls /\
   P.vh k args j ls f/\GK o f/\o+fB (args.drop j)<=N+fB args/\f.vars=k.vars/\(∀ y∈ls,y<64)/\(ls=[]->v1 = bX),
  ⟨_,0,k,iv,gz,[],N,[],_,J,J,a1q _,J,J,zg,yH,yF,oR.nil,P.vh.zero k args,hk,a1c _,J,zg,fun _=>J⟩,?_⟩
 intro m z d w3 hI;refine toPr ?_;obtain⟨j,f,B8,B9,g,o,ls,v1,C,D,hj,rfl,Hk,E,Vb,q,r,F,t,hNj,I,ag1,UQ⟩:=hI;obtain⟨ra,rc,rfl⟩:=il r;have Ry:=q.size;have dY:=fun b=>r.own (b:=b);by_cases i:j<args.length
 .have qY:j<dw.length:=zo;obtain⟨sb1,JF,e3,e4,e5,e6⟩:=W.at' qY;obtain⟨u,e7,hu⟩:=eM.at' j i X;rw[e7] at e6;simp only[a1r,true_and] at e3;obtain⟨rfl,rfl⟩:=e3;have jV:((j:Nat):Int).toNat=j:=zo;have J0:=h.pV q e5 zd;have K:((j:Nat):Int)<(dw.length:Int):=zo;refine dM C K @J0 (zA @e6 @jV) ?_;have Gg:gR f.vars.length args[j]:=by rw[I];exact o5.at i
  have QH:=Va args j i;have ag6:=Zt args j;refine a1a (ars _ args[j] (a1c _) E t zo (VK.of sL I) Gg (h.ex q hu)) ?_;rintro e w4 ⟨mz,l⟩;have Mu:=mz.size;cases ht:AR args[j] f with
  | none=>
   rw[ht] at l;rw[F.none i ht] at c;have l:e=ig (.fault 4):=l;subst l;refine bG ?_;exact c _ _ ⟨yF,J⟩
  | some p=>
   obtain⟨s1,k4⟩:=p;rw[ht] at l;obtain⟨he,Mv,Mw,nN,OY,h4⟩:=l;subst he;obtain⟨g1,g2,g3⟩:=adX _ _ _ _ _ ht t Gg;have DA:=r.fr mz lc lv;have art:=fun b=>DA.own (b:=b);have aQn:=h4.ins.lt;refine cO D ?_;have x:∀ b∈ft++g++nN,(Value.slice ra ls.length rc).ownBlock≠O b:=fun b a he=>by
    rcases a1o.1 a with a | a
    .rcases a1o.1 a with a | a
     .have:=(dY b he).1;have:=h.ins.lt _ a;omega
     grind
    grind
   refine DA.push zo zo fun v5 w5 Rm jc yu=>?_;refine cO C ?_;refine⟨_,?_,j+1,k4,Mv,Mw,g++nN,o+gy args[j],ls++[s1],v5,zg,zg,zo,J,zg,?_,fun y L=>?_,iI.own yF jc yH,Rm,F.step i ht,g1,zo,g2.trans I,fun y L=>?_,zg⟩
   .omega
   .rw[<- a1E];exact h4.Ih jc yH x zg
   .exact yH
   grind
 .have i:j=args.length:=zo;subst i;have K:¬ (args.length:Int)<(dw.length:Int):=zo;rw[F.done] at c;have c:∀ n w',vg base mb vb vv ft cut w (O (f.put (if jW name=ls.length then nM else AS) name V ls)) n w'->R n w':=c;have Q:=h.pV q a zd;refine jk C K Q ?_;refine a1a (NL name) ?_;rintro e w4 ⟨rfl,rfl⟩;obtain⟨bl,Im,pK⟩:=r.sin UQ;have x:∀ b∈bl,b ∉ ft++g/\b≠vb:=fun b a=>by
   have a:=pK b a;have:=(dY b a).1;refine⟨fun hm=>?_,zo⟩;rcases a1o.1 hm with hm | hm
   .have:=h.ins.lt _ hm;omega
   grind
  by_cases B:jW name=(ls.length:Int)
  .rw[zip B] at c;refine jk D B Q ?_;refine a1a (Ms E (wd:=nM) (nm:=name) (cv:=ai) (con:=V) (s:=ls) J Im x (a1d t.len zo)) ?_;rintro e w6 ⟨rfl,qz,S,T,Io⟩;refine bG ?_;refine c _ _ ⟨yF,J,S,T,g++bl,fun y L=>?_,zg⟩;exact yH
  .rw[bI B] at c;refine jk D B Q ?_;refine a1a (Ms E (wd:=AS) (nm:=name) (cv:=ai) (con:=V) (s:=ls) J Im x (a1d t.len zo)) ?_;rintro e w6 ⟨rfl,qz,S,T,Io⟩;refine bG ?_;refine c _ _ ⟨yF,J,S,T,g++bl,fun y L=>?_,zg⟩;exact yH
end
section
variable{base mb vb:Nat}{cut:Int}
def aQw(ih:Vh base mb vb cut n){name:Bs}{args:List Ex}(hn:je (.mk cap name args gI)<=n+1)(ja:cap=59){w:Z}{k:Mk}{cs:Nat}
  (h:fL base mb vb iv vv gz ft cut w k) (hk:GK N k) (hN:N+4*je (.mk cap name args gI)<=90000) (sL:P.VK k) (dj:fe k.vars.length M (.mk cap name args gI)) (hx:dP (fun _=>True) w v (.mk cap name args gI)) (E:cs<64) :
  Calls bbv 107 #[pp mb,v,zi (cs:Nat)] w (vg base mb vb vv ft cut w (ly (.mk cap name args gI) cs k)):=by
 suffices H:∀ R:Ending->Z->Prop,(∀ s w',vg base mb vb vv ft cut w (ly (.mk cap name args gI) cs k) s w'->R s w')->Calls bbv 107 #[pp mb,v,zi (cs:Nat)] w R from H _ fun _ _ h=>h;intro R d;unfold fe at dj;obtain⟨o1,o2,o3,o4,o5,o6,o7,o8⟩:=dj;unfold dP at hx;obtain⟨b,av,pv,vs,us,rfl,-,o,gx,De,lR,F⟩:=hx;have hc:=h.cell;have uU:=F.HW;simp only[je] at hn hN;subst ja;have CG:gI.length=2:=zo;obtain⟨pA,t,rfl⟩:∃ pA t,gI=[pA,t]:=by
  rcases gI with _ | ⟨a,_ | ⟨b,_ | ⟨c,r⟩⟩⟩<;>grind
 simp only[jG,a2Y] at hn hN;simp only[a1i,a1v] at uU;obtain⟨u0,Vi,Vj⟩:=gF.Dh 0 zs F;have arG:=o8.at (j:=0) zs;obtain⟨u1,eu1,uW⟩:=gF.Dh 1 zs F;have Zx:=o8.at (j:=1) zs;obtain⟨pb,Di,e3,e4,e5,Mx⟩:=lR.at' (j:=0) zo;rw[Vi] at Mx;subst e3;have I:Di[1]?=O u1:=by
  obtain⟨YN,YO,e3,-,e5',Zy⟩:=lR.at' (j:=1) zo;grind
 have mr:∀ q:Nat,q<us.length->(q:Int)<(us.length:Int):=zg;have qw:=mr 0 zo;have Zd:=mr 1 zo;have Vk:((0:Nat):Int).toNat=0:=rfl;have L:((1:Nat):Int).toNat=1:=rfl;refine Vg ?_;unfold ly at d;rw[bI zd,bI zd,zip rfl] at d;refine cO o ?_;have OZ:iI base mb vb w w:=yF;have kl:k.vars=k.vars:=rfl;have d:∀ s w',vg base mb vb vv ft cut w (Ek [pA,t] cs k) s w'->R s w':=d;unfold Ek at d;refine a1a (Vd h (a1d hk.len zo) kH) ?_;rintro e w3 ⟨Vl,iv3,arJ,g3,f3,rfl,BI,h3,L3⟩;have u:=OZ.trans Vl;have Ry:=u.size;have ru:GK (N+1) (k.put kH [] V [0]):=hk.put (rF zd zs zo);have eP:=h.pV u o zd;have p3:=h.pV u e5 zd;refine dM eP @p3 qw (zA @Vk @Mx) ?_;refine a1a (ih pA zo h3 ru zo (VK.of sL kl) (by show fe k.vars.length M pA;grind) (h.bd u Vj) E) ?_;rintro e w4 ⟨My,f⟩;have Q:=u.trans My;have Mu:=Q.size;cases z:ly pA cs (k.put kH [] V [0]) with
 | none=>
  rw[z] at f d;have f:e=ig (.fault 4):=f;subst f;exact d _ _ ⟨Q,J⟩
 | some i=>
 rw[z] at f d;dsimp only at d;obtain⟨rfl,Mv,Mw,l,OY,h4⟩:=f;obtain⟨yX,S⟩:=Eu _ _ _ _ _ z ru (by show fe k.vars.length M pA;grind) E zo;have S:i.vars=k.vars:=S.trans kl;have L4:=L3.fr h3 My OY;obtain⟨T,H7⟩:=AX _ _ _ _ z;have hi4:i.ins=k.ins++⟨kH,[],V,[0]⟩::T:=by rw[H7];show(k.ins++[_])++T=_;grind
 have vA:ft++[g3]++l=ft++g3::l:=zg;refine bG ?_;refine a1a (Vd h4 (a1d yX.len zo) j5) ?_;rintro e w8 ⟨Vp,U,W,g8,f8,rfl,hg8,h8,L8⟩;have O0:=Q.trans Vp;have hk8:GK ((N+1+4*je pA)+1) (i.put j5 [] V [0]):=yX.put (rF zd zs zo);have L8b:=L4.fr h4 Vp (bl:=[g8]) (fun b o=>by rw[a1x] at o;omega);have hi8:(i.put j5 [] V [0]).ins=k.ins++⟨kH,[],V,[0]⟩::(T++[⟨j5,[],V,[0]⟩]):=by show i.ins++[_]=_;grind
 have fD:k.ins.length<i.ins.length:=zg;obtain⟨X,hX,WZ⟩:=P.arB (m:=i) (w:=j5) (j:=k.ins.length) fD;obtain⟨k9,B⟩:=cg ((i.put j5 [] V [0]).land k.ins.length);have J1:GK ((N+1+4*je pA)+1) k9:=by rw[B];exact hk8.land zo _
 have Gj:k9.vars=k.vars:=by rw[B];exact S
 rw[<- B] at hX d;obtain⟨sb8,aQA⟩:=cg ((ft++[g3]++l)++[g8]);obtain⟨xb,yb,hf,hC⟩:=Ve h8 L8b hi8 J J (s1:=ft) (g:=g3) (s2:=l++[g8]) zs h.ins.Rz (K:=fun e x=>e = ah (ak #[])/\iI base mb vb w x/\bB (fun b _=>O g3=O b) w8 x/\(∃ cs,w8.heap[g3]?=aN cs 3)/\fL base mb vb U vv W ((ft++[g3]++l)++[g8]) cut x ((i.put j5 [] V [0]).land k.ins.length))
  (fun x C xH p=>⟨J,iI.own O0 C yH,C,xH,p⟩)
 subst hf;refine bG ?_;refine⟨zk,?_⟩;refine a1a hC ?_;rintro e x ⟨rfl,y,C,xH,p⟩;rw[<- B] at p;have sz9:=y.size;have L9:=L8.Ih (g:=g3) zs xH C;have Vq:=h.pV y o zd;have p9:=h.pV y e5 zd;refine dM Vq @p9 Zd (zA @L @I) ?_;refine a1a (ih t zo p J1 zo (VK.of sL Gj) (by rw[Gj];exact Zx) (h.bd y uW) E) ?_;rintro e jP ⟨Vr,f⟩;have EV:=y.trans Vr;have arL:=EV.size;rw[P.arA] at d;cases O1:ly t cs k9 with
 | none=>
  rw[O1] at f d;have f:e=ig (.fault 4):=f;subst f;exact d _ _ ⟨EV,J⟩
 | some OU=>
 rw[O1] at f d;dsimp only at d;obtain⟨rfl,Vs,Vt,O2,ahi,tZ⟩:=f;have L10:=L9.fr p Vr ahi;obtain⟨r10,arM⟩:=AX _ _ _ _ O1;have ahl:OU.ins=X++⟨j5,[],V,[0]⟩::r10:=zg;have hcX:(ft++[g3]++l).length=yK X:=by
  have:=p.ins.Rz;rw[hX,ag7,a1f] at this;have e1:yK [(⟨j5,[],V,[0]⟩:P.In)]=1:=rfl;grind
 obtain⟨xc,yc,eZ,hC2⟩:=Ve tZ L10 ahl WZ J (s1:=(ft++[g3]++l)) (g:=g8) (s2:=O2) zs hcX (K:=fun e D=>e = ah (ak #[])/\iI base mb vb w D/\fL base mb vb Vs vv Vt ((ft++[g3]++l)++[g8]++O2) cut D (OU.land i.ins.length))
  (fun D aho _ Hd=>⟨J,iI.own EV aho yH,Hd⟩)
 subst eZ;refine bG ?_;refine⟨zk,?_⟩;refine a1a hC2 ?_;rintro e D ⟨rfl,Zz,Hd⟩;refine bG ?_;refine d _ _ ⟨Zz,J,Vs,Vt,[g3]++l++[g8]++O2,fun b o=>?_,?_⟩
 .simp only[a1o,a1x] at o;grind
 grind
end
section
variable{base mb vb:Nat}{cut:Int}
def aQD(ih:Vh base mb vb cut n){name:Bs}{args:List Ex}(hn:je (.mk cap name args gI)<=n+1)(ja:cap=63){w:Z}{k:Mk}{cs:Nat}
  (h:fL base mb vb iv vv gz ft cut w k) (hk:GK N k) (hN:N+4*je (.mk cap name args gI)<=90000) (sL:P.VK k) (dj:fe k.vars.length M (.mk cap name args gI)) (hx:dP (fun _=>True) w v (.mk cap name args gI)) (jC:cs<64) :
  Calls bbv 107 #[pp mb,v,zi (cs:Nat)] w (vg base mb vb vv ft cut w (ly (.mk cap name args gI) cs k)):=by
 suffices H:∀ R:Ending->Z->Prop,(∀ E w',vg base mb vb vv ft cut w (ly (.mk cap name args gI) cs k) E w'->R E w')->Calls bbv 107 #[pp mb,v,zi (cs:Nat)] w R from H _ fun _ _ h=>h;intro R i;unfold fe at dj;obtain⟨o1,o2,o3,o4,o5,o6,o7,o8⟩:=dj;unfold dP at hx;obtain⟨b,av,pv,vs,us,rfl,-,l,gx,De,lR,W⟩:=hx;have hc:=h.cell;have lv:=bh h.vars.2;have uU:=W.HW;simp only[je] at hn hN;subst ja;have CG:gI.length=3:=zo;obtain⟨pA,z,F,rfl⟩:∃ pA z F,gI=[pA,z,F]:=by
  rcases gI with _ | ⟨a,_ | ⟨b,_ | ⟨c,_ | ⟨d,r⟩⟩⟩⟩<;>grind
 simp only[jG,a2Y] at hn hN;simp only[a1i,a1v] at uU;obtain⟨u0,Vi,Vj⟩:=gF.Dh 0 zs W;have arG:=o8.at (j:=0) zs;obtain⟨u1,eu1,uW⟩:=gF.Dh 1 zs W;have Zx:=o8.at (j:=1) zs;obtain⟨u2,eu2,FZ⟩:=gF.Dh 2 zs W;have aQE:=o8.at (j:=2) zs;obtain⟨pb,Di,e3,e4,e5,Mx⟩:=lR.at' (j:=0) zo;rw[Vi] at Mx;subst e3;have e61:Di[1]?=O u1:=by
  obtain⟨YN,YO,e3,-,e5',Zy⟩:=lR.at' (j:=1) zo;grind
 have e62:Di[2]?=O u2:=by
  obtain⟨YN,YO,e3,-,e5',Zy⟩:=lR.at' (j:=2) zo;grind
 have mr:∀ q:Nat,q<us.length->(q:Int)<(us.length:Int):=zg;have qw:=mr 0 zo;have Zd:=mr 1 zo;have Vu:=mr 2 zo;have Vk:((0:Nat):Int).toNat=0:=rfl;have ei1:((1:Nat):Int).toNat=1:=rfl;have ei2:((2:Nat):Int).toNat=2:=rfl;refine Vg ?_;unfold ly at i;rw[bI zd,bI zd,bI zd,zip rfl] at i;refine cO l ?_;refine a1a (Mr h hk.slots) ?_;rintro e w1 ⟨ET,f⟩;cases kC:k.slot with
 | none=>
  rw[kC] at f i;have f:e=ig (.fault 4):=f;subst f;refine bG ?_;exact i _ _ ⟨ET,J⟩
 | some p=>
 obtain⟨s1,k1⟩:=p;rw[kC] at f i;obtain⟨he,h1⟩:e = ah (zi (s1:Nat))/\fL base mb vb iv vv gz ft cut w1 k1:=f;subst he;obtain⟨q1,q2,q3,-⟩:=hk.slot kC;have sz1:=ET.size;refine bG ?_;refine Gf h1 (wd:=rC) (nm:=[]) (cv:=ai) (con:=V) (s:=[s1]) zs J (a1d q1.len zo) zo ?_;rintro w2 J2 ⟨O3,RB,h2⟩;have OZ:=ET.trans J2;have sz2:=OZ.size;have tQ:GK (N+1) (k1.put rC [] V [s1]):=q1.put (rF zd zs zo);have kl:(k1.put rC [] V [s1]).vars=k.vars:=q3;obtain⟨o,Ro⟩:=cg (k1.put rC [] V [s1]);rw[<- Ro] at h2 tQ kl;obtain⟨x,ahp⟩:=cg (ft++[w1.heap.size]);rw[<- ahp] at h2;refine bG ?_;have i:∀ E w',vg base mb vb vv ft cut w (El [pA,z,F] s1 cs o) E w'->R E w':=by rw[Ro];exact i
 unfold El at i;refine a1a (Vd h2 (a1d tQ.len zo) kH) ?_;rintro e w3 ⟨Vl,iv3,arJ,g3,f3,rfl,BI,h3,L3⟩;have I:=OZ.trans Vl;have Ry:=I.size;have ru:GK (N+1+1) (o.put kH [] V [0]):=tQ.put (rF zd zs zo);have eP:=h.pV I l zd;have p3:=h.pV I e5 zd;refine dM eP @p3 qw (zA @Vk @Mx) ?_;refine a1a (ih pA zo h3 ru zo (VK.of sL kl) (by show fe o.vars.length M pA;grind) (h.bd I Vj) q2) ?_;rintro e y ⟨My,f⟩;have mz:=I.trans My;have Mu:=mz.size;cases xl:ly pA s1 (o.put kH [] V [0]) with
 | none=>
  rw[xl] at f i;have f:e=ig (.fault 4):=f;subst f;refine bG ?_;exact i _ _ ⟨mz,J⟩
 | some B=>
 rw[xl] at f i;dsimp only at i;obtain⟨rfl,Mv,Mw,u,OY,h4⟩:=f;obtain⟨yX,vU⟩:=Eu _ _ _ _ _ xl ru (by show fe o.vars.length M pA;grind) q2 zo;have vU:B.vars=k.vars:=vU.trans kl;have L4:=L3.fr h3 My OY;obtain⟨L,H7⟩:=AX _ _ _ _ xl;have hi4:B.ins=o.ins++⟨kH,[],V,[0]⟩::L:=by rw[H7];show(o.ins++[_])++L=_;grind
 have vA:x++[g3]++u=x++g3::u:=zg;refine bG ?_;refine Gf h4 (wd:=lx) (nm:=[]) (cv:=ai) (con:=V) (s:=[s1]) zs J (a1d yX.len zo) zo ?_;rintro w5 Vv ⟨iv5,ahr,h5⟩;have Q:=mz.trans Vv;have sz5:=Q.size;have ry:GK ((N+1+1+4*je pA)+1) (B.put lx [] V [s1]):=yX.put (rF zd zs zo);have yu:(B.put lx [] V [s1]).vars=k.vars:=vU;have L5:=L4.fr h4 Vv (bl:=[y.heap.size]) (fun b l=>by rw[a1x] at l;omega);have hi5:(B.put lx [] V [s1]).ins=o.ins++⟨kH,[],V,[0]⟩::(L++[⟨lx,[],V,[s1]⟩]):=by show B.ins++[_]=_;grind
 obtain⟨k5,ahu⟩:=cg (B.put lx [] V [s1]);rw[<- ahu] at h5 ry yu hi5 i;have Uj:=h.pV Q l zd;have p5:=h.pV Q e5 zd;unfold FI at i;refine dM Uj @p5 Zd (zA @ei1 @e61) ?_;refine a1a (ih z zo h5 ry zo (VK.of sL yu) (by rw[yu];exact Zx) (h.bd Q uW) jC) ?_;rintro e w6 ⟨Vw,f⟩;have qz:=Q.trans Vw;have sz6:=qz.size;cases K4:ly z cs k5 with
 | none=>
  rw[K4] at f i;have f:e=ig (.fault 4):=f;subst f;exact i _ _ ⟨qz,J⟩
 | some t=>
 rw[K4] at f i;dsimp only at i;obtain⟨rfl,uo,uq,C,Zw,h6⟩:=f;obtain⟨S,BB⟩:=Eu (M:=M) (nv:=k.vars.length) _ _ _ _ _ K4 ry Zx jC zo;have BB:t.vars=k.vars:=BB.trans yu;have L6:=L5.fr h5 Vw Zw;obtain⟨r6,hr6⟩:=AX _ _ _ _ K4;have hi6:t.ins=o.ins++⟨kH,[],V,[0]⟩::(L++[⟨lx,[],V,[s1]⟩]++r6):=zg;refine bG ?_;refine a1a (Vd h6 (a1d S.len zo) j5) ?_;rintro e w8 ⟨Vp,iv8,ahb,g8,f8,rfl,hg8,h8,L8⟩;have O0:=qz.trans Vp;have hk8:GK ((((N+1+1+4*je pA)+1)+4*je z)+1) (t.put j5 [] V [0]):=S.put (rF zd zs zo);have L8b:=L6.fr h6 Vp (bl:=[g8]) yH;have hi8:(t.put j5 [] V [0]).ins=o.ins++⟨kH,[],V,[0]⟩::((L++[⟨lx,[],V,[s1]⟩]++r6)++[⟨j5,[],V,[0]⟩]):=by show t.ins++[_]=_;grind
 have fD:o.ins.length<t.ins.length:=zg;obtain⟨X,hX,WZ⟩:=P.arB (m:=t) (w:=j5) (j:=o.ins.length) fD;obtain⟨k9,Gi⟩:=cg ((t.put j5 [] V [0]).land o.ins.length);have J1:GK ((((N+1+1+4*je pA)+1)+4*je z)+1) k9:=by rw[Gi];exact hk8.land zo _
 have Gj:k9.vars=k.vars:=by rw[Gi];exact BB
 rw[<- Gi] at hX i;obtain⟨sb8,aQA⟩:=cg ((x++[g3]++u++[y.heap.size]++C)++[g8]);obtain⟨xb,yb,hf,hC⟩:=Ve h8 L8b hi8 J J (s1:=x) (g:=g3) (s2:=(u++[y.heap.size]++C)++[g8]) zs h2.ins.Rz (K:=fun e T=>e = ah (ak #[])/\iI base mb vb w T/\bB (fun b _=>O g3=O b) w8 T/\(∃ cs,w8.heap[g3]?=aN cs 3)/\fL base mb vb iv8 vv ahb ((x++[g3]++u++[y.heap.size]++C)++[g8]) cut T ((t.put j5 [] V [0]).land o.ins.length))
  (fun T CJ xH D=>⟨J,iI.own O0 CJ yH,CJ,xH,D⟩)
 subst hf;refine bG ?_;refine⟨zk,?_⟩;refine a1a hC ?_;rintro e T ⟨rfl,U,CJ,xH,D⟩;rw[<- Gi] at D;have sz9:=U.size;have L9:=L8.Ih (g:=g3) zs xH CJ;have Vq:=h.pV U l zd;have p9:=h.pV U e5 zd;refine dM Vq @p9 Vu (zA @ei2 @e62) ?_;refine a1a (ih F zo D J1 zo (VK.of sL Gj) (by rw[Gj];exact aQE) (h.bd U FZ) jC) ?_;rintro e jP ⟨Vr,f⟩;have EV:=U.trans Vr;have arL:=EV.size;rw[P.arA] at i;cases O1:ly F cs k9 with
 | none=>
  rw[O1] at f i;have f:e=ig (.fault 4):=f;subst f;exact i _ _ ⟨EV,J⟩
 | some OU=>
 rw[O1] at f i;dsimp only at i;obtain⟨rfl,Vs,Vt,O2,ahi,tZ⟩:=f;have L10:=L9.fr D Vr ahi;obtain⟨r10,arM⟩:=AX _ _ _ _ O1;have ahl:OU.ins=X++⟨j5,[],V,[0]⟩::r10:=zg;have hcX:(x++[g3]++u++[y.heap.size]++C).length=yK X:=by
  have:=D.ins.Rz;rw[hX,ag7,a1f] at this;have e1:yK [(⟨j5,[],V,[0]⟩:P.In)]=1:=rfl;exact yH
 obtain⟨xc,yc,eZ,hC2⟩:=Ve tZ L10 ahl WZ J (s1:=(x++[g3]++u++[y.heap.size]++C)) (g:=g8) (s2:=O2) zs hcX (K:=fun e kr=>e = ah (ak #[])/\iI base mb vb w kr/\fL base mb vb Vs vv Vt ((x++[g3]++u++[y.heap.size]++C)++[g8]++O2) cut kr (OU.land t.ins.length))
  (fun kr aho _ Hd=>⟨J,iI.own EV aho yH,Hd⟩)
 subst eZ;refine bG ?_;refine⟨zk,?_⟩;refine a1a hC2 ?_;rintro e kr ⟨rfl,Zz,Hd⟩;refine bG ?_;refine i _ _ ⟨Zz,J,Vs,Vt,[w1.heap.size]++[g3]++u++[y.heap.size]++C++[g8]++O2,fun b l=>?_,?_⟩
 .simp only[a1o,a1x] at l;rcases l with(((((l | l) | l) | l) | l) | l) | l
  .omega
  .omega
  .exact yH
  .omega
  .exact yH
  .omega
  exact yH
 exact yH
end
section
variable{base mb vb:Nat}{cut:Int}
def aQJ(ih:Vh base mb vb cut n){name:Bs}{args:List Ex}(hn:je (.mk cap name args gI)<=n+1)(ja:cap=126){w:Z}{k:Mk}{cs:Nat}
  (h:fL base mb vb iv vv gz ft cut w k) (hk:GK N k) (hN:N+4*je (.mk cap name args gI)<=90000) (sL:P.VK k) (dj:fe k.vars.length M (.mk cap name args gI)) (hx:dP (fun _=>True) w v (.mk cap name args gI)) (jC:cs<64) :
  Calls bbv 107 #[pp mb,v,zi (cs:Nat)] w (vg base mb vb vv ft cut w (ly (.mk cap name args gI) cs k)):=by
 suffices H:∀ R:Ending->Z->Prop,(∀ m w',vg base mb vb vv ft cut w (ly (.mk cap name args gI) cs k) m w'->R m w')->Calls bbv 107 #[pp mb,v,zi (cs:Nat)] w R from H _ fun _ _ h=>h;intro R c;unfold fe at dj;obtain⟨o1,o2,o3,o4,o5,o6,o7,o8⟩:=dj;unfold dP at hx;obtain⟨b,av,pv,vs,us,rfl,-,i,gx,De,lR,nE⟩:=hx;have hc:=h.cell;have lv:=bh h.vars.2;have uU:=nE.HW;simp only[je] at hn hN;subst ja;have CG:gI.length=1:=zo;obtain⟨pA,rfl⟩:∃ pA,gI=[pA]:=by
  rcases gI with _ | ⟨a,_ | ⟨b,r⟩⟩<;>grind
 simp only[jG,a2Y] at hn hN;simp only[a1i,a1v] at uU;obtain⟨u0,Vi,Vj⟩:=gF.Dh 0 zs nE;have arG:=o8.at (j:=0) zs;obtain⟨pb,Di,e3,e4,e5,Mx⟩:=lR.at' (j:=0) zo;rw[Vi] at Mx;subst e3;have mr:∀ q:Nat,q<us.length->(q:Int)<(us.length:Int):=zg;have qw:=mr 0 zo;have Vk:((0:Nat):Int).toNat=0:=rfl;refine Vg ?_;unfold ly at c;rw[bI zd,bI zd,bI zd,bI zd,zip rfl] at c;refine cO i ?_;refine a1a (Mr h hk.slots) ?_;rintro e w1 ⟨E,d⟩;cases F:k.slot with
 | none=>
  rw[F] at d c;have d:e=ig (.fault 4):=d;subst d;refine bG ?_;exact c _ _ ⟨E,J⟩
 | some p=>
 obtain⟨s1,u⟩:=p;rw[F] at d c;obtain⟨he,h1⟩:e = ah (zi (s1:Nat))/\fL base mb vb iv vv gz ft cut w1 u:=d;subst he;obtain⟨q1,q2,q3,-⟩:=hk.slot F;have sz1:=E.size;refine bG ?_;refine Gf h1 (wd:=rC) (nm:=[]) (cv:=ai) (con:=V) (s:=[s1]) zs J (a1d q1.len zo) zo ?_;rintro w2 J2 ⟨O3,RB,x⟩;have OZ:=E.trans J2;have sz2:=OZ.size;have I:GK (N+1) (u.put rC [] V [s1]):=q1.put (rF zd zs zo);have L:(u.put rC [] V [s1]).vars=k.vars:=q3;obtain⟨f,Ro⟩:=cg (u.put rC [] V [s1]);rw[<- Ro] at x I L;have aZe:∀ b∈[w1.heap.size],w.heap.size<=b:=yH;obtain⟨y,Q⟩:=cg (ft++[w1.heap.size]);rw[<- Q] at x;refine bG ?_;have c:∀ m w',vg base mb vb vv ft cut w (Em [pA] s1 f) m w'->R m w':=by rw[Ro];exact c
 unfold Em at c;refine a1a (Vd x (a1d I.len zo) kH) ?_;rintro e w3 ⟨Vl,iv3,arJ,g3,f3,rfl,BI,h3,L3⟩;have o:=OZ.trans Vl;have Ry:=o.size;have ru:GK (N+1+1) (f.put kH [] V [0]):=I.put (rF zd zs zo);have eP:=h.pV o i zd;have p3:=h.pV o e5 zd;refine dM eP @p3 qw (zA @Vk @Mx) ?_;refine a1a (ih pA zo h3 ru zo (VK.of sL L) (by show fe f.vars.length M pA;grind) (h.bd o Vj) q2) ?_;rintro e z ⟨My,d⟩;have S:=o.trans My;have Mu:=S.size;cases B:ly pA s1 (f.put kH [] V [0]) with
 | none=>
  rw[B] at d c;have d:e=ig (.fault 4):=d;subst d;refine bG ?_;exact c _ _ ⟨S,J⟩
 | some l=>
 rw[B] at d c;dsimp only at c;obtain⟨rfl,Mv,Mw,t,OY,h4⟩:=d;obtain⟨yX,T⟩:=Eu _ _ _ _ _ B ru (by show fe f.vars.length M pA;grind) q2 zo;have T:l.vars=k.vars:=T.trans L;have L4:=L3.fr h3 My OY;obtain⟨C,H7⟩:=AX _ _ _ _ B;have hi4:l.ins=f.ins++⟨kH,[],V,[0]⟩::C:=by rw[H7];show(f.ins++[_])++C=_;grind
 have vA:y++[g3]++t=y++g3::t:=zg;refine bG ?_;refine Gf h4 (wd:=lx) (nm:=[]) (cv:=ai) (con:=V) (s:=[s1]) zs J (a1d yX.len zo) zo ?_;rintro w5 Vv ⟨iv5,ahr,U⟩;have qy:=S.trans Vv;have ry:GK ((N+1+1+4*je pA)+1) (l.put lx [] V [s1]):=yX.put (rF zd zs zo);have yu:(l.put lx [] V [s1]).vars=k.vars:=T;have L5:=L4.fr h4 Vv (bl:=[z.heap.size]) (fun b i=>by rw[a1x] at i;omega);have W:(l.put lx [] V [s1]).ins=f.ins++⟨kH,[],V,[0]⟩::(C++[⟨lx,[],V,[s1]⟩]):=by show l.ins++[_]=_;grind
 obtain⟨X,ahu⟩:=cg (l.put lx [] V [s1]);rw[<- ahu] at U ry yu W c;refine bG ?_;refine a1a (Ms U (wd:=nM) (nm:=[102,97,105,108]) (cv:=ai) (con:=V) (s:=[]) (sv:=bX) (bl:=[]) J (.inl zg) yH (a1d ry.len zo)) ?_;rintro e w6 ⟨rfl,Vw,uo,uq,h6⟩;have qz:=qy.trans Vw;have L6:=L5.fr U Vw (bl:=[]) (fun b i=>by cases i);have hi6:(X.put nM [102,97,105,108] V []).ins=f.ins++⟨kH,[],V,[0]⟩::(C++[⟨lx,[],V,[s1]⟩]++[⟨nM,[102,97,105,108],V,[]⟩]):=by show X.ins++[_]=_;grind
 obtain⟨xb,yb,hf,hC⟩:=Ve h6 L6 hi6 J J (s1:=y) (g:=g3) (s2:=t++[z.heap.size]++[]) zs x.ins.Rz (K:=fun e D=>e = ah (ak #[])/\iI base mb vb w D/\fL base mb vb uo vv uq (y++[g3]++t++[z.heap.size]++[]) cut D ((X.put nM [102,97,105,108] V []).land f.ins.length))
  (fun D zh _ h7=>⟨J,iI.own qz zh yH,h7⟩)
 subst hf;refine bG ?_;refine⟨zk,?_⟩;refine a1a hC ?_;rintro e D ⟨rfl,Gk,h7⟩;refine bG ?_;refine c _ _ ⟨Gk,J,uo,uq,[w1.heap.size]++[g3]++t++[z.heap.size],fun b i=>?_,?_⟩<;>grind
end
def RC{base mb vb:Nat}{cut:Int}:∀ n,Vh base mb vb cut n
 | 0,x,c=>by have:=ano x;omega
 | n+1,.mk kind name args parts,c=>by
  intro h hk d e b hx f;have o:=b;unfold fe at o;rcases o.2.1 with a | a | a | a | a | a
  .exact arF (RC n) c (.inl a) h hk d e b hx f
  .exact arF (RC n) c (.inr a) h hk d e b hx f
  .exact aQw (RC n) c a h hk d e b hx f
  .exact aQD (RC n) c a h hk d e b hx f
  .exact aQJ (RC n) c a h hk d e b hx f
  .exact aQv a h hk d e b hx
open Go.Proofs.YtoegidfbnkaabaaGreatDoor.Sx
section
variable{p0 p1 p2 p3 p4 p5 p6 p7:Y}{w:Z}{R:Ending->Z->Prop}
def aQK:=cz w R [p0,p1] (gd [(3,[24]),(8,[39]),(13,[50]),(21,[89]),(26,[104])] [(17006,[]),(35002,[])] [(32,9)] [(15,[9,0,1,2,3,4,5,6,7,8]),(29,[9,0,1,2,3,4,5,6,7,8])] [] [] [1,25,40,44,51,90,105,114,144]) Tryz.func80
end
def P.GK.arP{s:Nat}{k:Mk}(h:GK N k)(b:k.slot=O (s,Ab)):GK (N+1) (Mk.put { Ab with vars:=Ab.vars.set j (O s) } P.uK [] V [s]):=by
 obtain⟨g1,g2,g3,-⟩:=h.slot b;have hv:GK N { Ab with vars:=Ab.vars.set j (O s) }:=⟨g1.len,g1.ins,g1.slots,fun y a t ht=>by
  rcases List.mem_or_eq_of_mem_set a with a | a
  .exact g1.vars y a t ht
  grind⟩
 exact hv.put (rF zd zs zo)
section
variable{base mb vb:Nat}{iv vv:Y}{gz:List Y}{sb:List Nat}{cut:Int}{w:Z}{k:Mk}
def arQ(h:fL base mb vb iv vv gz sb cut w k)(hk:GK N k)(hN:N<=90000)(hj:j<k.vars.length)(JI:k.vars.length<=12){K:Z->Prop}(hR:k.slot=V->∀ w',iI base mb vb w w'->R (ig (.fault 4)) w')
  (hK:∀ s b w',k.slot=O (s,b)->iI base mb vb w w'->(∃ uk um Ac,fL base mb vb uk vv um Ac cut w' (Mk.put { b with vars:=b.vars.set j (O s) } P.uK [] V [s]))->K w') :
  HD fun S=>S w.drew /\
   NC (pp mb) fun q=>
   vi bbv (Instr.fieldAt 247 q 1) S (fun r=>
   vi bbv (a1p 45 r) S (fun t=>
   CA bbv 104 #[pp mb] w.drew (fun u x=>
   S x /\
   RD bbv (Instr.indexAt 45 t (zi (j:Int))) x (fun y=>
   WU bbv (Instr.storeAt 3 y u) x (fun f=>
   NC (pp mb) fun z=>
   RD bbv (Instr.fieldAt 247 z 1) f (fun B=>
   RD bbv (a1p 45 B) f (fun C=>
   RD bbv (Instr.indexAt 45 C (zi (j:Int))) f (fun D=>
   RD bbv (a1p 3 D) f (fun E=>
   WR bbv (Instr.buildSlice 45 1 #[(0,E)]) f (fun F Oi=>
   CA bbv 105 #[pp mb,(aT [110,101,119]),(aT []),ai,F] Oi (fun _ Oj=>K Oj) (PC R)) (PX R)) (PX R)) (PX R)) (PX R)) (PX R)) (PXA R)) NX) (MN R))):=by
 have hc:=h.cell;obtain⟨W,kl⟩:=h.vars;have lv:=bh kl;have X:Ext w w.drew:=yF;have H:(j:Int).toNat=j:=zo;have I:(j:Int)<(k.vars.length:Int):=zo;refine⟨fun w'=>∃ n i c,w'.heap[mb]?=aN #[n,i,vv,c] 247,yH,?_⟩;rw[jI];refine cS (pq mb 2) (fun w' hS=>eV) ?_;refine cS vv (fun w' hS=>by
  obtain⟨n,i,c,L⟩:=hS;rw[W] at L ⊢;have:=bh L;simp (disch:=first|assumption|omega|simp only[zS]<;>omega|decide) only[zB,simprocAttr,lE,L]) ?_
 refine a1a (Mr (h.ext X) hk.slots) ?_;rintro e M ⟨qy,d⟩;have g:=(bB.eo X).trans qy;cases l:k.slot with
 | none=>
  rw[l] at d;have d:e=ig (.fault 4):=d;subst d;exact fun _=>hR l _ g
 | some p=>
  obtain⟨s1,b⟩:=p;rw[l] at d;obtain⟨he,Q⟩:e = ah (zi (s1:Nat))/\fL base mb vb iv vv gz sb cut M b:=d;subst he;obtain⟨q1,q2,q3,-⟩:=hk.slot l;refine⟨⟨_,_,_,Q.cell⟩,?_⟩;have D5:j<b.vars.length:=zg;obtain⟨s2,s3⟩:=Q.arn (s:=s1) D5 (by have:=g.size;omega);have m:=Q.vars.2;have Mt:(b.vars.map ui).toArray.size=b.vars.length:=zs;obtain⟨a,hA⟩:=cg ((b.vars.map ui).toArray);rw[<- hA] at m s2 s3 Mt;have hjA:j<a.size:=zo;obtain⟨w6,o⟩:=cg (bS M vb (ae (a.setIfInBounds j (zi (s1:Int))) 3 (0,0)));have g6:w6.heap[vb]?=aN (a.setIfInBounds j (zi (s1:Int))) 3:=yH;rw[<- o] at s2 s3;have T:=s2.cell;rw[W] at T ⊢;have jR:(a.setIfInBounds j (zi (s1:Int)))[j]?=O (zi (s1:Int)):=zg;refine jk I m @H ?_;rw[<- o];refine dM T @g6 jR (zA @H I) ?_;rw[<- o];refine dM T @g6 jR (zA @H I) ?_;rw[<- o];have U:w6.heap.size=M.heap.size:=yH;rw[<- U];refine Gf s2 (wd:=P.uK) (nm:=[]) (cv:=ai) (con:=V) (s:=[s1]) zs J (a1d q1.len zo) (yH) ?_;rintro w7 Gk ⟨iv7,aZh,h7⟩;exact hK s1 b w7 l yF zg
end
def sN(w:Z)(mb:Nat)(c:Co):Prop:=∃ base vb iv vv gz sb cut k,fL base mb vb iv vv gz sb cut w k/\k.slots=c.slots/\k.ins=c.ins
theorem sN.ext{w w':Z}{mb:Nat}{c:Co}(h:sN w mb c)(a:Ext w w'):sN w' mb c:=by
 obtain⟨base,vb,iv,vv,gz,sb,cut,k,b,d⟩:=h;exact⟨base,vb,iv,vv,gz,sb,cut,k,b.ext a,d⟩
theorem iI.toExt{w:Z}(a:Ext w0 w)(c:iI base mb pb w w')(hm:w0.heap.size<=mb)(hv:w0.heap.size<=pb)(f:w0.heap.size<=base):Ext w0 w':=
 ⟨c.os.trans a.os,c.tape.trans a.tape,c.output.trans a.output,a1d a.size c.size,fun b o d _=>c.block _ _ (a.ext _ _ d) (by
  have:=bh d;rintro (e | e | ⟨e,-⟩)<;>omega)⟩
def arT{w:Z}{b nv:Nat}{nm:Bs}{av bv Vx:Y}{args:List Ex}{body:Bd}{M:Nat}(q:Bool)(hb:w.heap[b]?=aN #[aT nm,av,bv,Vx] 86)
  (xn:∃ a c,Vx = .slice a nv c) (gx:lH (fun _=>True) w av args) (mW:dP (fun _=>True) w bv body) (hx:fi nv args) (Hf:args.length<=4) (jh:fB args<=2900) (fg:fe nv M body) (RE:je body<=5800) (kP:nv<=12) :
  Calls bbv 80 #[pp b,.bool q] w fun e w'=>Ext w w'/\match BR args body nv q with
   | none=>e=ig (.fault 4)
   | some c=>∃ mb,e = ah (aq (O ⟨mb,0,V⟩))/\w.heap.size<=mb/\sN w' mb c:=by
 suffices H:∀ R:Ending->Z->Prop,(∀ e w',(Ext w w'/\match BR args body nv q with
   | none=>e=ig (.fault 4)
   | some c=>∃ mb,e = ah (aq (O ⟨mb,0,V⟩))/\w.heap.size<=mb/\sN w' mb c)->R e w')->Calls bbv 80 #[aq (O ⟨b,0,V⟩),.bool q] w R from H _ yH
 intro R h;obtain⟨va,vc,rfl⟩:=xn;refine aQK ?_;have aZi:(nv:Int) ≥ 0:=zo;refine cO hb ?_;rw[size_alloc];obtain⟨wA,rA⟩:=cg ((w.alloc (ae (madeCells #[zi 0] nv) 3 (0,0))).alloc (ae #[zi 0,bX,cV w.heap.size nv nv,zi 0] 247));rw[<- rA];have zp:Ext w wA:=yF;have sA:wA.heap.size=w.heap.size+1+1:=yH;have gA1:wA.heap[w.heap.size]?=aN (madeCells #[zi 0] nv) 3:=yH;have gA2:wA.heap[w.heap.size+1]?=aN #[zi 0,bX,cV w.heap.size nv nv,zi 0] 247:=yH;clear rA;obtain⟨mb,Mc⟩:=cg (w.heap.size+1);obtain⟨vb,zm⟩:=cg w.heap.size;obtain⟨vv,S⟩:=cg (Value.slice (O ⟨vb,0,V⟩) nv nv);rw[<- Mc];rw[<- Mc,<- zm] at gA2;rw[<- zm] at gA1;refine⟨fun m z w'=>∃ j f,z 24=zi ((j:Nat):Int)/\j<=nv/\m=nv-j/\Ext w w'/\w'.heap[mb]?=aN #[zi 0,bX,cV vb nv nv,zi 0] 247/\w'.heap[vb]?=aN f 3/\f.size=nv/\∀ i,i<j->f[i]?=O (zi (-1)),
  ⟨_,0,_,J,a1q _,J,zp,gA2,gA1,size_madeCells ..,zg⟩,?_⟩
 intro m z d w3 D;refine toPr ?_;obtain⟨j,f,h24,hj,rfl,eK,gm3,gv3,Mt,hAj⟩:=D;have lm3:=bh gm3;have lv3:=bh gv3;by_cases fD:j<nv
 .have jV:((j:Nat):Int).toNat=j:=zo;have k:((j:Nat):Int)<(nv:Int):=zo;refine dM h24 k @gm3 (zA @gv3 @jV) ?_;refine⟨_,?_,j+1,f.setIfInBounds j (zi (-1)),zg,zo,J,?_,J,zg,fun i hi=>?_⟩
  .omega
  .exact yF
  grind
 have Jw:j=nv:=zo;subst Jw;have k:¬ ((j:Nat):Int)<((j:Nat):Int):=zo;have hAe:f=((a1N j (V:Option Nat)).map ui).toArray:=by
  grind [Array.ext,Array.getElem?_eq_getElem,ui]
 subst hAe;have T:fL vb mb vb bX vv [] [] 0 w3 ⟨0,[],a1N j V⟩:=⟨yH,zo,⟨J,yH⟩,⟨J,J⟩,yH,a1c _,zg,List.nodup_nil⟩;obtain⟨K,arZ⟩:∃ y:Mk,y=⟨0,[],a1N j V⟩:=⟨_,J⟩;have x7:GK 0 K:=by rw[arZ];exact⟨a1c _,zg,zs,zg⟩
 have Qh:K.vars.length=j:=zg;unfold BR at h;rw[<- arZ] at T h;have T0:K.slots=0:=zg;have qw:K.ins=[]:=zg;obtain⟨Vy,gx,lJ⟩:=gx;have wJ:=lJ.FV;obtain⟨aa,ac,rfl⟩:=gx.sl;have eP:=eK.ext _ _ hb;refine jk h24 k eP ?_;refine⟨fun m z w'=>∃ i ls B,z 39=zi ((i:Nat):Int)/\i<=args.length/\m=args.length-i/\ls=a1t i/\P.Dz K i ls B/\fL vb mb vb bX vv [] [] 0 w' B/\iI vb mb vb w3 w'/\GK 0 B/\B.vars=K.vars/\B.slots=i,
  ⟨_,0,[],K,J,a1q _,J,J,P.Dz.zero K,T,yF,x7,J,T0⟩,?_⟩
 intro m z2 d2 w4 D;refine toPr ?_;obtain⟨i,ls,B,U,hi,rfl,Hk,jd,h1,mz,ke,kS,eg⟩:=D;have Mu:=mz.size;by_cases mr:i<args.length
 .have k:((i:Nat):Int)<(Vy.length:Int):=zo;refine dF U k ?_;refine a1a (Mr h1 ke.slots) ?_;rintro e w5 ⟨qy,g⟩;cases E:B.slot with
  | none=>
   rw[E] at g;rw[jd.none E mr] at h;have g:e=ig (.fault 4):=g;subst g;exact h _ _ ⟨(by grind [iI.toExt,bB.trans]),J⟩
  | some p=>
   obtain⟨s1,x⟩:=p;rw[E] at g;obtain⟨he,h2⟩:e = ah (zi (s1:Nat))/\fL vb mb vb bX vv [] [] 0 w5 x:=g;subst he;obtain⟨q1,q2,q3,q4,q5,q6⟩:=ke.slot E;refine cO U ?_;refine⟨_,?_,i+1,ls++[s1],x,zg,zo,J,by grind [List.range_succ],jd.step E,h2,yF,q1,q3.trans kS,zo⟩;omega
 have Lw:i=args.length:=zo;subst Lw;subst Hk;have k:¬ (args.length:Int)<(Vy.length:Int):=zo;rw[jd.done] at h;dsimp only at h;refine dF U k ?_;refine⟨fun _ w'=>∃ x O3 RB wi,fL vb mb vb O3 vv RB wi 0 w' x/\iI vb mb vb w3 w'/\(if q=A then B.news 0 j else O B)=O x/\GK 12 x/\x.vars.length=j,?_,?_⟩
 .cases q with
  | false=>
   refine bG ?_;exact⟨B,_,_,_,h1,mz,J,(by grind [GK.up]),zg⟩
  | true=>
   have jF:=h1.cell;rw[S] at jF;have lc1:=bh jF;refine cO jF ?_;refine⟨fun m z w'=>∃ i l L N F,z 50=zi ((i:Nat):Int)/\i<=j/\m=j-i/\fL vb mb vb L vv N F 0 w' l/\iI vb mb vb w3 w'/\B.news 0 j=l.news i (j-i)/\GK i l/\l.vars.length=j,
    ⟨_,0,B,_,_,_,J,a1q _,J,h1,mz,J,ke,zg⟩,?_⟩
   intro m z5 d5 w5 D;refine toPr ?_;obtain⟨i,l,L,N,F,W,hi,rfl,h5,qy,heq,ry,yu⟩:=D;by_cases n9:i<j
   .have k:((i:Nat):Int)<((j:Nat):Int):=zo;have e1:j-i=(j-(i+1))+1:=zo;refine dF W k ?_;rw[W];refine arQ h5 ry zo zo zo (fun C w6 qz=>?_) fun s x w6 C qz hM6=>?_
    .rw[e1,Mk.news,C] at heq;rw[zip J,heq] at h;exact h _ _ ⟨(by grind [iI.toExt,bB.trans]),J⟩
    .obtain⟨uo,uq,X,h6⟩:=hM6;rw[e1,Mk.news,C] at heq;refine bG ?_;refine⟨_,?_,i+1,_,uo,uq,X,zg,zo,J,h6,yF,heq,ry.arP C,?_⟩
     .omega
     .obtain⟨-,-,q3,-⟩:=ry.slot C;show(x.vars.set i (O s)).length=j;grind
   .have n9:i=j:=zo;subst n9;have k:¬ ((i:Nat):Int)<((i:Nat):Int):=zo;rw[Nat.sub_self,Mk.news] at heq;refine dF W k ?_;exact⟨l,L,N,F,h5,qy,heq,ry.up zo,yu⟩
 rintro sq w6 ⟨x,O3,RB,wi,h2,qz,ji,tQ,kl⟩ dq;rw[ji] at h;dsimp only at h;have sz6:=qz.size;refine a1a (Mr h2 tQ.slots) ?_;rintro e w7 ⟨aQP,g⟩;have Gk:=qz.trans aQP;have sz7:=Gk.size;cases E:x.slot with
 | none=>
  rw[E] at g h;have g:e=ig (.fault 4):=g;subst g;refine bG ?_;exact h _ _ ⟨(by grind [iI.toExt]),J⟩
 | some p=>
 obtain⟨cs,Q⟩:=p;rw[E] at g h;dsimp only at h;obtain⟨he,h7⟩:e = ah (zi (cs:Nat))/\fL vb mb vb O3 vv RB wi 0 w7 Q:=g;subst he;obtain⟨q1,q2,q3,-⟩:=tQ.slot E;have vF:=h7.cell;have lc7:=bh vF;obtain⟨w8,MC⟩:=cg (bS w7 mb (ae #[zi (Q.slots:Nat),O3,vv,zi (cs:Int)] 247));have Yw:bB (fun b _=>b=mb) w7 w8:=yF;have h8:fL vb mb vb O3 vv RB wi (cs:Int) w8 Q:=h7.own Yw (n:=Q.slots) (yH);have O0:iI vb mb vb w3 w8:=Gk.trans (Yw.mono fun b o _ e=>.inl e);have hc8:=h8.cell;refine cO vF ?_;rw[<- MC];have sw8:w8.heap.size=w7.heap.size:=yH;rw[<- sw8];refine Gf h8 (wd:=vJ) (nm:=[]) (cv:=ai) (con:=V) (s:=[cs]) zs J (a1d q1.len zo) zo ?_;rintro w9 aQR ⟨iv9,aQT,h9⟩;have Ca:=O0.trans aQR;have J1:GK 13 (Q.put vJ [] V [cs]):=q1.put (rF zd zs zo);have Gj:(Q.put vJ [] V [cs]).vars.length=j:=by show Q.vars.length=j;grind
 obtain⟨k9,Gi⟩:=cg (Q.put vJ [] V [cs]);rw[<- Gi] at h9 J1 Gj h;obtain⟨sb9,aQV⟩:=cg (wi++[w8.heap.size]);rw[<- aQV] at h9;have Vq:=T.pV Ca eP zd;refine cO Vq ?_;refine⟨fun m z w'=>∃ i l L N F Ni,z 89=zi ((i:Nat):Int)/\i<=args.length/\m=args.length-i/\fL vb mb vb L vv N F (cs:Int) w' l/\iI vb mb vb w3 w' /\
   tl args (a1t args.length) k9=tl (args.drop i) ((a1t args.length).drop i) l/\GK Ni l/\Ni+fB (args.drop i)<=13+fB args/\l.vars.length=j,
  ⟨_,0,k9,iv9,aQT,sb9,13,J,a1q _,J,h9,Ca,J,J1,a1c _,Gj⟩,?_⟩
 intro m z10 d10 jP D;refine toPr ?_;obtain⟨i,l,L,N,F,Ni,h89,hi,rfl,tZ,EV,heq,ahD,aZr,ar0⟩:=D;have arL:=EV.size;by_cases mr:i<args.length
 .have qY:i<Vy.length:=zo;obtain⟨sbx,JF,e3,e4,e5,e6⟩:=gx.at' qY;obtain⟨u,e7,hu⟩:=eM.at' i mr lJ;rw[e7] at e6;simp only[a1r,true_and] at e3;obtain⟨rfl,rfl⟩:=e3;have jV:((i:Nat):Int).toNat=i:=zo;have J0:=T.pV EV (eK.ext _ _ e5) zo;have k:((i:Nat):Int)<(Vy.length:Int):=zo;refine dM h89 k @J0 (zA @e6 @jV) ?_;have Gg:gR l.vars.length args[i]:=by rw[ar0];exact hx.at mr
  have QH:=Va args i mr;have hir:i<(a1t args.length).length:=zg;have Ol:eL (fun _=>True) w3 u args[i]:=eL.mono zg (by grind [bB.ext]) _ _ hu;refine a1a (aro _ args[i] (a1c _) tZ ahD zo Gg (T.ex EV Ol) zo) ?_;rintro e kr ⟨Zz,g⟩;have dK:tl (args.drop i) ((a1t args.length).drop i) l=match zC args[i] i l with
    | none=>V
    | some m=>tl (args.drop (i+1)) ((a1t args.length).drop (i+1)) m:=by
   rw[a1h mr,a1h hir,tl,List.getElem_range];rfl
  cases ht:zC args[i] i l with
  | none=>
   rw[ht] at g dK;rw[heq,dK] at h;have g:e=ig (.fault 4):=g;subst g;exact h _ _ ⟨(by grind [iI.toExt,bB.trans]),J⟩
  | some k6=>
   rw[ht] at g dK;obtain⟨he,uo,uq,DC,Zw,Io⟩:=g;subst he;obtain⟨g1,g2⟩:=adV _ _ _ _ _ ht ahD zo Gg;refine cO h89 ?_;refine⟨_,?_,i+1,k6,uo,uq,F++DC,Ni+gy args[i],zg,zo,J,Io,yF,heq.trans dK,g1,zo,zo⟩;omega
 have Lw:i=args.length:=zo;subst Lw;have k:¬ (args.length:Int)<(Vy.length:Int):=zo;rw[heq,List.drop_length,tl] at h;dsimp only at h;have ar1:=tZ.cell;rw[S] at ar1;have ZA:Ni<=2913:=zo;refine jk h89 k ar1 ?_;refine⟨fun m z w'=>∃ i r L N F,z 104=zi ((i:Nat):Int)/\i<=j/\m=j-i/\fL vb mb vb L vv N F (cs:Int) w' r/\iI vb mb vb w3 w'/\l.rest 0 j=r.rest i (j-i)/\GK (Ni+i) r/\r.vars.length=j/\∀ q,q<i->∃ t:Nat,r.vars[q]?=O (O t),
  ⟨_,0,l,_,_,_,J,a1q _,J,tZ,EV,J,ahD,ar0,zg⟩,?_⟩
 intro m z12 d12 qx D;refine toPr ?_;obtain⟨i,r,iv5,ahr,sb5,ZB,hi,rfl,vD,J2,heq,MD,OL,hvq⟩:=D;have Vz:=vD.cell;obtain⟨aZt,ZC⟩:=vD.vars;rw[S] at Vz;have aZu:=bh Vz;have aZv:=bh ZC;have aZw:=J2.size;by_cases n9:i<j
 .have k:((i:Nat):Int)<((j:Nat):Int):=zo;have ein:((i:Nat):Int).toNat=i:=zo;have e1:j-i=(j-(i+1))+1:=zo;have I:(r.vars.map ui).toArray[i]?=O (ui r.vars[i]):=zg;have Mt:(r.vars.map ui).toArray.size=j:=zg;obtain⟨f,hA⟩:=cg ((r.vars.map ui).toArray);rw[<- hA] at ZC I Mt;have rQ:r.vars.getD i V=r.vars[i]:=zg;cases g:r.vars[i] with
  | some t=>
   rw[g] at I rQ;have I:f[i]?=O (zi (t:Int)):=I;rw[e1,Mk.rest,rQ] at heq;have K7:¬ (t:Int)<0:=zo;refine dM ZB k Vz (zA ZC (zA I (zA @ein K7))) ?_;refine⟨_,?_,i+1,r,iv5,ahr,sb5,zg,zo,J,vD,J2,heq,(by grind [GK.up]),OL,fun q hq=>?_⟩
   .omega
   .by_cases rN:q=i
    .grind
    .exact hvq q zo
  | none=>
   rw[g] at I rQ;have I:f[i]?=O (zi (-1)):=I;rw[e1,Mk.rest,rQ] at heq;refine dM ZB k Vz (zA ZC (zA I @ein)) ?_;rw[ZB];refine arQ vD MD zo zo zo (fun C mO aQY=>?_) fun s x mO C aQY aQZ=>?_
   .rw[C] at heq;rw[heq] at h;exact h _ _ ⟨(by grind [iI.toExt,bB.trans]),J⟩
   .obtain⟨uo,uq,X,h6⟩:=aQZ;rw[C] at heq;obtain⟨-,-,H5,-⟩:=MD.slot C;refine bG ?_;refine⟨_,?_,i+1,_,uo,uq,X,zg,zo,J,h6,yF,heq,MD.arP C,?_,fun q hq=>?_⟩
    .omega
    .show(x.vars.set i (O s)).length=j;grind
    .show ∃ t:Nat,(x.vars.set i (O s))[q]?=O (O t);by_cases rN:q=i
     .grind
     .rw[List.getElem?_set_ne zo,H5];exact hvq q zo
 have n9:i=j:=zo;subst n9;have k:¬ ((i:Nat):Int)<((i:Nat):Int):=zo;rw[Nat.sub_self,Mk.rest] at heq;rw[heq] at h;dsimp only at h;have sL:P.VK r:=fun q hq=>zg;have aQ0:=T.pV J2 eP zd;have dK:Ext qx qx.drew:=yF;refine dM ZB k aQ0 Vz ?_;have nW:dP (fun _=>True) qx.drew bv body:=dP.mono zg yH _ _ (T.bd J2 (dP.mono zg (by grind [bB.ext]) _ _ mW));refine a1a (RC _ body zo (vD.ext dK) MD zo sL (by rw[OL];exact fg) nW (cs:=cs) zo) ?_;rintro e JW ⟨aQ1,g⟩;have ag2:=J2.trans ((bB.eo dK).trans aQ1);cases ht:ly body cs r with
 | none=>
  rw[ht] at g h;have g:e=ig (.fault 4):=g;subst g;exact h _ _ ⟨(by grind [iI.toExt]),J⟩
 | some k6=>
 rw[ht] at g h;dsimp only at h;obtain⟨rfl,aZx,aZy,aZz,aZA,Dv⟩:=g;obtain⟨ar4,-⟩:=Eu (M:=M) (nv:=r.vars.length) _ _ _ _ _ ht MD (by rw[OL];exact fg) zo zo;refine bG ?_;refine⟨fun _ w'=>iI vb mb vb w3 w'/\sN w' mb ⟨k6.slots,(k6.put (if q=A then [100,111,110,101] else [114,101,116]) [] V []).ins⟩,?_,?_⟩
 .cases q with
  | true=>
   refine bG ?_;refine a1a (Ms Dv (wd:=[100,111,110,101]) (nm:=[]) (cv:=ai) (con:=V) (s:=[]) (sv:=bX) (bl:=[]) J (.inl zg) zg (a1d ar4.len zo)) ?_;rintro e U8 ⟨rfl,ar5,aQ2,aQ3,U9⟩;refine bG ?_;exact⟨yF,_,_,_,_,_,_,_,_,U9,J,J⟩
  | false=>
   refine bG ?_;refine a1a (Ms Dv (wd:=[114,101,116]) (nm:=[]) (cv:=ai) (con:=V) (s:=[]) (sv:=bX) (bl:=[]) J (.inl zg) zg (a1d ar4.len zo)) ?_;rintro e U8 ⟨rfl,ar5,aQ2,aQ3,U9⟩;refine bG ?_;exact⟨yF,_,_,_,_,_,_,_,_,U9,J,J⟩
 .rintro s6 U8 ⟨ar5,vO⟩ d6;refine bG ?_;exact h _ _ ⟨(by grind [iI.toExt]),mb,J,zo,vO⟩
theorem jT.pV{w:Z}(a:jT wb w w'){T:Nat}(c:w.heap[b]?=aN cs T)(d:T≠5)(f:b≠wb):w'.heap[b]?=aN cs T:=a.block _ _ c (by
 rintro (e | ⟨-,cs',z,e⟩)<;>grind)
theorem q9.ne{w:Z}(h:q9 w wb out){T:Nat}(a:w.heap[b]?=aN cs T)(c:T≠100):b≠wb:=fun e=>by
 obtain⟨d,buf,-,f,-⟩:=h;grind
def yL:List Bs->Bs
 | []=>[]
 | w::r=>32::(w++yL r)
theorem ZD:∀ (l:List Bs),(l.map fun w=>(32:UInt8)::w).flatten=yL l
 | []=>rfl
 | w::r=>by rw[List.map_cons,List.flatten_cons,ZD r];rfl
theorem ahE:∀ (a b:List Bs),yL (a++b)=yL a++yL b
 | [],b=>rfl
 | w::r,b=>by rw[List.cons_append,yL,yL,ahE r b];simp
theorem ar6{l:List Bs}(a:j<l.length):yL (l.take (j+1))=yL (l.take j)++32::l[j]:=by
 grind [List.take_add_one,List.getElem?_eq_getElem,ahE,yL]
def aQ4(l:List Bs)(j:Nat):(yL (l.take j)).length<=(yL l).length:=by
 grind [List.take_append_drop,yL,ahE,a1f]
def ZE{w:Z}{first:Bs}{l:List Bs}(h:q9 w wb out)(o:fJ (fun _=>True) w 9 tv (l.map fun s=>aT s))(E:l.length<=1000)(hlen:out.length+first.length+(yL l).length+1<=1000000000) :
  Calls bbv 108 #[pp wb,aT first,tv] w fun e w'=>e = ah (ak #[])/\q9 w' wb (out++nh first l)/\jT wb w w':=by
 obtain⟨F,lc,rfl⟩:=o.sl;refine aOd ?_;refine(aq5 h first zo).mono ?_;rintro e w1 ⟨⟨v1,rfl⟩,t,u⟩;have x:(l.map fun s=>(a1u (bs s))).length=l.length:=zs;refine bG ?_;refine⟨fun m z w'=>∃ j,z 13=zi ((j:Nat):Int)/\j<=l.length/\m=l.length-j/\q9 w' wb (out++first++yL (l.take j))/\jT wb w w',⟨_,0,J,a1q _,J,by rw[List.take_zero,yL,List.append_nil];exact t,u⟩,?_⟩;intro m z d w3 y;refine toPr ?_;obtain⟨j,c,H,rfl,f,i⟩:=y;by_cases b:j<l.length
 .obtain⟨g,cs,p,I,q,K⟩:=o.at' (j:=j) (by rw[x];exact b);simp only[a1r,true_and] at p;obtain⟨rfl,rfl⟩:=p;have B:cs[j]?=O (aT (l[j])):=zg;have C:((j:Nat):Int).toNat=j:=zo;have k:((j:Nat):Int)<(((l.map fun s=>(a1u (bs s))).length:Nat):Int):=zo;have g3:=i.pV q zd (h.ne q zd);have a:=aQ4 l (j+1);rw[ar6 b] at a;simp only[a1f,a1i] at a;refine dM c k @g3 (zA @B @C) ?_;rw[M8 _ _ zg];refine a1a (aq5 f ([32]++l[j]) zg) ?_;rintro e D ⟨⟨v4,rfl⟩,r,n⟩;refine cO c ?_;refine⟨_,?_,j+1,zg,zo,J,?_,i.trans n⟩
  .omega
  grind [ar6,a1E]
 .have b:j=l.length:=zo;subst b;have k:¬ (l.length:Int)<(((l.map fun s=>(a1u (bs s))).length:Nat):Int):=zo;rw[List.take_length] at f;refine dF c k ?_;refine a1a (aPP f 10 zg) ?_;rintro e D ⟨⟨v4,rfl⟩,r,n⟩;refine bG ?_;refine⟨?_,i.trans n⟩;unfold nh;rw[ZD,<- a1E,<- a1E];exact r
def Tryz.aQ6:(Tryz.prog.info? 9).map (fun i=>(i.zero,i.size,i.bytes))=O (O (aT []),1,16):=zk
abbrev DE(base:Nat)(w:Z)(v:Y)(l:List Bs):Prop:=w.ownsRow base 9 1 v l.length (l.map fun s=>.string (bs s))
section
variable{ba:Nat}{v:Y}{l:List Bs}{w w':Z}
theorem DE.nil:DE ba w bX []:=⟨J,yH⟩
theorem DE.ext(h:DE ba w v l)(a:Ext w w'):DE ba w' v l:=jY a.ext h
theorem DE.sl(h:DE ba w v l):fJ (fun _=>True) w 9 v (l.map fun s=>aT s):=Fi h zg
def DE.push(h:DE w0.heap.size w v l)(a:Ext w0 w)(z:l.length<=1000){s:Bs}{K:Y->Z->Prop}
  (k:∀ v' w',DE w0.heap.size w' v' (l++[s])->Ext w0 w'->K v' w') :
  WR bbv (Builtin.append_ #[39,39] 39 #[v,cV w.heap.size 1 1]) (w.alloc (ae #[aT s] 9)) K X:=by
 have c:Ext w (w.alloc (ae #[aT s] 9)):=yF;obtain⟨i,n,j⟩:=Option.map_eq_some_iff.1 Tryz.aQ6;simp only[Prod.mk.injEq] at j;obtain⟨p,q,r⟩:=j;refine Sx.DP (m:=1) (t:=39) (e:=9) zk n p q r J zd (jY c.ext h) (rR J) J (fun u hu=>?_) zo zd (by rw[size_alloc];have:=a.size;omega) fun v' w' B d hv=>k v' w' ?_ ?_
 .simp only[List.mem_cons,List.not_mem_nil,or_false] at hu;subst hu;rfl
 .exact yH
 .have:=d.size;have s1:=c.size;have s0:=a.size;refine⟨d.os.trans (c.os.trans a.os),d.tape.trans (c.tape.trans a.tape),d.output.trans (c.output.trans a.output),zo,fun b o x _=>?_⟩;have y:=c.ext _ _ (a.ext _ _ x);rw[d.block b (bh y) (fun e=>?_)]
  .exact yH
  .rcases h.2 with⟨f,-⟩| ⟨g,cap,cur,f,C,-⟩
   .rw[f] at e;cases e
   .rw[f] at e;injection e with e;grind
end
theorem q9.ext{w w':Z}{wb:Nat}{out:Bs}(h:q9 w wb out)(a:Ext w w'):q9 w' wb out:=by
 obtain⟨b,buf,c,d,e⟩:=h;exact⟨b,buf,c,a.ext _ _ d,jY a.ext e⟩
theorem rh.at{w:Z}:∀ {l:List P.In} {vs:List Y} {sb:List Nat} {j:Nat} {i:P.In},rh w vs l sb->l[j]?=O i->∃ cv sv bl,vs[j*4]?=O (aT i.word)/\vs[j*4+1]?=O (aT i.name)/\vs[j*4+2]?=O cv/\vs[j*4+3]?=O sv/\yD cv i.const/\JX w sv i.s bl
 | [],_,_,j,i,_,a=>zg
 | x::r,vs,sb,0,i,⟨cv,sv,bl,rest,c,d,e,f,g,b⟩,a=>by
  grind
 | x::r,vs,sb,j+1,i,⟨cv,sv,bl,rest,c,d,e,f,g,b⟩,a=>by
  obtain⟨m,h,k,q1,q2,q3,q4,n,o⟩:=rh.at b (show r[j]?=O i from a);grind
def fL.bfr{cut:Int}{w:Z}{k:Mk}(h:fL base mb pb iv vv gz ft cut w k)(d:jT wb w w')(e:∀ T cs,w.heap[wb]?=aN cs T->T=100):fL base mb pb iv vv gz ft cut w' k:=by
 have f:∀ {b T:Nat} {cs:Array Y},T≠5->T≠100->w.heap[b]?=aN cs T->w'.heap[b]?=aN cs T:=(by grind [jT.pV]);refine⟨(by grind [cell]),h.lo,⟨h.row.1,?_⟩,h.ins.bK yH,(by grind [vars]),h.JY,h.sep,h.JZ⟩;rcases h.row.2 with g | ⟨b,cap,cur,rfl,a,i,c⟩
 .exact yH
 .exact .inr ⟨b,cap,cur,J,a,yH,c⟩
theorem q9.ty{w:Z}(h:q9 w wb out):∀ (T:Nat) (cs:Array Y),w.heap[wb]?=aN cs T->T=100:=fun T cs hx=>by
 obtain⟨a,buf,-,b,-⟩:=h;grind
def aQ9{w:Z}{cv:Y}{t:Tm}(b:yD cv (O t))(c:eu t)(d:w.heap[pb]?=aN #[bX,zi 9] 96)(f:w.heap[tb]?=aN #[aq V,bX,pp pb,.map V] 103)(g:kZ w)(h:4<tb)(j:pb≠4)(k:pb≠tb) :
  Calls bbv 31 #[pp tb,cv,zi 0] w fun e w'=>e = ah (ak #[])/\mL tb pb w w'/\∃ nm,tJ w' tb (pp pb) nm (CY (O t)):=by
 have m:xE [] tb pb 0 96 #[bX,zi 9]:=⟨trivial,zs,k,h,j,zo,zo⟩;have o:lU id 0 [] tb pb 0 96 #[bX,zi 9] (.map V) w ⟨9,[],[]⟩:=
  ⟨⟨zg,yH⟩,⟨aq V,bX,.inl J,f,World.ownsRow_nil _ _ _ _⟩,.inl ⟨J,J⟩,d,g,zg⟩
 have key:ix [] 2 t 0 ⟨9,[],[]⟩=O (O ⟨8,CY (O t),[]⟩):=by
  cases t with
  | atom a=>rfl
  | int n=>rfl
  | var i=>exact b.elim
  | comp s l=>exact b.elim
 have p:dR id 0 w cv t:=b.dQ;refine a1a ((cw 2).tm (least:=0) m ⟨_,o⟩ p c (by simp [Ws.cW]) (a1c _) key) ?_;rintro e x ⟨q,rfl,r,u⟩;exact⟨J,q,r,u.bu⟩
