/- A part of one proof (KG10, KG11, KG12, KG13, KG14, ShX3c, KG14b, KG15, VT2, VT3). -/
import Derived.Test.YtoegidfbnkaabaaGreatDoorPkLAZ
set_option linter.all false
set_option maxRecDepth 100000
set_option maxHeartbeats 8000000
open Option renaming some → O, none → V
open Go renaming Value → Y, World → Z
open Bool renaming true → A
open Go.Obj renaming cells → ae
open Go.Ending renaming returned → ah
open Go.Value renaming nilIface → ai, tuple → ak, pointer → aq
open Go.Calls renaming mono → a1r
open Nat renaming le_refl → a1s, le_trans → a1t, zero_le → a1H, add_zero → a26
open List renaming length_append → a1v, length_cons → a1x, drop_eq_getElem_cons → a1y, mem_append → a1F, mem_singleton → a1K, length_nil → a1L, append_assoc → a1M, range → a1U, replicate → a2a
open Go.Instr renaming loadAt → a1G
open Go.Value.slice renaming injEq → a1I
open Go.Value renaming string → a1N
open Go.Proofs.Tryz renaming prog → bbI
namespace Go.Proofs.YtoegidfbnkaabaaGreatDoor
open P
open Go.RowKit Sx
variable{M N b base cap j mb n pb tb wb:Nat}{R:Ending->Z->Prop}{X:Y->Z->Prop}{cs:Array Y}{iv tv v vv:Y}{gk:List Y}{out s:Bs}{t:Tm}{gr:List Bd}{zF:Mk}{ft:List Nat}{w w' w0:Z}
section
variable{base mb vb:Nat}{cut:Int}
def aP1{name:Bs}{args:List Ex}(iN:pb=103){k:Mk}{cs:Nat}
  (h:fH base mb vb iv vv gk ft cut w k) (hk:GK N k) (hN:N+4*iR (.mk pb name args gr)<=90000) (sk:P.VK k) (U:eX k.vars.length M (.mk pb name args gr)) (hx:dJ (fun _=>True) w v (.mk pb name args gr)) :
  Calls bbI 107 #[pp mb,v,zi (cs:Nat)] w (uW base mb vb vv ft cut w (lC (.mk pb name args gr) cs k)):=by
 suffices H:∀ R:Ending->Z->Prop,(∀ n w',uW base mb vb vv ft cut w (lC (.mk pb name args gr) cs k) n w'->R n w')->Calls bbI 107 #[pp mb,v,zi (cs:Nat)] w R from H _ fun _ _ h=>h;intro R c;unfold eX at U;obtain⟨o1,o2,o3,o4,o5,o6,o7,o8⟩:=U;unfold dJ at hx;obtain⟨b,av,pv,di,us,rfl,-,a,W,X,lQ,og⟩:=hx;have hc:=h.cell;have lc:=bg hc;have lv:=bg h.vars.2;have GV:=X.FF;obtain⟨aa,ac,rfl⟩:=W.sl;simp only[iR] at hN;subst iN;refine U8 ?_;unfold lC at c;rw[bM zd,bM zd,bM zd,bM zd,bM zd] at c;refine cJ a ?_;refine⟨fun m z w'=>∃ j f BV BW g o ls v1,z 27=zi ((j:Nat):Int)/\z 15=v1/\j<=args.length/\m=args.length-j/\ls.length=j/\fH base mb vb BV vv BW (ft++g) cut w' f/\(∀ b∈g,w.heap.size<=b/\v1.ownBlock≠O b)/\iA base mb vb w w'/\oN w.heap.size w' v1 ls /\
   P.uX k args j ls f/\GK o f/\o+fG (args.drop j)<=N+fG args/\f.vars=k.vars/\(∀ y∈ls,y<64)/\(ls=[]->v1 = bW),
  ⟨_,0,k,iv,gk,[],N,[],_,J,J,a1H _,J,J,zg,yH,yF,oN.nil,P.uX.zero k args,hk,a1s _,J,zg,fun _=>J⟩,?_⟩
 intro m z d w3 hI;refine toPr ?_;obtain⟨j,f,BV,BW,g,o,ls,v1,C,D,hj,rfl,GZ,E,U3,q,r,F,t,hNj,I,agK,YZ⟩:=hI;obtain⟨ra,rc,rfl⟩:=gV r;have Rg:=q.size;have dS:=fun b=>r.own (b:=b);by_cases i:j<args.length
 .have qO:j<di.length:=zo;obtain⟨sb1,Jc,e3,e4,e5,e6⟩:=W.at' qO;obtain⟨u,e7,hu⟩:=eQ.at' j i X;rw[e7] at e6;simp only[a1I,true_and] at e3;obtain⟨rfl,rfl⟩:=e3;have j6:((j:Nat):Int).toNat=j:=zo;have Jw:=h.pM q e5 zd;have K:((j:Nat):Int)<(di.length:Int):=zo;refine dB C K @Jw (zA @e6 @j6) ?_;have FZ:ie f.vars.length args[j]:=by rw[I];exact o5.at i
  have Qn:=U2 args j i;have agP:=Zk args j;refine a1r (aq9 _ args[j] (a1s _) E t zo (VK.of sk I) FZ (h.ex q hu)) ?_;rintro e w4 ⟨my,l⟩;have LR:=my.size;cases ht:AG args[j] f with
  | none=>
   rw[ht] at l;rw[F.none i ht] at c;have l:e=gP (.fault 4):=l;subst l;refine bH ?_;exact c _ _ ⟨yF,J⟩
  | some p=>
   obtain⟨s1,k4⟩:=p;rw[ht] at l;obtain⟨he,LS,LU,nO,OB,h4⟩:=l;subst he;obtain⟨g1,g2,g3⟩:=adP _ _ _ _ _ ht t FZ;have Dl:=r.fr my lc lv;have ara:=fun b=>Dl.own (b:=b);have aPT:=h4.ins.lt;refine cJ D ?_;have x:∀ b∈ft++g++nO,(Value.slice ra ls.length rc).ownBlock≠O b:=fun b a he=>by
    rcases a1F.1 a with a | a
    .rcases a1F.1 a with a | a
     .have:=(dS b he).1;have:=h.ins.lt _ a;omega
     grind
    grind
   refine Dl.push zo zo fun v5 w5 Q3 iP yf=>?_;refine cJ C ?_;refine⟨_,?_,j+1,k4,LS,LU,g++nO,o+iD args[j],ls++[s1],v5,zg,zg,zo,J,zg,?_,fun y L=>?_,iA.own yF iP yH,Q3,F.step i ht,g1,zo,g2.trans I,fun y L=>?_,zg⟩
   .omega
   .rw[<- a1M];exact h4.Hr iP yH x zg
   .exact yH
   grind
 .have i:j=args.length:=zo;subst i;have K:¬ (args.length:Int)<(di.length:Int):=zo;rw[F.done] at c;have c:∀ n w',uW base mb vb vv ft cut w (O (f.put (if jw name=ls.length then mr else xf) name V ls)) n w'->R n w':=c;have Q:=h.pM q a zd;refine jc C K Q ?_;refine a1r (M7 name) ?_;rintro e w4 ⟨rfl,rfl⟩;obtain⟨bl,Hw,py⟩:=r.sin YZ;have x:∀ b∈bl,b ∉ ft++g/\b≠vb:=fun b a=>by
   have a:=py b a;have:=(dS b a).1;refine⟨fun hm=>?_,zo⟩;rcases a1F.1 hm with hm | hm
   .have:=h.ins.lt _ hm;omega
   grind
  by_cases B:jw name=(ls.length:Int)
  .rw[zip B] at c;refine jc D B Q ?_;refine a1r (LP E (wd:=mr) (nm:=name) (cv:=ai) (con:=V) (s:=ls) J Hw x (a1t t.len zo)) ?_;rintro e w6 ⟨rfl,qn,S,T,Hx⟩;refine bH ?_;refine c _ _ ⟨yF,J,S,T,g++bl,fun y L=>?_,zg⟩;exact yH
  .rw[bM B] at c;refine jc D B Q ?_;refine a1r (LP E (wd:=xf) (nm:=name) (cv:=ai) (con:=V) (s:=ls) J Hw x (a1t t.len zo)) ?_;rintro e w6 ⟨rfl,qn,S,T,Hx⟩;refine bH ?_;refine c _ _ ⟨yF,J,S,T,g++bl,fun y L=>?_,zg⟩;exact yH
end
section
variable{base mb vb:Nat}{cut:Int}
def aP2(ih:U9 base mb vb cut n){name:Bs}{args:List Ex}(hn:iR (.mk cap name args gr)<=n+1)(iN:cap=59){k:Mk}{cs:Nat}
  (h:fH base mb vb iv vv gk ft cut w k) (hk:GK N k) (hN:N+4*iR (.mk cap name args gr)<=90000) (sk:P.VK k) (dA:eX k.vars.length M (.mk cap name args gr)) (hx:dJ (fun _=>True) w v (.mk cap name args gr)) (E:cs<64) :
  Calls bbI 107 #[pp mb,v,zi (cs:Nat)] w (uW base mb vb vv ft cut w (lC (.mk cap name args gr) cs k)):=by
 suffices H:∀ R:Ending->Z->Prop,(∀ s w',uW base mb vb vv ft cut w (lC (.mk cap name args gr) cs k) s w'->R s w')->Calls bbI 107 #[pp mb,v,zi (cs:Nat)] w R from H _ fun _ _ h=>h;intro R d;unfold eX at dA;obtain⟨o1,o2,o3,o4,o5,o6,o7,o8⟩:=dA;unfold dJ at hx;obtain⟨b,av,pv,vs,us,rfl,-,o,gx,Es,lQ,F⟩:=hx;have hc:=h.cell;have uO:=F.Hh;simp only[iR] at hn hN;subst iN;have Cx:gr.length=2:=zo;obtain⟨pA,t,rfl⟩:∃ pA t,gr=[pA,t]:=by
  rcases gr with _ | ⟨a,_ | ⟨b,_ | ⟨c,r⟩⟩⟩<;>grind
 simp only[ju,a26] at hn hN;simp only[a1x,a1L] at uO;obtain⟨u0,Va,Vb⟩:=gy.C5 0 zs F;have arp:=o8.at (j:=0) zs;obtain⟨u1,eu1,uQ⟩:=gy.C5 1 zs F;have Zo:=o8.at (j:=1) zs;obtain⟨pb,C6,e3,e4,e5,LW⟩:=lQ.at' (j:=0) zo;rw[Va] at LW;subst e3;have I:C6[1]?=O u1:=by
  obtain⟨YC,YD,e3,-,e5',Zp⟩:=lQ.at' (j:=1) zo;grind
 have mj:∀ q:Nat,q<us.length->(q:Int)<(us.length:Int):=zg;have qk:=mj 0 zo;have Y3:=mj 1 zo;have Vc:((0:Nat):Int).toNat=0:=rfl;have L:((1:Nat):Int).toNat=1:=rfl;refine U8 ?_;unfold lC at d;rw[bM zd,bM zd,zip rfl] at d;refine cJ o ?_;have OC:iA base mb vb w w:=yF;have j4:k.vars=k.vars:=rfl;have d:∀ s w',uW base mb vb vv ft cut w (D3 [pA,t] cs k) s w'->R s w':=d;unfold D3 at d;refine a1r (U5 h (a1t hk.len zo) jR) ?_;rintro e w3 ⟨Vd,iv3,art,g3,f3,rfl,Bz,h3,L3⟩;have u:=OC.trans Vd;have Rg:=u.size;have ri:GK (N+1) (k.put jR [] V [0]):=hk.put (rv zd zs zo);have eL:=h.pM u o zd;have p3:=h.pM u e5 zd;refine dB eL @p3 qk (zA @Vc @LW) ?_;refine a1r (ih pA zo h3 ri zo (VK.of sk j4) (by show eX k.vars.length M pA;grind) (h.bd u Vb) E) ?_;rintro e w4 ⟨LX,f⟩;have Q:=u.trans LX;have LR:=Q.size;cases z:lC pA cs (k.put jR [] V [0]) with
 | none=>
  rw[z] at f d;have f:e=gP (.fault 4):=f;subst f;exact d _ _ ⟨Q,J⟩
 | some i=>
 rw[z] at f d;dsimp only at d;obtain⟨rfl,LS,LU,l,OB,h4⟩:=f;obtain⟨yE,S⟩:=Ea _ _ _ _ _ z ri (by show eX k.vars.length M pA;grind) E zo;have S:i.vars=k.vars:=S.trans j4;have L4:=L3.fr h3 LX OB;obtain⟨T,Ev⟩:=AO _ _ _ _ z;have hi4:i.ins=k.ins++⟨jR,[],V,[0]⟩::T:=by rw[Ev];show(k.ins++[_])++T=_;grind
 have vn:ft++[g3]++l=ft++g3::l:=zg;refine bH ?_;refine a1r (U5 h4 (a1t yE.len zo) jm) ?_;rintro e w8 ⟨Vg,U,W,g8,f8,rfl,hg8,h8,L8⟩;have OD:=Q.trans Vg;have hk8:GK ((N+1+4*iR pA)+1) (i.put jm [] V [0]):=yE.put (rv zd zs zo);have L8b:=L4.fr h4 Vg (bl:=[g8]) (fun b o=>by rw[a1K] at o;omega);have hi8:(i.put jm [] V [0]).ins=k.ins++⟨jR,[],V,[0]⟩::(T++[⟨jm,[],V,[0]⟩]):=by show i.ins++[_]=_;grind
 have fp:k.ins.length<i.ins.length:=zg;obtain⟨X,hX,WX⟩:=P.arj (m:=i) (w:=jm) (j:=k.ins.length) fp;obtain⟨k9,B⟩:=cg ((i.put jm [] V [0]).land k.ins.length);have Jy:GK ((N+1+4*iR pA)+1) k9:=by rw[B];exact hk8.land zo _
 have F2:k9.vars=k.vars:=by rw[B];exact S
 rw[<- B] at hX d;obtain⟨sb8,aP6⟩:=cg ((ft++[g3]++l)++[g8]);obtain⟨xb,yb,hf,hC⟩:=U6 h8 L8b hi8 J J (s1:=ft) (g:=g3) (s2:=l++[g8]) zs h.ins.Rh (K:=fun e x=>e = ah (ak #[])/\iA base mb vb w x/\bB (fun b _=>O g3=O b) w8 x/\(∃ cs,w8.heap[g3]?=aO cs 3)/\fH base mb vb U vv W ((ft++[g3]++l)++[g8]) cut x ((i.put jm [] V [0]).land k.ins.length))
  (fun x C xr p=>⟨J,iA.own OD C yH,C,xr,p⟩)
 subst hf;refine bH ?_;refine⟨zk,?_⟩;refine a1r hC ?_;rintro e x ⟨rfl,y,C,xr,p⟩;rw[<- B] at p;have sz9:=y.size;have L9:=L8.Hr (g:=g3) zs xr C;have Vh:=h.pM y o zd;have p9:=h.pM y e5 zd;refine dB Vh @p9 Y3 (zA @L @I) ?_;refine a1r (ih t zo p Jy zo (VK.of sk F2) (by rw[F2];exact Zo) (h.bd y uQ) E) ?_;rintro e jl ⟨Vi,f⟩;have EF:=y.trans Vi;have arv:=EF.size;rw[P.ari] at d;cases OE:lC t cs k9 with
 | none=>
  rw[OE] at f d;have f:e=gP (.fault 4):=f;subst f;exact d _ _ ⟨EF,J⟩
 | some Ox=>
 rw[OE] at f d;dsimp only at d;obtain⟨rfl,Vj,Vk,OF,ag2,rQ⟩:=f;have L10:=L9.fr p Vi ag2;obtain⟨r10,arw⟩:=AO _ _ _ _ OE;have ag5:Ox.ins=X++⟨jm,[],V,[0]⟩::r10:=zg;have hcX:(ft++[g3]++l).length=yt X:=by
  have:=p.ins.Rh;rw[hX,agQ,a1v] at this;have e1:yt [(⟨jm,[],V,[0]⟩:P.In)]=1:=rfl;grind
 obtain⟨xc,yc,eW,hC2⟩:=U6 rQ L10 ag5 WX J (s1:=(ft++[g3]++l)) (g:=g8) (s2:=OF) zs hcX (K:=fun e D=>e = ah (ak #[])/\iA base mb vb w D/\fH base mb vb Vj vv Vk ((ft++[g3]++l)++[g8]++OF) cut D (Ox.land i.ins.length))
  (fun D ag8 _ qK=>⟨J,iA.own EF ag8 yH,qK⟩)
 subst eW;refine bH ?_;refine⟨zk,?_⟩;refine a1r hC2 ?_;rintro e D ⟨rfl,Zq,qK⟩;refine bH ?_;refine d _ _ ⟨Zq,J,Vj,Vk,[g3]++l++[g8]++OF,fun b o=>?_,?_⟩
 .simp only[a1F,a1K] at o;grind
 grind
end
section
variable{base mb vb:Nat}{cut:Int}
def aP9(ih:U9 base mb vb cut n){name:Bs}{args:List Ex}(hn:iR (.mk cap name args gr)<=n+1)(iN:cap=63){k:Mk}{cs:Nat}
  (h:fH base mb vb iv vv gk ft cut w k) (hk:GK N k) (hN:N+4*iR (.mk cap name args gr)<=90000) (sk:P.VK k) (dA:eX k.vars.length M (.mk cap name args gr)) (hx:dJ (fun _=>True) w v (.mk cap name args gr)) (jK:cs<64) :
  Calls bbI 107 #[pp mb,v,zi (cs:Nat)] w (uW base mb vb vv ft cut w (lC (.mk cap name args gr) cs k)):=by
 suffices H:∀ R:Ending->Z->Prop,(∀ E w',uW base mb vb vv ft cut w (lC (.mk cap name args gr) cs k) E w'->R E w')->Calls bbI 107 #[pp mb,v,zi (cs:Nat)] w R from H _ fun _ _ h=>h;intro R i;unfold eX at dA;obtain⟨o1,o2,o3,o4,o5,o6,o7,o8⟩:=dA;unfold dJ at hx;obtain⟨b,av,pv,vs,us,rfl,-,l,gx,Es,lQ,W⟩:=hx;have hc:=h.cell;have lv:=bg h.vars.2;have uO:=W.Hh;simp only[iR] at hn hN;subst iN;have Cx:gr.length=3:=zo;obtain⟨pA,z,F,rfl⟩:∃ pA z F,gr=[pA,z,F]:=by
  rcases gr with _ | ⟨a,_ | ⟨b,_ | ⟨c,_ | ⟨d,r⟩⟩⟩⟩<;>grind
 simp only[ju,a26] at hn hN;simp only[a1x,a1L] at uO;obtain⟨u0,Va,Vb⟩:=gy.C5 0 zs W;have arp:=o8.at (j:=0) zs;obtain⟨u1,eu1,uQ⟩:=gy.C5 1 zs W;have Zo:=o8.at (j:=1) zs;obtain⟨u2,eu2,FJ⟩:=gy.C5 2 zs W;have aQa:=o8.at (j:=2) zs;obtain⟨pb,C6,e3,e4,e5,LW⟩:=lQ.at' (j:=0) zo;rw[Va] at LW;subst e3;have e61:C6[1]?=O u1:=by
  obtain⟨YC,YD,e3,-,e5',Zp⟩:=lQ.at' (j:=1) zo;grind
 have e62:C6[2]?=O u2:=by
  obtain⟨YC,YD,e3,-,e5',Zp⟩:=lQ.at' (j:=2) zo;grind
 have mj:∀ q:Nat,q<us.length->(q:Int)<(us.length:Int):=zg;have qk:=mj 0 zo;have Y3:=mj 1 zo;have hi2:=mj 2 zo;have Vc:((0:Nat):Int).toNat=0:=rfl;have ei1:((1:Nat):Int).toNat=1:=rfl;have ei2:((2:Nat):Int).toNat=2:=rfl;refine U8 ?_;unfold lC at i;rw[bM zd,bM zd,bM zd,zip rfl] at i;refine cJ l ?_;refine a1r (LO h hk.slots) ?_;rintro e w1 ⟨ED,f⟩;cases kl:k.slot with
 | none=>
  rw[kl] at f i;have f:e=gP (.fault 4):=f;subst f;refine bH ?_;exact i _ _ ⟨ED,J⟩
 | some p=>
 obtain⟨s1,k1⟩:=p;rw[kl] at f i;obtain⟨he,h1⟩:e = ah (zi (s1:Nat))/\fH base mb vb iv vv gk ft cut w1 k1:=f;subst he;obtain⟨q1,q2,q3,-⟩:=hk.slot kl;have sz1:=ED.size;refine bH ?_;refine FY h1 (wd:=pF) (nm:=[]) (cv:=ai) (con:=V) (s:=[s1]) zs J (a1t q1.len zo) zo ?_;rintro w2 Jz ⟨OG,Rj,h2⟩;have OC:=ED.trans Jz;have sz2:=OC.size;have sS:GK (N+1) (k1.put pF [] V [s1]):=q1.put (rv zd zs zo);have j4:(k1.put pF [] V [s1]).vars=k.vars:=q3;obtain⟨o,Q4⟩:=cg (k1.put pF [] V [s1]);rw[<- Q4] at h2 sS j4;obtain⟨x,ag9⟩:=cg (ft++[w1.heap.size]);rw[<- ag9] at h2;refine bH ?_;have i:∀ E w',uW base mb vb vv ft cut w (D4 [pA,z,F] s1 cs o) E w'->R E w':=by rw[Q4];exact i
 unfold D4 at i;refine a1r (U5 h2 (a1t sS.len zo) jR) ?_;rintro e w3 ⟨Vd,iv3,art,g3,f3,rfl,Bz,h3,L3⟩;have I:=OC.trans Vd;have Rg:=I.size;have ri:GK (N+1+1) (o.put jR [] V [0]):=sS.put (rv zd zs zo);have eL:=h.pM I l zd;have p3:=h.pM I e5 zd;refine dB eL @p3 qk (zA @Vc @LW) ?_;refine a1r (ih pA zo h3 ri zo (VK.of sk j4) (by show eX o.vars.length M pA;grind) (h.bd I Vb) q2) ?_;rintro e y ⟨LX,f⟩;have my:=I.trans LX;have LR:=my.size;cases wT:lC pA s1 (o.put jR [] V [0]) with
 | none=>
  rw[wT] at f i;have f:e=gP (.fault 4):=f;subst f;refine bH ?_;exact i _ _ ⟨my,J⟩
 | some B=>
 rw[wT] at f i;dsimp only at i;obtain⟨rfl,LS,LU,u,OB,h4⟩:=f;obtain⟨yE,vH⟩:=Ea _ _ _ _ _ wT ri (by show eX o.vars.length M pA;grind) q2 zo;have vH:B.vars=k.vars:=vH.trans j4;have L4:=L3.fr h3 LX OB;obtain⟨L,Ev⟩:=AO _ _ _ _ wT;have hi4:B.ins=o.ins++⟨jR,[],V,[0]⟩::L:=by rw[Ev];show(o.ins++[_])++L=_;grind
 have vn:x++[g3]++u=x++g3::u:=zg;refine bH ?_;refine FY h4 (wd:=kE) (nm:=[]) (cv:=ai) (con:=V) (s:=[s1]) zs J (a1t yE.len zo) zo ?_;rintro w5 Vl ⟨iv5,ahb,h5⟩;have Q:=my.trans Vl;have sz5:=Q.size;have pz:GK ((N+1+1+4*iR pA)+1) (B.put kE [] V [s1]):=yE.put (rv zd zs zo);have yf:(B.put kE [] V [s1]).vars=k.vars:=vH;have L5:=L4.fr h4 Vl (bl:=[y.heap.size]) (fun b l=>by rw[a1K] at l;omega);have hi5:(B.put kE [] V [s1]).ins=o.ins++⟨jR,[],V,[0]⟩::(L++[⟨kE,[],V,[s1]⟩]):=by show B.ins++[_]=_;grind
 obtain⟨k5,ahe⟩:=cg (B.put kE [] V [s1]);rw[<- ahe] at h5 pz yf hi5 i;have NZ:=h.pM Q l zd;have p5:=h.pM Q e5 zd;unfold Fs at i;refine dB NZ @p5 Y3 (zA @ei1 @e61) ?_;refine a1r (ih z zo h5 pz zo (VK.of sk yf) (by rw[yf];exact Zo) (h.bd Q uQ) jK) ?_;rintro e w6 ⟨Vn,f⟩;have qn:=Q.trans Vn;have sz6:=qn.size;cases KB:lC z cs k5 with
 | none=>
  rw[KB] at f i;have f:e=gP (.fault 4):=f;subst f;exact i _ _ ⟨qn,J⟩
 | some t=>
 rw[KB] at f i;dsimp only at i;obtain⟨rfl,uh,ui,C,Zn,h6⟩:=f;obtain⟨S,Br⟩:=Ea (M:=M) (nv:=k.vars.length) _ _ _ _ _ KB pz Zo jK zo;have Br:t.vars=k.vars:=Br.trans yf;have L6:=L5.fr h5 Vn Zn;obtain⟨r6,hr6⟩:=AO _ _ _ _ KB;have hi6:t.ins=o.ins++⟨jR,[],V,[0]⟩::(L++[⟨kE,[],V,[s1]⟩]++r6):=zg;refine bH ?_;refine a1r (U5 h6 (a1t S.len zo) jm) ?_;rintro e w8 ⟨Vg,iv8,agU,g8,f8,rfl,hg8,h8,L8⟩;have OD:=qn.trans Vg;have hk8:GK ((((N+1+1+4*iR pA)+1)+4*iR z)+1) (t.put jm [] V [0]):=S.put (rv zd zs zo);have L8b:=L6.fr h6 Vg (bl:=[g8]) yH;have hi8:(t.put jm [] V [0]).ins=o.ins++⟨jR,[],V,[0]⟩::((L++[⟨kE,[],V,[s1]⟩]++r6)++[⟨jm,[],V,[0]⟩]):=by show t.ins++[_]=_;grind
 have fp:o.ins.length<t.ins.length:=zg;obtain⟨X,hX,WX⟩:=P.arj (m:=t) (w:=jm) (j:=o.ins.length) fp;obtain⟨k9,F1⟩:=cg ((t.put jm [] V [0]).land o.ins.length);have Jy:GK ((((N+1+1+4*iR pA)+1)+4*iR z)+1) k9:=by rw[F1];exact hk8.land zo _
 have F2:k9.vars=k.vars:=by rw[F1];exact Br
 rw[<- F1] at hX i;obtain⟨sb8,aP6⟩:=cg ((x++[g3]++u++[y.heap.size]++C)++[g8]);obtain⟨xb,yb,hf,hC⟩:=U6 h8 L8b hi8 J J (s1:=x) (g:=g3) (s2:=(u++[y.heap.size]++C)++[g8]) zs h2.ins.Rh (K:=fun e T=>e = ah (ak #[])/\iA base mb vb w T/\bB (fun b _=>O g3=O b) w8 T/\(∃ cs,w8.heap[g3]?=aO cs 3)/\fH base mb vb iv8 vv agU ((x++[g3]++u++[y.heap.size]++C)++[g8]) cut T ((t.put jm [] V [0]).land o.ins.length))
  (fun T Cz xr D=>⟨J,iA.own OD Cz yH,Cz,xr,D⟩)
 subst hf;refine bH ?_;refine⟨zk,?_⟩;refine a1r hC ?_;rintro e T ⟨rfl,U,Cz,xr,D⟩;rw[<- F1] at D;have sz9:=U.size;have L9:=L8.Hr (g:=g3) zs xr Cz;have Vh:=h.pM U l zd;have p9:=h.pM U e5 zd;refine dB Vh @p9 hi2 (zA @ei2 @e62) ?_;refine a1r (ih F zo D Jy zo (VK.of sk F2) (by rw[F2];exact aQa) (h.bd U FJ) jK) ?_;rintro e jl ⟨Vi,f⟩;have EF:=U.trans Vi;have arv:=EF.size;rw[P.ari] at i;cases OE:lC F cs k9 with
 | none=>
  rw[OE] at f i;have f:e=gP (.fault 4):=f;subst f;exact i _ _ ⟨EF,J⟩
 | some Ox=>
 rw[OE] at f i;dsimp only at i;obtain⟨rfl,Vj,Vk,OF,ag2,rQ⟩:=f;have L10:=L9.fr D Vi ag2;obtain⟨r10,arw⟩:=AO _ _ _ _ OE;have ag5:Ox.ins=X++⟨jm,[],V,[0]⟩::r10:=zg;have hcX:(x++[g3]++u++[y.heap.size]++C).length=yt X:=by
  have:=D.ins.Rh;rw[hX,agQ,a1v] at this;have e1:yt [(⟨jm,[],V,[0]⟩:P.In)]=1:=rfl;exact yH
 obtain⟨xc,yc,eW,hC2⟩:=U6 rQ L10 ag5 WX J (s1:=(x++[g3]++u++[y.heap.size]++C)) (g:=g8) (s2:=OF) zs hcX (K:=fun e jT=>e = ah (ak #[])/\iA base mb vb w jT/\fH base mb vb Vj vv Vk ((x++[g3]++u++[y.heap.size]++C)++[g8]++OF) cut jT (Ox.land t.ins.length))
  (fun jT ag8 _ qK=>⟨J,iA.own EF ag8 yH,qK⟩)
 subst eW;refine bH ?_;refine⟨zk,?_⟩;refine a1r hC2 ?_;rintro e jT ⟨rfl,Zq,qK⟩;refine bH ?_;refine i _ _ ⟨Zq,J,Vj,Vk,[w1.heap.size]++[g3]++u++[y.heap.size]++C++[g8]++OF,fun b l=>?_,?_⟩
 .simp only[a1F,a1K] at l;rcases l with(((((l | l) | l) | l) | l) | l) | l
  .omega
  .omega
  .exact yH
  .omega
  .exact yH
  .omega
  exact yH
 exact yH
end
section
variable{base mb vb:Nat}{cut:Int}
def aQg(ih:U9 base mb vb cut n){name:Bs}{args:List Ex}(hn:iR (.mk cap name args gr)<=n+1)(iN:cap=126){k:Mk}{cs:Nat}
  (h:fH base mb vb iv vv gk ft cut w k) (hk:GK N k) (hN:N+4*iR (.mk cap name args gr)<=90000) (sk:P.VK k) (dA:eX k.vars.length M (.mk cap name args gr)) (hx:dJ (fun _=>True) w v (.mk cap name args gr)) (jK:cs<64) :
  Calls bbI 107 #[pp mb,v,zi (cs:Nat)] w (uW base mb vb vv ft cut w (lC (.mk cap name args gr) cs k)):=by
 suffices H:∀ R:Ending->Z->Prop,(∀ m w',uW base mb vb vv ft cut w (lC (.mk cap name args gr) cs k) m w'->R m w')->Calls bbI 107 #[pp mb,v,zi (cs:Nat)] w R from H _ fun _ _ h=>h;intro R c;unfold eX at dA;obtain⟨o1,o2,o3,o4,o5,o6,o7,o8⟩:=dA;unfold dJ at hx;obtain⟨b,av,pv,vs,us,rfl,-,i,gx,Es,lQ,og⟩:=hx;have hc:=h.cell;have lv:=bg h.vars.2;have uO:=og.Hh;simp only[iR] at hn hN;subst iN;have Cx:gr.length=1:=zo;obtain⟨pA,rfl⟩:∃ pA,gr=[pA]:=by
  rcases gr with _ | ⟨a,_ | ⟨b,r⟩⟩<;>grind
 simp only[ju,a26] at hn hN;simp only[a1x,a1L] at uO;obtain⟨u0,Va,Vb⟩:=gy.C5 0 zs og;have arp:=o8.at (j:=0) zs;obtain⟨pb,C6,e3,e4,e5,LW⟩:=lQ.at' (j:=0) zo;rw[Va] at LW;subst e3;have mj:∀ q:Nat,q<us.length->(q:Int)<(us.length:Int):=zg;have qk:=mj 0 zo;have Vc:((0:Nat):Int).toNat=0:=rfl;refine U8 ?_;unfold lC at c;rw[bM zd,bM zd,bM zd,bM zd,zip rfl] at c;refine cJ i ?_;refine a1r (LO h hk.slots) ?_;rintro e w1 ⟨E,d⟩;cases F:k.slot with
 | none=>
  rw[F] at d c;have d:e=gP (.fault 4):=d;subst d;refine bH ?_;exact c _ _ ⟨E,J⟩
 | some p=>
 obtain⟨s1,u⟩:=p;rw[F] at d c;obtain⟨he,h1⟩:e = ah (zi (s1:Nat))/\fH base mb vb iv vv gk ft cut w1 u:=d;subst he;obtain⟨q1,q2,q3,-⟩:=hk.slot F;have sz1:=E.size;refine bH ?_;refine FY h1 (wd:=pF) (nm:=[]) (cv:=ai) (con:=V) (s:=[s1]) zs J (a1t q1.len zo) zo ?_;rintro w2 Jz ⟨OG,Rj,x⟩;have OC:=E.trans Jz;have sz2:=OC.size;have I:GK (N+1) (u.put pF [] V [s1]):=q1.put (rv zd zs zo);have L:(u.put pF [] V [s1]).vars=k.vars:=q3;obtain⟨f,Q4⟩:=cg (u.put pF [] V [s1]);rw[<- Q4] at x I L;have aY6:∀ b∈[w1.heap.size],w.heap.size<=b:=yH;obtain⟨y,Q⟩:=cg (ft++[w1.heap.size]);rw[<- Q] at x;refine bH ?_;have c:∀ m w',uW base mb vb vv ft cut w (D5 [pA] s1 f) m w'->R m w':=by rw[Q4];exact c
 unfold D5 at c;refine a1r (U5 x (a1t I.len zo) jR) ?_;rintro e w3 ⟨Vd,iv3,art,g3,f3,rfl,Bz,h3,L3⟩;have o:=OC.trans Vd;have Rg:=o.size;have ri:GK (N+1+1) (f.put jR [] V [0]):=I.put (rv zd zs zo);have eL:=h.pM o i zd;have p3:=h.pM o e5 zd;refine dB eL @p3 qk (zA @Vc @LW) ?_;refine a1r (ih pA zo h3 ri zo (VK.of sk L) (by show eX f.vars.length M pA;grind) (h.bd o Vb) q2) ?_;rintro e z ⟨LX,d⟩;have S:=o.trans LX;have LR:=S.size;cases B:lC pA s1 (f.put jR [] V [0]) with
 | none=>
  rw[B] at d c;have d:e=gP (.fault 4):=d;subst d;refine bH ?_;exact c _ _ ⟨S,J⟩
 | some l=>
 rw[B] at d c;dsimp only at c;obtain⟨rfl,LS,LU,t,OB,h4⟩:=d;obtain⟨yE,T⟩:=Ea _ _ _ _ _ B ri (by show eX f.vars.length M pA;grind) q2 zo;have T:l.vars=k.vars:=T.trans L;have L4:=L3.fr h3 LX OB;obtain⟨C,Ev⟩:=AO _ _ _ _ B;have hi4:l.ins=f.ins++⟨jR,[],V,[0]⟩::C:=by rw[Ev];show(f.ins++[_])++C=_;grind
 have vn:y++[g3]++t=y++g3::t:=zg;refine bH ?_;refine FY h4 (wd:=kE) (nm:=[]) (cv:=ai) (con:=V) (s:=[s1]) zs J (a1t yE.len zo) zo ?_;rintro w5 Vl ⟨iv5,ahb,U⟩;have ql:=S.trans Vl;have pz:GK ((N+1+1+4*iR pA)+1) (l.put kE [] V [s1]):=yE.put (rv zd zs zo);have yf:(l.put kE [] V [s1]).vars=k.vars:=T;have L5:=L4.fr h4 Vl (bl:=[z.heap.size]) (fun b i=>by rw[a1K] at i;omega);have W:(l.put kE [] V [s1]).ins=f.ins++⟨jR,[],V,[0]⟩::(C++[⟨kE,[],V,[s1]⟩]):=by show l.ins++[_]=_;grind
 obtain⟨X,ahe⟩:=cg (l.put kE [] V [s1]);rw[<- ahe] at U pz yf W c;refine bH ?_;refine a1r (LP U (wd:=mr) (nm:=[102,97,105,108]) (cv:=ai) (con:=V) (s:=[]) (sv:=bW) (bl:=[]) J (.inl zg) yH (a1t pz.len zo)) ?_;rintro e w6 ⟨rfl,Vn,uh,ui,h6⟩;have qn:=ql.trans Vn;have L6:=L5.fr U Vn (bl:=[]) (fun b i=>by cases i);have hi6:(X.put mr [102,97,105,108] V []).ins=f.ins++⟨jR,[],V,[0]⟩::(C++[⟨kE,[],V,[s1]⟩]++[⟨mr,[102,97,105,108],V,[]⟩]):=by show X.ins++[_]=_;grind
 obtain⟨xb,yb,hf,hC⟩:=U6 h6 L6 hi6 J J (s1:=y) (g:=g3) (s2:=t++[z.heap.size]++[]) zs x.ins.Rh (K:=fun e D=>e = ah (ak #[])/\iA base mb vb w D/\fH base mb vb uh vv ui (y++[g3]++t++[z.heap.size]++[]) cut D ((X.put mr [102,97,105,108] V []).land f.ins.length))
  (fun D Bt _ h7=>⟨J,iA.own qn Bt yH,h7⟩)
 subst hf;refine bH ?_;refine⟨zk,?_⟩;refine a1r hC ?_;rintro e D ⟨rfl,F3,h7⟩;refine bH ?_;refine c _ _ ⟨F3,J,uh,ui,[w1.heap.size]++[g3]++t++[z.heap.size],fun b i=>?_,?_⟩<;>grind
end
def Rk{base mb vb:Nat}{cut:Int}:∀ n,U9 base mb vb cut n
 | 0,x,c=>by have:=anf x;omega
 | n+1,.mk kind name args parts,c=>by
  intro h hk d e b hx f;have o:=b;unfold eX at o;rcases o.2.1 with a | a | a | a | a | a
  .exact aro (Rk n) c (.inl a) h hk d e b hx f
  .exact aro (Rk n) c (.inr a) h hk d e b hx f
  .exact aP2 (Rk n) c a h hk d e b hx f
  .exact aP9 (Rk n) c a h hk d e b hx f
  .exact aQg (Rk n) c a h hk d e b hx f
  .exact aP1 a h hk d e b hx
open Go.Proofs.YtoegidfbnkaabaaGreatDoor.Sx
section
variable{p0 p1 p2 p3 p4 p5 p6 p7:Y}{w:Z}{R:Ending->Z->Prop}
def aQh:=cz w R [p0,p1] (gd [(3,[24]),(8,[39]),(13,[50]),(21,[89]),(26,[104])] [(17006,[]),(35002,[])] [(32,9)] [(15,[9,0,1,2,3,4,5,6,7,8]),(29,[9,0,1,2,3,4,5,6,7,8])] [] [] [1,25,40,44,51,90,105,114,144]) Tryz.func80
end
def P.GK.arz{s:Nat}{k:Mk}(h:GK N k)(b:k.slot=O (s,zF)):GK (N+1) (Mk.put { zF with vars:=zF.vars.set j (O s) } P.rS [] V [s]):=by
 obtain⟨g1,g2,g3,-⟩:=h.slot b;have hv:GK N { zF with vars:=zF.vars.set j (O s) }:=⟨g1.len,g1.ins,g1.slots,fun y a t ht=>by
  rcases List.mem_or_eq_of_mem_set a with a | a
  .exact g1.vars y a t ht
  grind⟩
 exact hv.put (rv zd zs zo)
section
variable{base mb vb:Nat}{iv vv:Y}{gk:List Y}{sb:List Nat}{cut:Int}{w:Z}{k:Mk}
def arA(h:fH base mb vb iv vv gk sb cut w k)(hk:GK N k)(hN:N<=90000)(hj:j<k.vars.length)(Ob:k.vars.length<=12){K:Z->Prop}(hR:k.slot=V->∀ w',iA base mb vb w w'->R (gP (.fault 4)) w')
  (hK:∀ s b w',k.slot=O (s,b)->iA base mb vb w w'->(∃ uf ug zG,fH base mb vb uf vv ug zG cut w' (Mk.put { b with vars:=b.vars.set j (O s) } P.rS [] V [s]))->K w') :
  HD fun S=>S w.drew /\
   NC (pp mb) fun q=>
   uY bbI (Instr.fieldAt 247 q 1) S (fun r=>
   uY bbI (a1G 45 r) S (fun t=>
   CA bbI 104 #[pp mb] w.drew (fun u x=>
   S x /\
   RD bbI (Instr.indexAt 45 t (zi (j:Int))) x (fun y=>
   WU bbI (Instr.storeAt 3 y u) x (fun f=>
   NC (pp mb) fun z=>
   RD bbI (Instr.fieldAt 247 z 1) f (fun B=>
   RD bbI (a1G 45 B) f (fun C=>
   RD bbI (Instr.indexAt 45 C (zi (j:Int))) f (fun D=>
   RD bbI (a1G 3 D) f (fun E=>
   WR bbI (Instr.buildSlice 45 1 #[(0,E)]) f (fun F NR=>
   CA bbI 105 #[pp mb,(aT [110,101,119]),(aT []),ai,F] NR (fun _ NS=>K NS) (PC R)) (PX R)) (PX R)) (PX R)) (PX R)) (PX R)) (PXA R)) NX) (Mm R))):=by
 have hc:=h.cell;obtain⟨W,j4⟩:=h.vars;have lv:=bg j4;have X:Ext w w.drew:=yF;have H:(j:Int).toNat=j:=zo;have I:(j:Int)<(k.vars.length:Int):=zo;refine⟨fun w'=>∃ n i c,w'.heap[mb]?=aO #[n,i,vv,c] 247,yH,?_⟩;rw[jx];refine cQ (pq mb 2) (fun w' hS=>eT) ?_;refine cQ vv (fun w' hS=>by
  obtain⟨n,i,c,L⟩:=hS;rw[W] at L ⊢;have:=bg L;simp (disch:=first|assumption|omega|simp only[zS]<;>omega|decide) only[zB,simprocAttr,kW,L]) ?_
 refine a1r (LO (h.ext X) hk.slots) ?_;rintro e M ⟨ql,d⟩;have g:=(bB.ed X).trans ql;cases l:k.slot with
 | none=>
  rw[l] at d;have d:e=gP (.fault 4):=d;subst d;exact fun _=>hR l _ g
 | some p=>
  obtain⟨s1,b⟩:=p;rw[l] at d;obtain⟨he,Q⟩:e = ah (zi (s1:Nat))/\fH base mb vb iv vv gk sb cut M b:=d;subst he;obtain⟨q1,q2,q3,-⟩:=hk.slot l;refine⟨⟨_,_,_,Q.cell⟩,?_⟩;have GG:j<b.vars.length:=zg;obtain⟨s2,s3⟩:=Q.aq5 (s:=s1) GG (by have:=g.size;omega);have m:=Q.vars.2;have LQ:(b.vars.map ue).toArray.size=b.vars.length:=zs;obtain⟨a,hA⟩:=cg ((b.vars.map ue).toArray);rw[<- hA] at m s2 s3 LQ;have hjA:j<a.size:=zo;obtain⟨w6,o⟩:=cg (bQ M vb (ae (a.setIfInBounds j (zi (s1:Int))) 3 (0,0)));have g6:w6.heap[vb]?=aO (a.setIfInBounds j (zi (s1:Int))) 3:=yH;rw[<- o] at s2 s3;have T:=s2.cell;rw[W] at T ⊢;have jF:(a.setIfInBounds j (zi (s1:Int)))[j]?=O (zi (s1:Int)):=zg;refine jc I m @H ?_;rw[<- o];refine dB T @g6 jF (zA @H I) ?_;rw[<- o];refine dB T @g6 jF (zA @H I) ?_;rw[<- o];have U:w6.heap.size=M.heap.size:=yH;rw[<- U];refine FY s2 (wd:=P.rS) (nm:=[]) (cv:=ai) (con:=V) (s:=[s1]) zs J (a1t q1.len zo) (yH) ?_;rintro w7 F3 ⟨iv7,aY9,h7⟩;exact hK s1 b w7 l yF zg
end
def su(w:Z)(mb:Nat)(c:Co):Prop:=∃ base vb iv vv gk sb cut k,fH base mb vb iv vv gk sb cut w k/\k.slots=c.slots/\k.ins=c.ins
theorem su.ext{w w':Z}{mb:Nat}{c:Co}(h:su w mb c)(a:Ext w w'):su w' mb c:=by
 obtain⟨base,vb,iv,vv,gk,sb,cut,k,b,d⟩:=h;exact⟨base,vb,iv,vv,gk,sb,cut,k,b.ext a,d⟩
theorem iA.toExt(a:Ext w0 w)(c:iA base mb pb w w')(hm:w0.heap.size<=mb)(hv:w0.heap.size<=pb)(f:w0.heap.size<=base):Ext w0 w':=
 ⟨c.os.trans a.os,c.tape.trans a.tape,c.output.trans a.output,a1t a.size c.size,fun b o d _=>c.block _ _ (a.ext _ _ d) (by
  have:=bg d;rintro (e | e | ⟨e,-⟩)<;>omega)⟩
def arD{w:Z}{b nv:Nat}{nm:Bs}{av bv Vo:Y}{args:List Ex}{body:Bd}{M:Nat}(q:Bool)(hb:w.heap[b]?=aO #[aT nm,av,bv,Vo] 86)
  (wX:∃ a c,Vo = .slice a nv c) (gx:lO (fun _=>True) w av args) (mV:dJ (fun _=>True) w bv body) (hx:fi nv args) (GV:args.length<=4) (jr:fG args<=2900) (eZ:eX nv M body) (Rl:iR body<=5800) (mX:nv<=12) :
  Calls bbI 80 #[pp b,.bool q] w fun e w'=>Ext w w'/\match zb args body nv q with
   | none=>e=gP (.fault 4)
   | some c=>∃ mb,e = ah (aq (O ⟨mb,0,V⟩))/\w.heap.size<=mb/\su w' mb c:=by
 suffices H:∀ R:Ending->Z->Prop,(∀ e w',(Ext w w'/\match zb args body nv q with
   | none=>e=gP (.fault 4)
   | some c=>∃ mb,e = ah (aq (O ⟨mb,0,V⟩))/\w.heap.size<=mb/\su w' mb c)->R e w')->Calls bbI 80 #[aq (O ⟨b,0,V⟩),.bool q] w R from H _ yH
 intro R h;obtain⟨va,vc,rfl⟩:=wX;refine aQh ?_;have aZa:(nv:Int) ≥ 0:=zo;refine cJ hb ?_;rw[size_alloc];obtain⟨wA,rk⟩:=cg ((w.alloc (ae (madeCells #[zi 0] nv) 3 (0,0))).alloc (ae #[zi 0,bW,cS w.heap.size nv nv,zi 0] 247));rw[<- rk];have yY:Ext w wA:=yF;have sA:wA.heap.size=w.heap.size+1+1:=yH;have gA1:wA.heap[w.heap.size]?=aO (madeCells #[zi 0] nv) 3:=yH;have gA2:wA.heap[w.heap.size+1]?=aO #[zi 0,bW,cS w.heap.size nv nv,zi 0] 247:=yH;clear rk;obtain⟨mb,Jk⟩:=cg (w.heap.size+1);obtain⟨vb,yX⟩:=cg w.heap.size;obtain⟨vv,S⟩:=cg (Value.slice (O ⟨vb,0,V⟩) nv nv);rw[<- Jk];rw[<- Jk,<- yX] at gA2;rw[<- yX] at gA1;refine⟨fun m z w'=>∃ j f,z 24=zi ((j:Nat):Int)/\j<=nv/\m=nv-j/\Ext w w'/\w'.heap[mb]?=aO #[zi 0,bW,cS vb nv nv,zi 0] 247/\w'.heap[vb]?=aO f 3/\f.size=nv/\∀ i,i<j->f[i]?=O (zi (-1)),
  ⟨_,0,_,J,a1H _,J,yY,gA2,gA1,size_madeCells ..,zg⟩,?_⟩
 intro m z d w3 D;refine toPr ?_;obtain⟨j,f,h24,hj,rfl,eH,gm3,gv3,LQ,hAj⟩:=D;have lm3:=bg gm3;have lv3:=bg gv3;by_cases fp:j<nv
 .have j6:((j:Nat):Int).toNat=j:=zo;have k:((j:Nat):Int)<(nv:Int):=zo;refine dB h24 k @gm3 (zA @gv3 @j6) ?_;refine⟨_,?_,j+1,f.setIfInBounds j (zi (-1)),zg,zo,J,?_,J,zg,fun i hi=>?_⟩
  .omega
  .exact yF
  grind
 have I6:j=nv:=zo;subst I6;have k:¬ ((j:Nat):Int)<((j:Nat):Int):=zo;have hAe:f=((a2a j (V:Option Nat)).map ue).toArray:=by
  grind [Array.ext,Array.getElem?_eq_getElem,ue]
 subst hAe;have T:fH vb mb vb bW vv [] [] 0 w3 ⟨0,[],a2a j V⟩:=⟨yH,zo,⟨J,yH⟩,⟨J,J⟩,yH,a1s _,zg,List.nodup_nil⟩;obtain⟨K,arJ⟩:∃ y:Mk,y=⟨0,[],a2a j V⟩:=⟨_,J⟩;have xL:GK 0 K:=by rw[arJ];exact⟨a1s _,zg,zs,zg⟩
 have P2:K.vars.length=j:=zg;unfold zb at h;rw[<- arJ] at T h;have hs0:K.slots=0:=zg;have qk:K.ins=[]:=zg;obtain⟨Vp,gx,ml⟩:=gx;have vV:=ml.FF;obtain⟨aa,ac,rfl⟩:=gx.sl;have eL:=eH.ext _ _ hb;refine jc h24 k eL ?_;refine⟨fun m z w'=>∃ i ls B,z 39=zi ((i:Nat):Int)/\i<=args.length/\m=args.length-i/\ls=a1U i/\P.Dk K i ls B/\fH vb mb vb bW vv [] [] 0 w' B/\iA vb mb vb w3 w'/\GK 0 B/\B.vars=K.vars/\B.slots=i,
  ⟨_,0,[],K,J,a1H _,J,J,P.Dk.zero K,T,yF,xL,J,hs0⟩,?_⟩
 intro m z2 d2 w4 D;refine toPr ?_;obtain⟨i,ls,B,U,hi,rfl,GZ,iQ,h1,my,jN,kK,dX⟩:=D;have LR:=my.size;by_cases mj:i<args.length
 .have k:((i:Nat):Int)<(Vp.length:Int):=zo;refine dj U k ?_;refine a1r (LO h1 jN.slots) ?_;rintro e w5 ⟨ql,g⟩;cases E:B.slot with
  | none=>
   rw[E] at g;rw[iQ.none E mj] at h;have g:e=gP (.fault 4):=g;subst g;exact h _ _ ⟨(by grind [iA.toExt,bB.trans]),J⟩
  | some p=>
   obtain⟨s1,x⟩:=p;rw[E] at g;obtain⟨he,h2⟩:e = ah (zi (s1:Nat))/\fH vb mb vb bW vv [] [] 0 w5 x:=g;subst he;obtain⟨q1,q2,q3,q4,q5,q6⟩:=jN.slot E;refine cJ U ?_;refine⟨_,?_,i+1,ls++[s1],x,zg,zo,J,by grind [List.range_succ],iQ.step E,h2,yF,q1,q3.trans kK,zo⟩;omega
 have K4:i=args.length:=zo;subst K4;subst GZ;have k:¬ (args.length:Int)<(Vp.length:Int):=zo;rw[iQ.done] at h;dsimp only at h;refine dj U k ?_;refine⟨fun _ w'=>∃ x OG Rj vQ,fH vb mb vb OG vv Rj vQ 0 w' x/\iA vb mb vb w3 w'/\(if q=A then B.news 0 j else O B)=O x/\GK 12 x/\x.vars.length=j,?_,?_⟩
 .cases q with
  | false=>
   refine bH ?_;exact⟨B,_,_,_,h1,my,J,(by grind [GK.up]),zg⟩
  | true=>
   have jz:=h1.cell;rw[S] at jz;have lc1:=bg jz;refine cJ jz ?_;refine⟨fun m z w'=>∃ i l L N F,z 50=zi ((i:Nat):Int)/\i<=j/\m=j-i/\fH vb mb vb L vv N F 0 w' l/\iA vb mb vb w3 w'/\B.news 0 j=l.news i (j-i)/\GK i l/\l.vars.length=j,
    ⟨_,0,B,_,_,_,J,a1H _,J,h1,my,J,jN,zg⟩,?_⟩
   intro m z5 d5 w5 D;refine toPr ?_;obtain⟨i,l,L,N,F,W,hi,rfl,h5,ql,heq,pz,yf⟩:=D;by_cases nZ:i<j
   .have k:((i:Nat):Int)<((j:Nat):Int):=zo;have e1:j-i=(j-(i+1))+1:=zo;refine dj W k ?_;rw[W];refine arA h5 pz zo zo zo (fun C w6 qn=>?_) fun s x w6 C qn hM6=>?_
    .rw[e1,Mk.news,C] at heq;rw[zip J,heq] at h;exact h _ _ ⟨(by grind [iA.toExt,bB.trans]),J⟩
    .obtain⟨uh,ui,X,h6⟩:=hM6;rw[e1,Mk.news,C] at heq;refine bH ?_;refine⟨_,?_,i+1,_,uh,ui,X,zg,zo,J,h6,yF,heq,pz.arz C,?_⟩
     .omega
     .obtain⟨-,-,q3,-⟩:=pz.slot C;show(x.vars.set i (O s)).length=j;grind
   .have nZ:i=j:=zo;subst nZ;have k:¬ ((i:Nat):Int)<((i:Nat):Int):=zo;rw[Nat.sub_self,Mk.news] at heq;refine dj W k ?_;exact⟨l,L,N,F,h5,ql,heq,pz.up zo,yf⟩
 rintro sq w6 ⟨x,OG,Rj,vQ,h2,qn,iU,sS,j4⟩ dq;rw[iU] at h;dsimp only at h;have sz6:=qn.size;refine a1r (LO h2 sS.slots) ?_;rintro e w7 ⟨aQm,g⟩;have F3:=qn.trans aQm;have sz7:=F3.size;cases E:x.slot with
 | none=>
  rw[E] at g h;have g:e=gP (.fault 4):=g;subst g;refine bH ?_;exact h _ _ ⟨(by grind [iA.toExt]),J⟩
 | some p=>
 obtain⟨cs,Q⟩:=p;rw[E] at g h;dsimp only at h;obtain⟨he,h7⟩:e = ah (zi (cs:Nat))/\fH vb mb vb OG vv Rj vQ 0 w7 Q:=g;subst he;obtain⟨q1,q2,q3,-⟩:=sS.slot E;have vq:=h7.cell;have lc7:=bg vq;obtain⟨w8,L0⟩:=cg (bQ w7 mb (ae #[zi (Q.slots:Nat),OG,vv,zi (cs:Int)] 247));have Ym:bB (fun b _=>b=mb) w7 w8:=yF;have h8:fH vb mb vb OG vv Rj vQ (cs:Int) w8 Q:=h7.own Ym (n:=Q.slots) (yH);have OD:iA vb mb vb w3 w8:=F3.trans (Ym.mono fun b o _ e=>.inl e);have hc8:=h8.cell;refine cJ vq ?_;rw[<- L0];have sw8:w8.heap.size=w7.heap.size:=yH;rw[<- sw8];refine FY h8 (wd:=tj) (nm:=[]) (cv:=ai) (con:=V) (s:=[cs]) zs J (a1t q1.len zo) zo ?_;rintro w9 aQo ⟨iv9,aQq,h9⟩;have BX:=OD.trans aQo;have Jy:GK 13 (Q.put tj [] V [cs]):=q1.put (rv zd zs zo);have F2:(Q.put tj [] V [cs]).vars.length=j:=by show Q.vars.length=j;grind
 obtain⟨k9,F1⟩:=cg (Q.put tj [] V [cs]);rw[<- F1] at h9 Jy F2 h;obtain⟨sb9,aQs⟩:=cg (vQ++[w8.heap.size]);rw[<- aQs] at h9;have Vh:=T.pM BX eL zd;refine cJ Vh ?_;refine⟨fun m z w'=>∃ i l L N F Ni,z 89=zi ((i:Nat):Int)/\i<=args.length/\m=args.length-i/\fH vb mb vb L vv N F (cs:Int) w' l/\iA vb mb vb w3 w' /\
   th args (a1U args.length) k9=th (args.drop i) ((a1U args.length).drop i) l/\GK Ni l/\Ni+fG (args.drop i)<=13+fG args/\l.vars.length=j,
  ⟨_,0,k9,iv9,aQq,sb9,13,J,a1H _,J,h9,BX,J,Jy,a1s _,F2⟩,?_⟩
 intro m z10 d10 jl D;refine toPr ?_;obtain⟨i,l,L,N,F,Ni,h89,hi,rfl,rQ,EF,heq,ahn,aZj,arK⟩:=D;have arv:=EF.size;by_cases mj:i<args.length
 .have qO:i<Vp.length:=zo;obtain⟨sbx,Jc,e3,e4,e5,e6⟩:=gx.at' qO;obtain⟨u,e7,hu⟩:=eQ.at' i mj ml;rw[e7] at e6;simp only[a1I,true_and] at e3;obtain⟨rfl,rfl⟩:=e3;have j6:((i:Nat):Int).toNat=i:=zo;have Jw:=T.pM EF (eH.ext _ _ e5) zo;have k:((i:Nat):Int)<(Vp.length:Int):=zo;refine dB h89 k @Jw (zA @e6 @j6) ?_;have FZ:ie l.vars.length args[i]:=by rw[arK];exact hx.at mj
  have Qn:=U2 args i mj;have hir:i<(a1U args.length).length:=zg;have NT:eP (fun _=>True) w3 u args[i]:=eP.mono zg (by grind [bB.ext]) _ _ hu;refine a1r (aq6 _ args[i] (a1s _) rQ ahn zo FZ (T.ex EF NT) zo) ?_;rintro e jT ⟨Zq,g⟩;have dD:th (args.drop i) ((a1U args.length).drop i) l=match za args[i] i l with
    | none=>V
    | some m=>th (args.drop (i+1)) ((a1U args.length).drop (i+1)) m:=by
   rw[a1y mj,a1y hir,th,List.getElem_range];rfl
  cases ht:za args[i] i l with
  | none=>
   rw[ht] at g dD;rw[heq,dD] at h;have g:e=gP (.fault 4):=g;subst g;exact h _ _ ⟨(by grind [iA.toExt,bB.trans]),J⟩
  | some k6=>
   rw[ht] at g dD;obtain⟨he,uh,ui,Dq,Zn,Hx⟩:=g;subst he;obtain⟨g1,g2⟩:=adN _ _ _ _ _ ht ahn zo FZ;refine cJ h89 ?_;refine⟨_,?_,i+1,k6,uh,ui,F++Dq,Ni+iD args[i],zg,zo,J,Hx,yF,heq.trans dD,g1,zo,zo⟩;omega
 have K4:i=args.length:=zo;subst K4;have k:¬ (args.length:Int)<(Vp.length:Int):=zo;rw[heq,List.drop_length,th] at h;dsimp only at h;have arL:=rQ.cell;rw[S] at arL;have Zr:Ni<=2913:=zo;refine jc h89 k arL ?_;refine⟨fun m z w'=>∃ i r L N F,z 104=zi ((i:Nat):Int)/\i<=j/\m=j-i/\fH vb mb vb L vv N F (cs:Int) w' r/\iA vb mb vb w3 w'/\l.rest 0 j=r.rest i (j-i)/\GK (Ni+i) r/\r.vars.length=j/\∀ q,q<i->∃ t:Nat,r.vars[q]?=O (O t),
  ⟨_,0,l,_,_,_,J,a1H _,J,rQ,EF,J,ahn,arK,zg⟩,?_⟩
 intro m z12 d12 pL D;refine toPr ?_;obtain⟨i,r,iv5,ahb,sb5,Zs,hi,rfl,nX,Jz,heq,L7,Ol,hvq⟩:=D;have Vq:=nX.cell;obtain⟨aZl,Zt⟩:=nX.vars;rw[S] at Vq;have aZm:=bg Vq;have aZn:=bg Zt;have aZo:=Jz.size;by_cases nZ:i<j
 .have k:((i:Nat):Int)<((j:Nat):Int):=zo;have ein:((i:Nat):Int).toNat=i:=zo;have e1:j-i=(j-(i+1))+1:=zo;have I:(r.vars.map ue).toArray[i]?=O (ue r.vars[i]):=zg;have LQ:(r.vars.map ue).toArray.size=j:=zg;obtain⟨f,hA⟩:=cg ((r.vars.map ue).toArray);rw[<- hA] at Zt I LQ;have rH:r.vars.getD i V=r.vars[i]:=zg;cases g:r.vars[i] with
  | some t=>
   rw[g] at I rH;have I:f[i]?=O (zi (t:Int)):=I;rw[e1,Mk.rest,rH] at heq;have KE:¬ (t:Int)<0:=zo;refine dB Zs k Vq (zA Zt (zA I (zA @ein KE))) ?_;refine⟨_,?_,i+1,r,iv5,ahb,sb5,zg,zo,J,nX,Jz,heq,(by grind [GK.up]),Ol,fun q hq=>?_⟩
   .omega
   .by_cases rE:q=i
    .grind
    .exact hvq q zo
  | none=>
   rw[g] at I rH;have I:f[i]?=O (zi (-1)):=I;rw[e1,Mk.rest,rH] at heq;refine dB Zs k Vq (zA Zt (zA I @ein)) ?_;rw[Zs];refine arA nX L7 zo zo zo (fun C mO aQv=>?_) fun s x mO C aQv aQw=>?_
   .rw[C] at heq;rw[heq] at h;exact h _ _ ⟨(by grind [iA.toExt,bB.trans]),J⟩
   .obtain⟨uh,ui,X,h6⟩:=aQw;rw[C] at heq;obtain⟨-,-,Hk,-⟩:=L7.slot C;refine bH ?_;refine⟨_,?_,i+1,_,uh,ui,X,zg,zo,J,h6,yF,heq,L7.arz C,?_,fun q hq=>?_⟩
    .omega
    .show(x.vars.set i (O s)).length=j;grind
    .show ∃ t:Nat,(x.vars.set i (O s))[q]?=O (O t);by_cases rE:q=i
     .grind
     .rw[List.getElem?_set_ne zo,Hk];exact hvq q zo
 have nZ:i=j:=zo;subst nZ;have k:¬ ((i:Nat):Int)<((i:Nat):Int):=zo;rw[Nat.sub_self,Mk.rest] at heq;rw[heq] at h;dsimp only at h;have sk:P.VK r:=fun q hq=>zg;have aQx:=T.pM Jz eL zd;have dD:Ext pL pL.drew:=yF;refine dB Zs k aQx Vq ?_;have nW:dJ (fun _=>True) pL.drew bv body:=dJ.mono zg yH _ _ (T.bd Jz (dJ.mono zg (by grind [bB.ext]) _ _ mV));refine a1r (Rk _ body zo (nX.ext dD) L7 zo sk (by rw[Ol];exact eZ) nW (cs:=cs) zo) ?_;rintro e Js ⟨aQy,g⟩;have agL:=Jz.trans ((bB.ed dD).trans aQy);cases ht:lC body cs r with
 | none=>
  rw[ht] at g h;have g:e=gP (.fault 4):=g;subst g;exact h _ _ ⟨(by grind [iA.toExt]),J⟩
 | some k6=>
 rw[ht] at g h;dsimp only at h;obtain⟨rfl,aZp,aZq,aZr,aZs,Dg⟩:=g;obtain⟨arO,-⟩:=Ea (M:=M) (nv:=r.vars.length) _ _ _ _ _ ht L7 (by rw[Ol];exact eZ) zo zo;refine bH ?_;refine⟨fun _ w'=>iA vb mb vb w3 w'/\su w' mb ⟨k6.slots,(k6.put (if q=A then [100,111,110,101] else [114,101,116]) [] V []).ins⟩,?_,?_⟩
 .cases q with
  | true=>
   refine bH ?_;refine a1r (LP Dg (wd:=[100,111,110,101]) (nm:=[]) (cv:=ai) (con:=V) (s:=[]) (sv:=bW) (bl:=[]) J (.inl zg) zg (a1t arO.len zo)) ?_;rintro e U1 ⟨rfl,arP,aQz,aQA,FX⟩;refine bH ?_;exact⟨yF,_,_,_,_,_,_,_,_,FX,J,J⟩
  | false=>
   refine bH ?_;refine a1r (LP Dg (wd:=[114,101,116]) (nm:=[]) (cv:=ai) (con:=V) (s:=[]) (sv:=bW) (bl:=[]) J (.inl zg) zg (a1t arO.len zo)) ?_;rintro e U1 ⟨rfl,arP,aQz,aQA,FX⟩;refine bH ?_;exact⟨yF,_,_,_,_,_,_,_,_,FX,J,J⟩
 .rintro s6 U1 ⟨arP,vC⟩ d6;refine bH ?_;exact h _ _ ⟨(by grind [iA.toExt]),mb,J,zo,vC⟩
theorem jH.pM(a:jH wb w w'){T:Nat}(c:w.heap[b]?=aO cs T)(d:T≠5)(f:b≠wb):w'.heap[b]?=aO cs T:=a.block _ _ c (by
 rintro (e | ⟨-,cs',z,e⟩)<;>grind)
theorem qT.ne(h:qT w wb out){T:Nat}(a:w.heap[b]?=aO cs T)(c:T≠100):b≠wb:=fun e=>by
 obtain⟨d,buf,-,f,-⟩:=h;grind
def yu:List Bs->Bs
 | []=>[]
 | w::r=>32::(w++yu r)
theorem Zu:∀ (l:List Bs),(l.map fun w=>(32:UInt8)::w).flatten=yu l
 | []=>rfl
 | w::r=>by rw[List.map_cons,List.flatten_cons,Zu r];rfl
theorem aho:∀ (a b:List Bs),yu (a++b)=yu a++yu b
 | [],b=>rfl
 | w::r,b=>by rw[List.cons_append,yu,yu,aho r b];simp
theorem arQ{l:List Bs}(a:j<l.length):yu (l.take (j+1))=yu (l.take j)++32::l[j]:=by
 grind [List.take_add_one,List.getElem?_eq_getElem,aho,yu]
def aQB(l:List Bs)(j:Nat):(yu (l.take j)).length<=(yu l).length:=by
 grind [List.take_append_drop,yu,aho,a1v]
def Zv{first:Bs}{l:List Bs}(h:qT w wb out)(o:fJ (fun _=>True) w 9 tv (l.map fun s=>aT s))(E:l.length<=1000)(hlen:out.length+first.length+(yu l).length+1<=1000000000) :
  Calls bbI 108 #[pp wb,aT first,tv] w fun e w'=>e = ah (ak #[])/\qT w' wb (out++kM first l)/\jH wb w w':=by
 obtain⟨F,lc,rfl⟩:=o.sl;refine aNJ ?_;refine(aqP h first zo).mono ?_;rintro e w1 ⟨⟨v1,rfl⟩,t,u⟩;have x:(l.map fun s=>(a1N (bs s))).length=l.length:=zs;refine bH ?_;refine⟨fun m z w'=>∃ j,z 13=zi ((j:Nat):Int)/\j<=l.length/\m=l.length-j/\qT w' wb (out++first++yu (l.take j))/\jH wb w w',⟨_,0,J,a1H _,J,by rw[List.take_zero,yu,List.append_nil];exact t,u⟩,?_⟩;intro m z d w3 y;refine toPr ?_;obtain⟨j,c,H,rfl,f,i⟩:=y;by_cases b:j<l.length
 .obtain⟨g,cs,p,I,q,K⟩:=o.at' (j:=j) (by rw[x];exact b);simp only[a1I,true_and] at p;obtain⟨rfl,rfl⟩:=p;have B:cs[j]?=O (aT (l[j])):=zg;have C:((j:Nat):Int).toNat=j:=zo;have k:((j:Nat):Int)<(((l.map fun s=>(a1N (bs s))).length:Nat):Int):=zo;have g3:=i.pM q zd (h.ne q zd);have a:=aQB l (j+1);rw[arQ b] at a;simp only[a1v,a1x] at a;refine dB c k @g3 (zA @B @C) ?_;rw[B9 _ _ zg];refine a1r (aqP f ([32]++l[j]) zg) ?_;rintro e D ⟨⟨v4,rfl⟩,r,n⟩;refine cJ c ?_;refine⟨_,?_,j+1,zg,zo,J,?_,i.trans n⟩
  .omega
  grind [arQ,a1M]
 .have b:j=l.length:=zo;subst b;have k:¬ (l.length:Int)<(((l.map fun s=>(a1N (bs s))).length:Nat):Int):=zo;rw[List.take_length] at f;refine dj c k ?_;refine a1r (aPl f 10 zg) ?_;rintro e D ⟨⟨v4,rfl⟩,r,n⟩;refine bH ?_;refine⟨?_,i.trans n⟩;unfold kM;rw[Zu,<- a1M,<- a1M];exact r
def Tryz.aQD:(Tryz.prog.info? 9).map (fun i=>(i.zero,i.size,i.bytes))=O (O (aT []),1,16):=zk
abbrev Ds(base:Nat)(w:Z)(v:Y)(l:List Bs):Prop:=w.ownsRow base 9 1 v l.length (l.map fun s=>.string (bs s))
section
variable{ba:Nat}{v:Y}{l:List Bs}{w w':Z}
theorem Ds.nil:Ds ba w bW []:=⟨J,yH⟩
theorem Ds.ext(h:Ds ba w v l)(a:Ext w w'):Ds ba w' v l:=jL a.ext h
theorem Ds.sl(h:Ds ba w v l):fJ (fun _=>True) w 9 v (l.map fun s=>aT s):=EZ h zg
def Ds.push(h:Ds w0.heap.size w v l)(a:Ext w0 w)(y:l.length<=1000){K:Y->Z->Prop}
  (k:∀ v' w',Ds w0.heap.size w' v' (l++[s])->Ext w0 w'->K v' w') :
  WR bbI (Builtin.append_ #[39,39] 39 #[v,cS w.heap.size 1 1]) (w.alloc (ae #[aT s] 9)) K X:=by
 have c:Ext w (w.alloc (ae #[aT s] 9)):=yF;obtain⟨i,hi,j⟩:=Option.map_eq_some_iff.1 Tryz.aQD;simp only[Prod.mk.injEq] at j;obtain⟨n,p,q⟩:=j;refine Sx.DC (m:=1) (t:=39) (e:=9) zk hi n p q J zd (jL c.ext h) (sK J) J (fun u hu=>?_) zo zd (by rw[size_alloc];have:=a.size;omega) fun v' w' z d hv=>k v' w' ?_ ?_
 .simp only[List.mem_cons,List.not_mem_nil,or_false] at hu;subst hu;rfl
 .exact yH
 .have:=d.size;have s1:=c.size;have s0:=a.size;refine⟨d.os.trans (c.os.trans a.os),d.tape.trans (c.tape.trans a.tape),d.output.trans (c.output.trans a.output),zo,fun b o r _=>?_⟩;have x:=c.ext _ _ (a.ext _ _ r);rw[d.block b (bg x) (fun e=>?_)]
  .exact yH
  .rcases h.2 with⟨f,-⟩| ⟨g,cap,cur,f,B,-⟩
   .rw[f] at e;cases e
   .rw[f] at e;injection e with e;grind
end
theorem qT.ext{w w':Z}{wb:Nat}{out:Bs}(h:qT w wb out)(a:Ext w w'):qT w' wb out:=by
 obtain⟨b,buf,c,d,e⟩:=h;exact⟨b,buf,c,a.ext _ _ d,jL a.ext e⟩
theorem qV.at{w:Z}:∀ {l:List P.In} {vs:List Y} {sb:List Nat} {j:Nat} {i:P.In},qV w vs l sb->l[j]?=O i->∃ cv sv bl,vs[j*4]?=O (aT i.word)/\vs[j*4+1]?=O (aT i.name)/\vs[j*4+2]?=O cv/\vs[j*4+3]?=O sv/\yn cv i.const/\Jt w sv i.s bl
 | [],_,_,j,i,_,hi=>zg
 | x::r,vs,sb,0,i,⟨cv,sv,bl,rest,b,c,d,e,f,a⟩,hi=>by
  grind
 | x::r,vs,sb,j+1,i,⟨cv,sv,bl,rest,b,c,d,e,f,a⟩,hi=>by
  obtain⟨k,g,h,q1,q2,q3,q4,m,n⟩:=qV.at a (show r[j]?=O i from hi);grind
def fH.bfr{cut:Int}{k:Mk}(h:fH base mb pb iv vv gk ft cut w k)(d:jH wb w w')(e:∀ T cs,w.heap[wb]?=aO cs T->T=100):fH base mb pb iv vv gk ft cut w' k:=by
 have f:∀ {b T:Nat} {cs:Array Y},T≠5->T≠100->w.heap[b]?=aO cs T->w'.heap[b]?=aO cs T:=(by grind [jH.pM]);refine⟨(by grind [cell]),h.lo,⟨h.row.1,?_⟩,h.ins.bJ yH,(by grind [vars]),h.Ju,h.sep,h.Jv⟩;rcases h.row.2 with g | ⟨b,cap,cur,rfl,a,i,c⟩
 .exact yH
 .exact .inr ⟨b,cap,cur,J,a,yH,c⟩
theorem qT.ty(h:qT w wb out):∀ (T:Nat) (cs:Array Y),w.heap[wb]?=aO cs T->T=100:=fun T cs hx=>by
 obtain⟨a,buf,-,b,-⟩:=h;grind
def aQG{cv:Y}(b:yn cv (O t))(d:eA t)(f:w.heap[pb]?=aO #[bW,zi 9] 96)(g:w.heap[tb]?=aO #[aq V,bW,pp pb,.map V] 103)(h:lZ w)(j:4<tb)(k:pb≠4)(m:pb≠tb) :
  Calls bbI 31 #[pp tb,cv,zi 0] w fun e w'=>e = ah (ak #[])/\ng tb pb w w'/\∃ nm,tG w' tb (pp pb) nm (AH (O t)):=by
 have o:ya [] tb pb 0 96 #[bW,zi 9]:=⟨trivial,zs,m,j,k,zo,zo⟩;have p:ma id 0 [] tb pb 0 96 #[bW,zi 9] (.map V) w ⟨9,[],[]⟩:=
  ⟨⟨zg,yH⟩,⟨aq V,bW,.inl J,g,World.ownsRow_nil _ _ _ _⟩,.inl ⟨J,J⟩,f,h,zg⟩
 have key:lB [] 2 t 0 ⟨9,[],[]⟩=O (O ⟨8,AH (O t),[]⟩):=by
  cases t with
  | atom a=>rfl
  | int n=>rfl
  | var i=>exact b.elim
  | comp s l=>exact b.elim
 have q:dK id 0 w cv t:=b.dZ;refine a1r ((cw 2).tm (least:=0) o ⟨_,p⟩ q d (by simp [Ws.cV]) (a1s _) key) ?_;rintro e x ⟨r,rfl,c,u⟩;exact⟨J,r,c,u.bu⟩
