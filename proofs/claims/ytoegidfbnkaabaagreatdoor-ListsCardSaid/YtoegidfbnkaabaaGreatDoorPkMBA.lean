/- A part of one proof (KG10, KG11, KG12, KG13, KG14, ShX3c, KG14b, KG15, VT2, VT3). -/
import Derived.Test.YtoegidfbnkaabaaGreatDoorPkMAZ
set_option linter.all false
set_option maxRecDepth 100000
set_option maxHeartbeats 8000000
open Option renaming some → O, none → V
open Go renaming Value → Y, World → Z
open Bool renaming true → G
open Go.Obj renaming cells → ah
open Go.Ending renaming returned → ai
open Go.Value renaming nilIface → aj, tuple → aq, pointer → au
open Go.Calls renaming mono → a3L
open List renaming length_append → a3M, length_cons → a3N, drop_eq_getElem_cons → a3U, length_nil → a3V, mem_append → a3Z, mem_singleton → a35, append_assoc → a36, range → a4g, replicate → a4r
open Nat renaming le_refl → a3O, le_trans → a3Q, zero_le → a33, add_zero → a5s
open Go.Instr renaming loadAt → a32
open Go.Value.slice renaming injEq → a34
open Go.Value renaming string → a4a
open Go.Proofs.Tryz renaming prog → bdV
namespace Go.Proofs.YtoegidfbnkaabaaGreatDoor
open P
open Go.RowKit Sx
variable{M N b base j k' mb n pb tb wb:Nat}{R:Ending->Z->Prop}{X:Y->Z->Prop}{cs:Array Y}{iv tv v vv:Y}{gr:List Y}{out s:Bs}{t:Tm}{gz:List Bd}{Ae:Mk}{fz:List Nat}{w w' w0:Z}
section
variable{base mb vb:Nat}{cut:Int}
def aRx{name:Bs}{args:List Ex}(iT:pb=103){k:Mk}{cs:Nat}
  (h:fL base mb vb iv vv gr fz cut w k) (hk:GK N k) (hN:N+4*iX (.mk pb name args gz)<=90000) (sI:P.VK k) (T:eZ k.vars.length M (.mk pb name args gz)) (hx:dL (fun _=>True) w v (.mk pb name args gz)) :
  Calls bdV 107 #[pp mb,v,zi (cs:Nat)] w (vn base mb vb vv fz cut w (lG (.mk pb name args gz) cs k)):=by
 suffices H:∀ R:Ending->Z->Prop,(∀ n w',vn base mb vb vv fz cut w (lG (.mk pb name args gz) cs k) n w'->R n w')->Calls bdV 107 #[pp mb,v,zi (cs:Nat)] w R from H _ fun _ _ h=>h;intro R c;unfold eZ at T;obtain⟨o1,o2,o3,o4,o5,o6,o7,o8⟩:=T;unfold dL at hx;obtain⟨b,av,pv,dk,us,rfl,-,a,U,W,lX,oo⟩:=hx;have hc:=h.cell;have lc:=bn hc;have lv:=bn h.vars.2;have Er:=W.ER;obtain⟨aa,ac,rfl⟩:=U.sl;simp only[iX] at hN;subst iT;refine V3 ?_;unfold lG at c;rw[bU zd,bU zd,bU zd,bU zd,bU zd] at c;refine cJ a ?_;refine⟨fun m z w'=>∃ j f X Cb g o ls v1,z 27=zi ((j:Nat):Int)/\z 15=v1/\j<=args.length/\m=args.length-j/\ls.length=j/\fL base mb vb X vv Cb (fz++g) cut w' f/\(∀ b∈g,w.heap.size<=b/\v1.ownBlock≠O b)/\iE base mb vb w w'/\oS w.heap.size w' v1 ls /\
   P.vo k args j ls f/\GK o f/\o+fJ (args.drop j)<=N+fJ args/\f.vars=k.vars/\(∀ y∈ls,y<64)/\(ls=[]->v1 = bW),
  ⟨_,0,k,iv,gr,[],N,[],_,J,J,a33 _,J,J,zg,yH,yF,oS.nil,P.vo.zero k args,hk,a3O _,J,zg,fun _=>J⟩,?_⟩
 intro m z d w3 hI;refine toPr ?_;obtain⟨j,f,X,Cb,g,o,ls,v1,B,C,hj,rfl,Hv,D,VY,q,r,E,t,hNj,F,ahU,ZO⟩:=hI;obtain⟨ra,rc,rfl⟩:=gZ r;have R5:=q.size;have dS:=fun b=>r.own (b:=b);by_cases i:j<args.length
 .have qV:j<dk.length:=zo;obtain⟨sb1,JJ,e3,e4,e5,e6⟩:=U.at' qV;obtain⟨u,e7,hu⟩:=eS.at' j i W;rw[e7] at e6;simp only[a34,true_and] at e3;obtain⟨rfl,rfl⟩:=e3;have kf:((j:Nat):Int).toNat=j:=zo;have J2:=h.pR q e5 zd;have I:((j:Nat):Int)<(dk.length:Int):=zo;refine dG B I @J2 (zA @e6 @kf) ?_;have Gv:ij f.vars.length args[j]:=by rw[F];exact o5.at i
  have Ra:=VX args j i;have ahZ:=Z8 args j;refine a3L (asy _ args[j] (a3O _) D t zo (VK.of sI F) Gv (h.ex q hu)) ?_;rintro e w4 ⟨mL,l⟩;have My:=mL.size;cases ht:AV args[j] f with
  | none=>
   rw[ht] at l;rw[E.none i ht] at c;have l:e=gW (.fault 4):=l;subst l;refine bG ?_;exact c _ _ ⟨yF,J⟩
  | some p=>
   obtain⟨s1,k4⟩:=p;rw[ht] at l;obtain⟨he,Mz,MA,nR,Pe,h4⟩:=l;subst he;obtain⟨g1,g2,g3⟩:=ae2 _ _ _ _ _ ht t Gv;have DK:=r.fr mL lc lv;have asz:=fun b=>DK.own (b:=b);have aRp:=h4.ins.lt;refine cJ C ?_;have x:∀ b∈fz++g++nR,(Value.slice ra ls.length rc).ownBlock≠O b:=fun b a he=>by
    rcases a3Z.1 a with a | a
    .rcases a3Z.1 a with a | a
     .have:=(dS b he).1;have:=h.ins.lt _ a;omega
     grind
    grind
   refine DK.push zo zo fun v5 w5 RS iV yr=>?_;refine cJ B ?_;refine⟨_,?_,j+1,k4,Mz,MA,g++nR,o+iG args[j],ls++[s1],v5,zg,zg,zo,J,zg,?_,fun y K=>?_,iE.own yF iV yH,RS,E.step i ht,g1,zo,g2.trans F,fun y K=>?_,zg⟩
   .omega
   .rw[<- a36];exact h4.Ip iV yH x zg
   .exact yH
   grind
 .have i:j=args.length:=zo;subst i;have I:¬ (args.length:Int)<(dk.length:Int):=zo;rw[E.done] at c;have c:∀ n w',vn base mb vb vv fz cut w (O (f.put (if jx name=ls.length then mD else rA) name V ls)) n w'->R n w':=c;have L:=h.pR q a zd;refine jh B I L ?_;refine a3L (NR name) ?_;rintro e w4 ⟨rfl,rfl⟩;obtain⟨bl,Iw,pJ⟩:=r.sin ZO;have x:∀ b∈bl,b ∉ fz++g/\b≠vb:=fun b a=>by
   have a:=pJ b a;have:=(dS b a).1;refine⟨fun hm=>?_,zo⟩;rcases a3Z.1 hm with hm | hm
   .have:=h.ins.lt _ hm;omega
   grind
  by_cases A:jx name=(ls.length:Int)
  .rw[zip A] at c;refine jh C A L ?_;refine a3L (Mw D (wd:=mD) (nm:=name) (cv:=aj) (con:=V) (s:=ls) J Iw x (a3Q t.len zo)) ?_;rintro e w6 ⟨rfl,qu,Q,S,Ix⟩;refine bG ?_;refine c _ _ ⟨yF,J,Q,S,g++bl,fun y K=>?_,zg⟩;exact yH
  .rw[bU A] at c;refine jh C A L ?_;refine a3L (Mw D (wd:=rA) (nm:=name) (cv:=aj) (con:=V) (s:=ls) J Iw x (a3Q t.len zo)) ?_;rintro e w6 ⟨rfl,qu,Q,S,Ix⟩;refine bG ?_;refine c _ _ ⟨yF,J,Q,S,g++bl,fun y K=>?_,zg⟩;exact yH
end
section
variable{base mb vb:Nat}{cut:Int}
def aRy(ih:V4 base mb vb cut n){name:Bs}{args:List Ex}(hn:iX (.mk k' name args gz)<=n+1)(iT:k'=59){k:Mk}{cs:Nat}
  (h:fL base mb vb iv vv gr fz cut w k) (hk:GK N k) (hN:N+4*iX (.mk k' name args gz)<=90000) (sI:P.VK k) (dx:eZ k.vars.length M (.mk k' name args gz)) (hx:dL (fun _=>True) w v (.mk k' name args gz)) (D:cs<64) :
  Calls bdV 107 #[pp mb,v,zi (cs:Nat)] w (vn base mb vb vv fz cut w (lG (.mk k' name args gz) cs k)):=by
 suffices H:∀ R:Ending->Z->Prop,(∀ s w',vn base mb vb vv fz cut w (lG (.mk k' name args gz) cs k) s w'->R s w')->Calls bdV 107 #[pp mb,v,zi (cs:Nat)] w R from H _ fun _ _ h=>h;intro R d;unfold eZ at dx;obtain⟨o1,o2,o3,o4,o5,o6,o7,o8⟩:=dx;unfold dL at hx;obtain⟨b,av,pv,vs,us,rfl,-,o,gA,EU,lX,E⟩:=hx;have hc:=h.cell;have vf:=E.Ic;simp only[iX] at hn hN;subst iT;have CT:gz.length=2:=zo;obtain⟨pA,t,rfl⟩:∃ pA t,gz=[pA,t]:=by
  rcases gz with _ | ⟨a,_ | ⟨b,_ | ⟨c,r⟩⟩⟩<;>grind
 simp only[jG,a5s] at hn hN;simp only[a3N,a3V] at vf;obtain⟨u0,V5,V6⟩:=gD.Ds 0 zs E;have asM:=o8.at (j:=0) zs;obtain⟨u1,eu1,vh⟩:=gD.Ds 1 zs E;have F:=o8.at (j:=1) zs;obtain⟨pb,Dt,e3,e4,e5,MC⟩:=lX.at' (j:=0) zo;rw[V5] at MC;subst e3;have I:Dt[1]?=O u1:=by
  obtain⟨Zr,Zs,e3,-,e5',e6'⟩:=lX.at' (j:=1) zo;grind
 have mw:∀ q:Nat,q<us.length->(q:Int)<(us.length:Int):=zg;have qs:=mw 0 zo;have ZS:=mw 1 zo;have V7:((0:Nat):Int).toNat=0:=rfl;have L:((1:Nat):Int).toNat=1:=rfl;refine V3 ?_;unfold lG at d;rw[bU zd,bU zd,zip rfl] at d;refine cJ o ?_;have Pf:iE base mb vb w w:=yF;have j9:k.vars=k.vars:=rfl;have d:∀ s w',vn base mb vb vv fz cut w (Et [pA,t] cs k) s w'->R s w':=d;unfold Et at d;refine a3L (V0 h (a3Q hk.len zo) kr) ?_;rintro e w3 ⟨V8,iv3,asP,g3,f3,rfl,zh,h3,L3⟩;have u:=Pf.trans V8;have R5:=u.size;have rq:GK (N+1) (k.put kr [] V [0]):=hk.put (rE zd zs zo);have eO:=h.pR u o zd;have p3:=h.pR u e5 zd;refine dG eO @p3 qs (zA @V7 @MC) ?_;refine a3L (ih pA zo h3 rq zo (VK.of sI j9) (by show eZ k.vars.length M pA;grind) (h.bd u V6) D) ?_;rintro e w4 ⟨MD,f⟩;have Q:=u.trans MD;have My:=Q.size;cases z:lG pA cs (k.put kr [] V [0]) with
 | none=>
  rw[z] at f d;have f:e=gW (.fault 4):=f;subst f;exact d _ _ ⟨Q,J⟩
 | some i=>
 rw[z] at f d;dsimp only at d;obtain⟨rfl,Mz,MA,l,Pe,h4⟩:=f;obtain⟨yW,S⟩:=EA _ _ _ _ _ z rq (by show eZ k.vars.length M pA;grind) D zo;have S:i.vars=k.vars:=S.trans j9;have L4:=L3.fr h3 MD Pe;obtain⟨T,Ih⟩:=AZ _ _ _ _ z;have hi4:i.ins=k.ins++⟨kr,[],V,[0]⟩::T:=by rw[Ih];show(k.ins++[_])++T=_;grind
 have vF:fz++[g3]++l=fz++g3::l:=zg;refine bG ?_;refine a3L (V0 h4 (a3Q yW.len zo) jQ) ?_;rintro e w8 ⟨Wc,U,W,g8,f8,rfl,hg8,h8,L8⟩;have Pg:=Q.trans Wc;have hk8:GK ((N+1+4*iX pA)+1) (i.put jQ [] V [0]):=yW.put (rE zd zs zo);have L8b:=L4.fr h4 Wc (bl:=[g8]) (fun b o=>by rw[a35] at o;omega);have hi8:(i.put jQ [] V [0]).ins=k.ins++⟨kr,[],V,[0]⟩::(T++[⟨jQ,[],V,[0]⟩]):=by show i.ins++[_]=_;grind
 have fm:k.ins.length<i.ins.length:=zg;obtain⟨X,hX,XP⟩:=P.asH (m:=i) (w:=jQ) (j:=k.ins.length) fm;obtain⟨k9,A⟩:=cj ((i.put jQ [] V [0]).land k.ins.length);have J3:GK ((N+1+4*iX pA)+1) k9:=by rw[A];exact hk8.land zo _
 have Gz:k9.vars=k.vars:=by rw[A];exact S
 rw[<- A] at hX d;obtain⟨sb8,aRC⟩:=cj ((fz++[g3]++l)++[g8]);obtain⟨xb,yb,hf,hC⟩:=V1 h8 L8b hi8 J J (s1:=fz) (g:=g3) (s2:=l++[g8]) zs h.ins.Gw (K:=fun e x=>e = ai (aq #[])/\iE base mb vb w x/\bD (fun b _=>O g3=O b) w8 x/\(∃ cs,w8.heap[g3]?=aO cs 3)/\fL base mb vb U vv W ((fz++[g3]++l)++[g8]) cut x ((i.put jQ [] V [0]).land k.ins.length))
  (fun x B xD p=>⟨J,iE.own Pg B yH,B,xD,p⟩)
 subst hf;refine bG ?_;refine⟨zk,?_⟩;refine a3L hC ?_;rintro e x ⟨rfl,y,B,xD,p⟩;rw[<- A] at p;have sz9:=y.size;have L9:=L8.Ip (g:=g3) zs xD B;have Wd:=h.pR y o zd;have p9:=h.pR y e5 zd;refine dG Wd @p9 ZS (zA @L @I) ?_;refine a3L (ih t zo p J3 zo (VK.of sI Gz) (by rw[Gz];exact F) (h.bd y vh) D) ?_;rintro e ju ⟨We,f⟩;have E8:=y.trans We;have asR:=E8.size;rw[P.asG] at d;cases Ph:lG t cs k9 with
 | none=>
  rw[Ph] at f d;have f:e=gW (.fault 4):=f;subst f;exact d _ _ ⟨E8,J⟩
 | some O8=>
 rw[Ph] at f d;dsimp only at d;obtain⟨rfl,Wf,Wg,Pj,aib,rz⟩:=f;have L10:=L9.fr p We aib;obtain⟨r10,asS⟩:=AZ _ _ _ _ Ph;have aie:O8.ins=X++⟨jQ,[],V,[0]⟩::r10:=zg;have hcX:(fz++[g3]++l).length=yI X:=by
  have:=p.ins.Gw;rw[hX,ah0,a3M] at this;have e1:yI [(⟨jQ,[],V,[0]⟩:P.In)]=1:=rfl;grind
 obtain⟨xc,yc,eY,hC2⟩:=V1 rz L10 aie XP J (s1:=(fz++[g3]++l)) (g:=g8) (s2:=Pj) zs hcX (K:=fun e C=>e = ai (aq #[])/\iE base mb vb w C/\fL base mb vb Wf vv Wg ((fz++[g3]++l)++[g8]++Pj) cut C (O8.land i.ins.length))
  (fun C aii _ uO=>⟨J,iE.own E8 aii yH,uO⟩)
 subst eY;refine bG ?_;refine⟨zk,?_⟩;refine a3L hC2 ?_;rintro e C ⟨rfl,aae,uO⟩;refine bG ?_;refine d _ _ ⟨aae,J,Wf,Wg,[g3]++l++[g8]++Pj,fun b o=>?_,?_⟩
 .simp only[a3Z,a35] at o;grind
 grind
end
section
variable{base mb vb:Nat}{cut:Int}
def aRF(ih:V4 base mb vb cut n){name:Bs}{args:List Ex}(hn:iX (.mk k' name args gz)<=n+1)(iT:k'=63){k:Mk}{cs:Nat}
  (h:fL base mb vb iv vv gr fz cut w k) (hk:GK N k) (hN:N+4*iX (.mk k' name args gz)<=90000) (sI:P.VK k) (dx:eZ k.vars.length M (.mk k' name args gz)) (hx:dL (fun _=>True) w v (.mk k' name args gz)) (jr:cs<64) :
  Calls bdV 107 #[pp mb,v,zi (cs:Nat)] w (vn base mb vb vv fz cut w (lG (.mk k' name args gz) cs k)):=by
 suffices H:∀ R:Ending->Z->Prop,(∀ D w',vn base mb vb vv fz cut w (lG (.mk k' name args gz) cs k) D w'->R D w')->Calls bdV 107 #[pp mb,v,zi (cs:Nat)] w R from H _ fun _ _ h=>h;intro R i;unfold eZ at dx;obtain⟨o1,o2,o3,o4,o5,o6,o7,o8⟩:=dx;unfold dL at hx;obtain⟨b,av,pv,vs,us,rfl,-,l,gA,EU,lX,W⟩:=hx;have hc:=h.cell;have lv:=bn h.vars.2;have vf:=W.Ic;simp only[iX] at hn hN;subst iT;have CT:gz.length=3:=zo;obtain⟨pA,z,E,rfl⟩:∃ pA z E,gz=[pA,z,E]:=by
  rcases gz with _ | ⟨a,_ | ⟨b,_ | ⟨c,_ | ⟨d,r⟩⟩⟩⟩<;>grind
 simp only[jG,a5s] at hn hN;simp only[a3N,a3V] at vf;obtain⟨u0,V5,V6⟩:=gD.Ds 0 zs W;have asM:=o8.at (j:=0) zs;obtain⟨u1,eu1,vh⟩:=gD.Ds 1 zs W;have F:=o8.at (j:=1) zs;obtain⟨u2,eu2,Ge⟩:=gD.Ds 2 zs W;have aRG:=o8.at (j:=2) zs;obtain⟨pb,Dt,e3,e4,e5,MC⟩:=lX.at' (j:=0) zo;rw[V5] at MC;subst e3;have e61:Dt[1]?=O u1:=by
  obtain⟨Zr,Zs,e3,-,e5',e6'⟩:=lX.at' (j:=1) zo;grind
 have e62:Dt[2]?=O u2:=by
  obtain⟨Zr,Zs,e3,-,e5',e6'⟩:=lX.at' (j:=2) zo;grind
 have mw:∀ q:Nat,q<us.length->(q:Int)<(us.length:Int):=zg;have qs:=mw 0 zo;have ZS:=mw 1 zo;have hi2:=mw 2 zo;have V7:((0:Nat):Int).toNat=0:=rfl;have ei1:((1:Nat):Int).toNat=1:=rfl;have ei2:((2:Nat):Int).toNat=2:=rfl;refine V3 ?_;unfold lG at i;rw[bU zd,bU zd,bU zd,zip rfl] at i;refine cJ l ?_;refine a3L (Mv h hk.slots) ?_;rintro e w1 ⟨E6,f⟩;cases kx:k.slot with
 | none=>
  rw[kx] at f i;have f:e=gW (.fault 4):=f;subst f;refine bG ?_;exact i _ _ ⟨E6,J⟩
 | some p=>
 obtain⟨s1,k1⟩:=p;rw[kx] at f i;obtain⟨he,h1⟩:e = ai (zi (s1:Nat))/\fL base mb vb iv vv gr fz cut w1 k1:=f;subst he;obtain⟨q1,q2,q3,-⟩:=hk.slot kx;have sz1:=E6.size;refine bG ?_;refine Gu h1 (wd:=qR) (nm:=[]) (cv:=aj) (con:=V) (s:=[s1]) zs J (a3Q q1.len zo) zo ?_;rintro w2 J4 ⟨Pk,R7,h2⟩;have Pf:=E6.trans J4;have sz2:=Pf.size;have sY:GK (N+1) (k1.put qR [] V [s1]):=q1.put (rE zd zs zo);have j9:(k1.put qR [] V [s1]).vars=k.vars:=q3;obtain⟨o,RU⟩:=cj (k1.put qR [] V [s1]);rw[<- RU] at h2 sY j9;obtain⟨x,aij⟩:=cj (fz++[w1.heap.size]);rw[<- aij] at h2;refine bG ?_;have i:∀ D w',vn base mb vb vv fz cut w (Eu [pA,z,E] s1 cs o) D w'->R D w':=by rw[RU];exact i
 unfold Eu at i;refine a3L (V0 h2 (a3Q sY.len zo) kr) ?_;rintro e w3 ⟨V8,iv3,asP,g3,f3,rfl,zh,h3,L3⟩;have I:=Pf.trans V8;have R5:=I.size;have rq:GK (N+1+1) (o.put kr [] V [0]):=sY.put (rE zd zs zo);have eO:=h.pR I l zd;have p3:=h.pR I e5 zd;refine dG eO @p3 qs (zA @V7 @MC) ?_;refine a3L (ih pA zo h3 rq zo (VK.of sI j9) (by show eZ o.vars.length M pA;grind) (h.bd I V6) q2) ?_;rintro e y ⟨MD,f⟩;have mL:=I.trans MD;have My:=mL.size;cases xk:lG pA s1 (o.put kr [] V [0]) with
 | none=>
  rw[xk] at f i;have f:e=gW (.fault 4):=f;subst f;refine bG ?_;exact i _ _ ⟨mL,J⟩
 | some A=>
 rw[xk] at f i;dsimp only at i;obtain⟨rfl,Mz,MA,u,Pe,h4⟩:=f;obtain⟨yW,vW⟩:=EA _ _ _ _ _ xk rq (by show eZ o.vars.length M pA;grind) q2 zo;have vW:A.vars=k.vars:=vW.trans j9;have L4:=L3.fr h3 MD Pe;obtain⟨L,Ih⟩:=AZ _ _ _ _ xk;have hi4:A.ins=o.ins++⟨kr,[],V,[0]⟩::L:=by rw[Ih];show(o.ins++[_])++L=_;grind
 have vF:x++[g3]++u=x++g3::u:=zg;refine bG ?_;refine Gu h4 (wd:=kZ) (nm:=[]) (cv:=aj) (con:=V) (s:=[s1]) zs J (a3Q yW.len zo) zo ?_;rintro w5 Wh ⟨iv5,ail,h5⟩;have Q:=mL.trans Wh;have sz5:=Q.size;have ru:GK ((N+1+1+4*iX pA)+1) (A.put kZ [] V [s1]):=yW.put (rE zd zs zo);have yr:(A.put kZ [] V [s1]).vars=k.vars:=vW;have L5:=L4.fr h4 Wh (bl:=[y.heap.size]) (fun b l=>by rw[a35] at l;omega);have hi5:(A.put kZ [] V [s1]).ins=o.ins++⟨kr,[],V,[0]⟩::(L++[⟨kZ,[],V,[s1]⟩]):=by show A.ins++[_]=_;grind
 obtain⟨k5,aio⟩:=cj (A.put kZ [] V [s1]);rw[<- aio] at h5 ru yr hi5 i;have U5:=h.pR Q l zd;have p5:=h.pR Q e5 zd;unfold FV at i;refine dG U5 @p5 ZS (zA @ei1 @e61) ?_;refine a3L (ih z zo h5 ru zo (VK.of sI yr) (by rw[yr];exact F) (h.bd Q vh) jr) ?_;rintro e w6 ⟨Wi,f⟩;have qu:=Q.trans Wi;have sz6:=qu.size;cases K7:lG z cs k5 with
 | none=>
  rw[K7] at f i;have f:e=gW (.fault 4):=f;subst f;exact i _ _ ⟨qu,J⟩
 | some t=>
 rw[K7] at f i;dsimp only at i;obtain⟨rfl,uz,uA,B,aab,h6⟩:=f;obtain⟨S,BD⟩:=EA (M:=M) (nv:=k.vars.length) _ _ _ _ _ K7 ru F jr zo;have BD:t.vars=k.vars:=BD.trans yr;have L6:=L5.fr h5 Wi aab;obtain⟨r6,hr6⟩:=AZ _ _ _ _ K7;have hi6:t.ins=o.ins++⟨kr,[],V,[0]⟩::(L++[⟨kZ,[],V,[s1]⟩]++r6):=zg;refine bG ?_;refine a3L (V0 h6 (a3Q S.len zo) jQ) ?_;rintro e w8 ⟨Wc,iv8,ah4,g8,f8,rfl,hg8,h8,L8⟩;have Pg:=qu.trans Wc;have hk8:GK ((((N+1+1+4*iX pA)+1)+4*iX z)+1) (t.put jQ [] V [0]):=S.put (rE zd zs zo);have L8b:=L6.fr h6 Wc (bl:=[g8]) yH;have hi8:(t.put jQ [] V [0]).ins=o.ins++⟨kr,[],V,[0]⟩::((L++[⟨kZ,[],V,[s1]⟩]++r6)++[⟨jQ,[],V,[0]⟩]):=by show t.ins++[_]=_;grind
 have fm:o.ins.length<t.ins.length:=zg;obtain⟨X,hX,XP⟩:=P.asH (m:=t) (w:=jQ) (j:=o.ins.length) fm;obtain⟨k9,Gy⟩:=cj ((t.put jQ [] V [0]).land o.ins.length);have J3:GK ((((N+1+1+4*iX pA)+1)+4*iX z)+1) k9:=by rw[Gy];exact hk8.land zo _
 have Gz:k9.vars=k.vars:=by rw[Gy];exact BD
 rw[<- Gy] at hX i;obtain⟨sb8,aRC⟩:=cj ((x++[g3]++u++[y.heap.size]++B)++[g8]);obtain⟨xb,yb,hf,hC⟩:=V1 h8 L8b hi8 J J (s1:=x) (g:=g3) (s2:=(u++[y.heap.size]++B)++[g8]) zs h2.ins.Gw (K:=fun e T=>e = ai (aq #[])/\iE base mb vb w T/\bD (fun b _=>O g3=O b) w8 T/\(∃ cs,w8.heap[g3]?=aO cs 3)/\fL base mb vb iv8 vv ah4 ((x++[g3]++u++[y.heap.size]++B)++[g8]) cut T ((t.put jQ [] V [0]).land o.ins.length))
  (fun T CX xD C=>⟨J,iE.own Pg CX yH,CX,xD,C⟩)
 subst hf;refine bG ?_;refine⟨zk,?_⟩;refine a3L hC ?_;rintro e T ⟨rfl,U,CX,xD,C⟩;rw[<- Gy] at C;have sz9:=U.size;have L9:=L8.Ip (g:=g3) zs xD CX;have Wd:=h.pR U l zd;have p9:=h.pR U e5 zd;refine dG Wd @p9 hi2 (zA @ei2 @e62) ?_;refine a3L (ih E zo C J3 zo (VK.of sI Gz) (by rw[Gz];exact aRG) (h.bd U Ge) jr) ?_;rintro e ju ⟨We,f⟩;have E8:=U.trans We;have asR:=E8.size;rw[P.asG] at i;cases Ph:lG E cs k9 with
 | none=>
  rw[Ph] at f i;have f:e=gW (.fault 4):=f;subst f;exact i _ _ ⟨E8,J⟩
 | some O8=>
 rw[Ph] at f i;dsimp only at i;obtain⟨rfl,Wf,Wg,Pj,aib,rz⟩:=f;have L10:=L9.fr C We aib;obtain⟨r10,asS⟩:=AZ _ _ _ _ Ph;have aie:O8.ins=X++⟨jQ,[],V,[0]⟩::r10:=zg;have hcX:(x++[g3]++u++[y.heap.size]++B).length=yI X:=by
  have:=C.ins.Gw;rw[hX,ah0,a3M] at this;have e1:yI [(⟨jQ,[],V,[0]⟩:P.In)]=1:=rfl;exact yH
 obtain⟨xc,yc,eY,hC2⟩:=V1 rz L10 aie XP J (s1:=(x++[g3]++u++[y.heap.size]++B)) (g:=g8) (s2:=Pj) zs hcX (K:=fun e j4=>e = ai (aq #[])/\iE base mb vb w j4/\fL base mb vb Wf vv Wg ((x++[g3]++u++[y.heap.size]++B)++[g8]++Pj) cut j4 (O8.land t.ins.length))
  (fun j4 aii _ uO=>⟨J,iE.own E8 aii yH,uO⟩)
 subst eY;refine bG ?_;refine⟨zk,?_⟩;refine a3L hC2 ?_;rintro e j4 ⟨rfl,aae,uO⟩;refine bG ?_;refine i _ _ ⟨aae,J,Wf,Wg,[w1.heap.size]++[g3]++u++[y.heap.size]++B++[g8]++Pj,fun b l=>?_,?_⟩
 .simp only[a3Z,a35] at l;rcases l with(((((l | l) | l) | l) | l) | l) | l
  .omega
  .omega
  .exact yH
  .omega
  .exact yH
  .omega
  exact yH
 exact yH
end
section
variable{base mb vb:Nat}{cut:Int}
def aRM(ih:V4 base mb vb cut n){name:Bs}{args:List Ex}(hn:iX (.mk k' name args gz)<=n+1)(iT:k'=126){k:Mk}{cs:Nat}
  (h:fL base mb vb iv vv gr fz cut w k) (hk:GK N k) (hN:N+4*iX (.mk k' name args gz)<=90000) (sI:P.VK k) (dx:eZ k.vars.length M (.mk k' name args gz)) (hx:dL (fun _=>True) w v (.mk k' name args gz)) (jr:cs<64) :
  Calls bdV 107 #[pp mb,v,zi (cs:Nat)] w (vn base mb vb vv fz cut w (lG (.mk k' name args gz) cs k)):=by
 suffices H:∀ R:Ending->Z->Prop,(∀ m w',vn base mb vb vv fz cut w (lG (.mk k' name args gz) cs k) m w'->R m w')->Calls bdV 107 #[pp mb,v,zi (cs:Nat)] w R from H _ fun _ _ h=>h;intro R c;unfold eZ at dx;obtain⟨o1,o2,o3,o4,o5,o6,o7,o8⟩:=dx;unfold dL at hx;obtain⟨b,av,pv,vs,us,rfl,-,i,gA,EU,lX,oo⟩:=hx;have hc:=h.cell;have lv:=bn h.vars.2;have vf:=oo.Ic;simp only[iX] at hn hN;subst iT;have CT:gz.length=1:=zo;obtain⟨pA,rfl⟩:∃ pA,gz=[pA]:=by
  rcases gz with _ | ⟨a,_ | ⟨b,r⟩⟩<;>grind
 simp only[jG,a5s] at hn hN;simp only[a3N,a3V] at vf;obtain⟨u0,V5,V6⟩:=gD.Ds 0 zs oo;have asM:=o8.at (j:=0) zs;obtain⟨pb,Dt,e3,e4,e5,MC⟩:=lX.at' (j:=0) zo;rw[V5] at MC;subst e3;have mw:∀ q:Nat,q<us.length->(q:Int)<(us.length:Int):=zg;have qs:=mw 0 zo;have V7:((0:Nat):Int).toNat=0:=rfl;refine V3 ?_;unfold lG at c;rw[bU zd,bU zd,bU zd,bU zd,zip rfl] at c;refine cJ i ?_;refine a3L (Mv h hk.slots) ?_;rintro e w1 ⟨D,d⟩;cases E:k.slot with
 | none=>
  rw[E] at d c;have d:e=gW (.fault 4):=d;subst d;refine bG ?_;exact c _ _ ⟨D,J⟩
 | some p=>
 obtain⟨s1,u⟩:=p;rw[E] at d c;obtain⟨he,h1⟩:e = ai (zi (s1:Nat))/\fL base mb vb iv vv gr fz cut w1 u:=d;subst he;obtain⟨q1,q2,q3,-⟩:=hk.slot E;have sz1:=D.size;refine bG ?_;refine Gu h1 (wd:=qR) (nm:=[]) (cv:=aj) (con:=V) (s:=[s1]) zs J (a3Q q1.len zo) zo ?_;rintro w2 J4 ⟨Pk,R7,x⟩;have Pf:=D.trans J4;have sz2:=Pf.size;have F:GK (N+1) (u.put qR [] V [s1]):=q1.put (rE zd zs zo);have I:(u.put qR [] V [s1]).vars=k.vars:=q3;obtain⟨f,RU⟩:=cj (u.put qR [] V [s1]);rw[<- RU] at x F I;have a07:∀ b∈[w1.heap.size],w.heap.size<=b:=yH;obtain⟨y,L⟩:=cj (fz++[w1.heap.size]);rw[<- L] at x;refine bG ?_;have c:∀ m w',vn base mb vb vv fz cut w (Ev [pA] s1 f) m w'->R m w':=by rw[RU];exact c
 unfold Ev at c;refine a3L (V0 x (a3Q F.len zo) kr) ?_;rintro e w3 ⟨V8,iv3,asP,g3,f3,rfl,zh,h3,L3⟩;have o:=Pf.trans V8;have R5:=o.size;have rq:GK (N+1+1) (f.put kr [] V [0]):=F.put (rE zd zs zo);have eO:=h.pR o i zd;have p3:=h.pR o e5 zd;refine dG eO @p3 qs (zA @V7 @MC) ?_;refine a3L (ih pA zo h3 rq zo (VK.of sI I) (by show eZ f.vars.length M pA;grind) (h.bd o V6) q2) ?_;rintro e z ⟨MD,d⟩;have Q:=o.trans MD;have My:=Q.size;cases A:lG pA s1 (f.put kr [] V [0]) with
 | none=>
  rw[A] at d c;have d:e=gW (.fault 4):=d;subst d;refine bG ?_;exact c _ _ ⟨Q,J⟩
 | some l=>
 rw[A] at d c;dsimp only at c;obtain⟨rfl,Mz,MA,t,Pe,h4⟩:=d;obtain⟨yW,S⟩:=EA _ _ _ _ _ A rq (by show eZ f.vars.length M pA;grind) q2 zo;have S:l.vars=k.vars:=S.trans I;have L4:=L3.fr h3 MD Pe;obtain⟨B,Ih⟩:=AZ _ _ _ _ A;have hi4:l.ins=f.ins++⟨kr,[],V,[0]⟩::B:=by rw[Ih];show(f.ins++[_])++B=_;grind
 have vF:y++[g3]++t=y++g3::t:=zg;refine bG ?_;refine Gu h4 (wd:=kZ) (nm:=[]) (cv:=aj) (con:=V) (s:=[s1]) zs J (a3Q yW.len zo) zo ?_;rintro w5 Wh ⟨iv5,ail,T⟩;have qt:=Q.trans Wh;have ru:GK ((N+1+1+4*iX pA)+1) (l.put kZ [] V [s1]):=yW.put (rE zd zs zo);have yr:(l.put kZ [] V [s1]).vars=k.vars:=S;have L5:=L4.fr h4 Wh (bl:=[z.heap.size]) (fun b i=>by rw[a35] at i;omega);have U:(l.put kZ [] V [s1]).ins=f.ins++⟨kr,[],V,[0]⟩::(B++[⟨kZ,[],V,[s1]⟩]):=by show l.ins++[_]=_;grind
 obtain⟨W,X⟩:=cj (l.put kZ [] V [s1]);rw[<- X] at T ru yr U c;refine bG ?_;refine a3L (Mw T (wd:=mD) (nm:=[102,97,105,108]) (cv:=aj) (con:=V) (s:=[]) (sv:=bW) (bl:=[]) J (.inl zg) yH (a3Q ru.len zo)) ?_;rintro e w6 ⟨rfl,Wi,uz,uA,h6⟩;have qu:=qt.trans Wi;have L6:=L5.fr T Wi (bl:=[]) (fun b i=>by cases i);have hi6:(W.put mD [102,97,105,108] V []).ins=f.ins++⟨kr,[],V,[0]⟩::(B++[⟨kZ,[],V,[s1]⟩]++[⟨mD,[102,97,105,108],V,[]⟩]):=by show W.ins++[_]=_;grind
 obtain⟨xb,yb,hf,hC⟩:=V1 h6 L6 hi6 J J (s1:=y) (g:=g3) (s2:=t++[z.heap.size]++[]) zs x.ins.Gw (K:=fun e C=>e = ai (aq #[])/\iE base mb vb w C/\fL base mb vb uz vv uA (y++[g3]++t++[z.heap.size]++[]) cut C ((W.put mD [102,97,105,108] V []).land f.ins.length))
  (fun C BE _ h7=>⟨J,iE.own qu BE yH,h7⟩)
 subst hf;refine bG ?_;refine⟨zk,?_⟩;refine a3L hC ?_;rintro e C ⟨rfl,GA,h7⟩;refine bG ?_;refine c _ _ ⟨GA,J,uz,uA,[w1.heap.size]++[g3]++t++[z.heap.size],fun b i=>?_,?_⟩<;>grind
end
def R8{base mb vb:Nat}{cut:Int}:∀ n,V4 base mb vb cut n
 | 0,x,c=>by have:=aoC x;omega
 | n+1,.mk kind name args parts,c=>by
  intro h hk d e b hx f;have o:=b;unfold eZ at o;rcases o.2.1 with a | a | a | a | a | a
  .exact asL (R8 n) c (.inl a) h hk d e b hx f
  .exact asL (R8 n) c (.inr a) h hk d e b hx f
  .exact aRy (R8 n) c a h hk d e b hx f
  .exact aRF (R8 n) c a h hk d e b hx f
  .exact aRM (R8 n) c a h hk d e b hx f
  .exact aRx a h hk d e b hx
open Go.Proofs.YtoegidfbnkaabaaGreatDoor.Sx
section
variable{p0 p1 p2 p3 p4 p5 p6 p7:Y}{w:Z}{R:Ending->Z->Prop}
def aRN:=cz w R [p0,p1] (gd [(3,[24]),(8,[39]),(13,[50]),(21,[89]),(26,[104])] [(17006,[]),(35002,[])] [(32,9)] [(15,[9,0,1,2,3,4,5,6,7,8]),(29,[9,0,1,2,3,4,5,6,7,8])] [] [] [1,25,40,44,51,90,105,114,144]) Tryz.func80
end
def P.GK.asV{s:Nat}{k:Mk}(h:GK N k)(b:k.slot=O (s,Ae)):GK (N+1) (Mk.put { Ae with vars:=Ae.vars.set j (O s) } P.oe [] V [s]):=by
 obtain⟨g1,g2,g3,-⟩:=h.slot b;have hv:GK N { Ae with vars:=Ae.vars.set j (O s) }:=⟨g1.len,g1.ins,g1.slots,fun y a t ht=>by
  rcases List.mem_or_eq_of_mem_set a with a | a
  .exact g1.vars y a t ht
  grind⟩
 exact hv.put (rE zd zs zo)
section
variable{base mb vb:Nat}{iv vv:Y}{gr:List Y}{sb:List Nat}{cut:Int}{w:Z}{k:Mk}
def asW(h:fL base mb vb iv vv gr sb cut w k)(hk:GK N k)(hN:N<=90000)(hj:j<k.vars.length)(OP:k.vars.length<=12){K:Z->Prop}(hR:k.slot=V->∀ w',iE base mb vb w w'->R (gW (.fault 4)) w')
  (hK:∀ s a w',k.slot=O (s,a)->iE base mb vb w w'->(∃ uw uy Af,fL base mb vb uw vv uy Af cut w' (Mk.put { a with vars:=a.vars.set j (O s) } P.oe [] V [s]))->K w') :
  HD fun S=>S w.drew /\
   NC (pp mb) fun o=>
   vq bdV (Instr.fieldAt 247 o 1) S (fun q=>
   vq bdV (a32 45 q) S (fun r=>
   CA bdV 104 #[pp mb] w.drew (fun t u=>
   S u /\
   RD bdV (Instr.indexAt 45 r (zi (j:Int))) u (fun x=>
   WU bdV (Instr.storeAt 3 x t) u (fun d=>
   NC (pp mb) fun y=>
   RD bdV (Instr.fieldAt 247 y 1) d (fun z=>
   RD bdV (a32 45 z) d (fun B=>
   RD bdV (Instr.indexAt 45 B (zi (j:Int))) d (fun C=>
   RD bdV (a32 3 C) d (fun D=>
   WR bdV (Instr.buildSlice 45 1 #[(0,D)]) d (fun E Ow=>
   CA bdV 105 #[pp mb,(aW [110,101,119]),(aW []),aj,E] Ow (fun _ Ox=>K Ox) (PC R)) (PX R)) (PX R)) (PX R)) (PX R)) (PX R)) (PXA R)) NX) (M1 R))):=by
 have hc:=h.cell;obtain⟨U,j9⟩:=h.vars;have lv:=bn j9;have W:Ext w w.drew:=yF;have F:(j:Int).toNat=j:=zo;have H:(j:Int)<(k.vars.length:Int):=zo;refine⟨fun w'=>∃ n i c,w'.heap[mb]?=aO #[n,i,vv,c] 247,yH,?_⟩;rw[jI];refine cQ (pq mb 2) (fun w' X=>eR) ?_;refine cQ vv (fun w' X=>by
  obtain⟨n,i,c,I⟩:=X;rw[U] at I ⊢;have:=bn I;simp (disch:=first|assumption|omega|simp only[zS]<;>omega|decide) only[zB,simprocAttr,kN,I]) ?_
 refine a3L (Mv (h.ext W) hk.slots) ?_;rintro e L ⟨qt,b⟩;have f:=(bD.ea W).trans qt;cases g:k.slot with
 | none=>
  rw[g] at b;have b:e=gW (.fault 4):=b;subst b;exact fun _=>hR g _ f
 | some p=>
  obtain⟨s1,a⟩:=p;rw[g] at b;obtain⟨he,M⟩:e = ai (zi (s1:Nat))/\fL base mb vb iv vv gr sb cut L a:=b;subst he;obtain⟨q1,q2,q3,-⟩:=hk.slot g;refine⟨⟨_,_,_,M.cell⟩,?_⟩;have Hc:j<a.vars.length:=zg;obtain⟨s2,s3⟩:=M.ass (s:=s1) Hc (by have:=f.size;omega);have l:=M.vars.2;have Mx:(a.vars.map uu).toArray.size=a.vars.length:=zs;obtain⟨A,hA⟩:=cj ((a.vars.map uu).toArray);rw[<- hA] at l s2 s3 Mx;have hjA:j<A.size:=zo;obtain⟨w6,m⟩:=cj (bR L vb (ah (A.setIfInBounds j (zi (s1:Int))) 3 (0,0)));have g6:w6.heap[vb]?=aO (A.setIfInBounds j (zi (s1:Int))) 3:=yH;rw[<- m] at s2 s3;have Q:=s2.cell;rw[U] at Q ⊢;have jR:(A.setIfInBounds j (zi (s1:Int)))[j]?=O (zi (s1:Int)):=zg;refine jh H l @F ?_;rw[<- m];refine dG Q @g6 jR (zA @F H) ?_;rw[<- m];refine dG Q @g6 jR (zA @F H) ?_;rw[<- m];have T:w6.heap.size=L.heap.size:=yH;rw[<- T];refine Gu s2 (wd:=P.oe) (nm:=[]) (cv:=aj) (con:=V) (s:=[s1]) zs J (a3Q q1.len zo) (yH) ?_;rintro w7 GA ⟨iv7,a1a,h7⟩;exact hK s1 a w7 g yF zg
end
def sJ(w:Z)(mb:Nat)(c:Co):Prop:=∃ base vb iv vv gr sb cut k,fL base mb vb iv vv gr sb cut w k/\k.slots=c.slots/\k.ins=c.ins
theorem sJ.ext{w w':Z}{mb:Nat}{c:Co}(h:sJ w mb c)(a:Ext w w'):sJ w' mb c:=by
 obtain⟨base,vb,iv,vv,gr,sb,cut,k,b,d⟩:=h;exact⟨base,vb,iv,vv,gr,sb,cut,k,b.ext a,d⟩
theorem iE.toExt(a:Ext w0 w)(c:iE base mb pb w w')(hm:w0.heap.size<=mb)(hv:w0.heap.size<=pb)(f:w0.heap.size<=base):Ext w0 w':=
 ⟨c.os.trans a.os,c.tape.trans a.tape,c.output.trans a.output,a3Q a.size c.size,fun b o d _=>c.block _ _ (a.ext _ _ d) (by
  have:=bn d;rintro (e | e | ⟨e,-⟩)<;>omega)⟩
def asZ{w:Z}{b nv:Nat}{nm:Bs}{av bv Wj:Y}{args:List Ex}{body:Bd}{M:Nat}(q:Bool)(hb:w.heap[b]?=aO #[aW nm,av,bv,Wj] 86)
  (xm:∃ a c,Wj = .slice a nv c) (gA:lV (fun _=>True) w av args) (mZ:dL (fun _=>True) w bv body) (hx:fj nv args) (Er:args.length<=4) (jC:fJ args<=2900) (fc:eZ nv M body) (R9:iX body<=5800) (nh:nv<=12) :
  Calls bdV 80 #[pp b,.bool q] w fun e w'=>Ext w w'/\match xt args body nv q with
   | none=>e=gW (.fault 4)
   | some c=>∃ mb,e = ai (au (O ⟨mb,0,V⟩))/\w.heap.size<=mb/\sJ w' mb c:=by
 suffices H:∀ R:Ending->Z->Prop,(∀ e w',(Ext w w'/\match xt args body nv q with
   | none=>e=gW (.fault 4)
   | some c=>∃ mb,e = ai (au (O ⟨mb,0,V⟩))/\w.heap.size<=mb/\sJ w' mb c)->R e w')->Calls bdV 80 #[au (O ⟨b,0,V⟩),.bool q] w R from H _ yH
 intro R g;obtain⟨va,vc,rfl⟩:=xm;refine aRN ?_;have a1b:(nv:Int) ≥ 0:=zo;refine cJ hb ?_;rw[size_alloc];obtain⟨wA,rv⟩:=cj ((w.alloc (ah (madeCells #[zi 0] nv) 3 (0,0))).alloc (ah #[zi 0,bW,cS w.heap.size nv nv,zi 0] 247));rw[<- rv];have zl:Ext w wA:=yF;have sA:wA.heap.size=w.heap.size+1+1:=yH;have gA1:wA.heap[w.heap.size]?=aO (madeCells #[zi 0] nv) 3:=yH;have gA2:wA.heap[w.heap.size+1]?=aO #[zi 0,bW,cS w.heap.size nv nv,zi 0] 247:=yH;clear rv;obtain⟨mb,Mg⟩:=cj (w.heap.size+1);obtain⟨vb,zj⟩:=cj w.heap.size;obtain⟨vv,T⟩:=cj (Value.slice (O ⟨vb,0,V⟩) nv nv);rw[<- Mg];rw[<- Mg,<- zj] at gA2;rw[<- zj] at gA1;refine⟨fun m z w'=>∃ j A,z 24=zi ((j:Nat):Int)/\j<=nv/\m=nv-j/\Ext w w'/\w'.heap[mb]?=aO #[zi 0,bW,cS vb nv nv,zi 0] 247/\w'.heap[vb]?=aO A 3/\A.size=nv/\∀ i,i<j->A[i]?=O (zi (-1)),
  ⟨_,0,_,J,a33 _,J,zl,gA2,gA1,size_madeCells ..,zg⟩,?_⟩
 intro m z d w3 C;refine toPr ?_;obtain⟨j,A,h24,hj,rfl,eI,gm3,gv3,Mx,hAj⟩:=C;have lm3:=bn gm3;have lv3:=bn gv3;by_cases fm:j<nv
 .have kf:((j:Nat):Int).toNat=j:=zo;have h:((j:Nat):Int)<(nv:Int):=zo;refine dG h24 h @gm3 (zA @gv3 @kf) ?_;refine⟨_,?_,j+1,A.setIfInBounds j (zi (-1)),zg,zo,J,?_,J,zg,fun i hi=>?_⟩
  .omega
  .exact yF
  grind
 have JC:j=nv:=zo;subst JC;have h:¬ ((j:Nat):Int)<((j:Nat):Int):=zo;have Wl:A=((a4r j (V:Option Nat)).map uu).toArray:=by
  grind [Array.ext,Array.getElem?_eq_getElem,uu]
 subst Wl;have U:fL vb mb vb bW vv [] [] 0 w3 ⟨0,[],a4r j V⟩:=⟨yH,zo,⟨J,yH⟩,⟨J,J⟩,yH,a3O _,zg,List.nodup_nil⟩;obtain⟨L,as6⟩:∃ y:Mk,y=⟨0,[],a4r j V⟩:=⟨_,J⟩;have x7:GK 0 L:=by rw[as6];exact⟨a3O _,zg,zs,zg⟩
 have QP:L.vars.length=j:=zg;unfold xt at g;rw[<- as6] at U g;have hs0:L.slots=0:=zg;have qs:L.ins=[]:=zg;obtain⟨Wm,gA,my⟩:=gA;have wN:=my.ER;obtain⟨aa,ac,rfl⟩:=gA.sl;have eO:=eI.ext _ _ hb;refine jh h24 h eO ?_;refine⟨fun m z w'=>∃ i ls x,z 39=zi ((i:Nat):Int)/\i<=args.length/\m=args.length-i/\ls=a4g i/\P.DJ L i ls x/\fL vb mb vb bW vv [] [] 0 w' x/\iE vb mb vb w3 w'/\GK 0 x/\x.vars=L.vars/\x.slots=i,
  ⟨_,0,[],L,J,a33 _,J,J,P.DJ.zero L,U,yF,x7,J,hs0⟩,?_⟩
 intro m z2 d2 w4 C;refine toPr ?_;obtain⟨i,ls,x,W,hi,rfl,Hv,iW,h1,mL,jY,kR,dZ⟩:=C;have My:=mL.size;by_cases mw:i<args.length
 .have h:((i:Nat):Int)<(Wm.length:Int):=zo;refine dA W h ?_;refine a3L (Mv h1 jY.slots) ?_;rintro e w5 ⟨qt,f⟩;cases D:x.slot with
  | none=>
   rw[D] at f;rw[iW.none D mw] at g;have f:e=gW (.fault 4):=f;subst f;exact g _ _ ⟨(by grind [iE.toExt,bD.trans]),J⟩
  | some p=>
   obtain⟨s1,r⟩:=p;rw[D] at f;obtain⟨he,h2⟩:e = ai (zi (s1:Nat))/\fL vb mb vb bW vv [] [] 0 w5 r:=f;subst he;obtain⟨q1,q2,q3,q4,q5,q6⟩:=jY.slot D;refine cJ W ?_;refine⟨_,?_,i+1,ls++[s1],r,zg,zo,J,by grind [List.range_succ],iW.step D,h2,yF,q1,q3.trans kR,zo⟩;omega
 have LA:i=args.length:=zo;subst LA;subst Hv;have h:¬ (args.length:Int)<(Wm.length:Int):=zo;rw[iW.done] at g;dsimp only at g;refine dA W h ?_;refine⟨fun _ w'=>∃ r Pk R7 wo,fL vb mb vb Pk vv R7 wo 0 w' r/\iE vb mb vb w3 w'/\(if q=G then x.news 0 j else O x)=O r/\GK 12 r/\r.vars.length=j,?_,?_⟩
 .cases q with
  | false=>
   refine bG ?_;exact⟨x,_,_,_,h1,mL,J,(by grind [GK.up]),zg⟩
  | true=>
   have jz:=h1.cell;rw[T] at jz;have lc1:=bn jz;refine cJ jz ?_;refine⟨fun m z w'=>∃ i k N Q E,z 50=zi ((i:Nat):Int)/\i<=j/\m=j-i/\fL vb mb vb N vv Q E 0 w' k/\iE vb mb vb w3 w'/\x.news 0 j=k.news i (j-i)/\GK i k/\k.vars.length=j,
    ⟨_,0,x,_,_,_,J,a33 _,J,h1,mL,J,jY,zg⟩,?_⟩
   intro m z5 d5 w5 C;refine toPr ?_;obtain⟨i,k,N,Q,E,X,hi,rfl,h5,qt,heq,ru,yr⟩:=C;by_cases oc:i<j
   .have h:((i:Nat):Int)<((j:Nat):Int):=zo;have e1:j-i=(j-(i+1))+1:=zo;refine dA X h ?_;rw[X];refine asW h5 ru zo zo zo (fun B w6 qu=>?_) fun s r w6 B qu hM6=>?_
    .rw[e1,Mk.news,B] at heq;rw[zip J,heq] at g;exact g _ _ ⟨(by grind [iE.toExt,bD.trans]),J⟩
    .obtain⟨uz,uA,sb6,h6⟩:=hM6;rw[e1,Mk.news,B] at heq;refine bG ?_;refine⟨_,?_,i+1,_,uz,uA,sb6,zg,zo,J,h6,yF,heq,ru.asV B,?_⟩
     .omega
     .obtain⟨-,-,q3,-⟩:=ru.slot B;show(r.vars.set i (O s)).length=j;grind
   .have oc:i=j:=zo;subst oc;have h:¬ ((i:Nat):Int)<((i:Nat):Int):=zo;rw[Nat.sub_self,Mk.news] at heq;refine dA X h ?_;exact⟨k,N,Q,E,h5,qt,heq,ru.up zo,yr⟩
 rintro sq w6 ⟨r,Pk,R7,wo,h2,qu,ja,sY,j9⟩ dq;rw[ja] at g;dsimp only at g;have sz6:=qu.size;refine a3L (Mv h2 sY.slots) ?_;rintro e w7 ⟨aRR,f⟩;have GA:=qu.trans aRR;have sz7:=GA.size;cases D:r.slot with
 | none=>
  rw[D] at f g;have f:e=gW (.fault 4):=f;subst f;refine bG ?_;exact g _ _ ⟨(by grind [iE.toExt]),J⟩
 | some p=>
 obtain⟨cs,S⟩:=p;rw[D] at f g;dsimp only at g;obtain⟨he,h7⟩:e = ai (zi (cs:Nat))/\fL vb mb vb Pk vv R7 wo 0 w7 S:=f;subst he;obtain⟨q1,q2,q3,-⟩:=sY.slot D;have vJ:=h7.cell;have lc7:=bn vJ;obtain⟨w8,MG⟩:=cj (bR w7 mb (ah #[zi (S.slots:Nat),Pk,vv,zi (cs:Int)] 247));have Zb:bD (fun b _=>b=mb) w7 w8:=yF;have h8:fL vb mb vb Pk vv R7 wo (cs:Int) w8 S:=h7.own Zb (n:=S.slots) (yH);have Pg:iE vb mb vb w3 w8:=GA.trans (Zb.mono fun b o _ e=>.inl e);have hc8:=h8.cell;refine cJ vJ ?_;rw[<- MG];have sw8:w8.heap.size=w7.heap.size:=yH;rw[<- sw8];refine Gu h8 (wd:=pL) (nm:=[]) (cv:=aj) (con:=V) (s:=[cs]) zs J (a3Q q1.len zo) zo ?_;rintro w9 aRT ⟨iv9,aRV,h9⟩;have Cc:=Pg.trans aRT;have J3:GK 13 (S.put pL [] V [cs]):=q1.put (rE zd zs zo);have Gz:(S.put pL [] V [cs]).vars.length=j:=by show S.vars.length=j;grind
 obtain⟨k9,Gy⟩:=cj (S.put pL [] V [cs]);rw[<- Gy] at h9 J3 Gz g;obtain⟨sb9,aRX⟩:=cj (wo++[w8.heap.size]);rw[<- aRX] at h9;have Wd:=U.pR Cc eO zd;refine cJ Wd ?_;refine⟨fun m z w'=>∃ i k N Q E Ni,z 89=zi ((i:Nat):Int)/\i<=args.length/\m=args.length-i/\fL vb mb vb N vv Q E (cs:Int) w' k/\iE vb mb vb w3 w' /\
   tG args (a4g args.length) k9=tG (args.drop i) ((a4g args.length).drop i) k/\GK Ni k/\Ni+fJ (args.drop i)<=13+fJ args/\k.vars.length=j,
  ⟨_,0,k9,iv9,aRV,sb9,13,J,a33 _,J,h9,Cc,J,J3,a3O _,Gz⟩,?_⟩
 intro m z10 d10 ju C;refine toPr ?_;obtain⟨i,k,N,Q,E,Ni,h89,hi,rfl,rz,E8,heq,aix,a1k,as7⟩:=C;have asR:=E8.size;by_cases mw:i<args.length
 .have qV:i<Wm.length:=zo;obtain⟨sbx,JJ,e3,e4,e5,e6⟩:=gA.at' qV;obtain⟨u,e7,hu⟩:=eS.at' i mw my;rw[e7] at e6;simp only[a34,true_and] at e3;obtain⟨rfl,rfl⟩:=e3;have kf:((i:Nat):Int).toNat=i:=zo;have J2:=U.pR E8 (eI.ext _ _ e5) zo;have h:((i:Nat):Int)<(Wm.length:Int):=zo;refine dG h89 h @J2 (zA @e6 @kf) ?_;have Gv:ij k.vars.length args[i]:=by rw[as7];exact hx.at mw
  have Ra:=VX args i mw;have hir:i<(a4g args.length).length:=zg;have Oy:eQ (fun _=>True) w3 u args[i]:=eQ.mono zg (by grind [bD.ext]) _ _ hu;refine a3L (asu _ args[i] (a3O _) rz aix zo Gv (U.ex E8 Oy) zo) ?_;rintro e j4 ⟨aae,f⟩;have dI:tG (args.drop i) ((a4g args.length).drop i) k=match zy args[i] i k with
    | none=>V
    | some m=>tG (args.drop (i+1)) ((a4g args.length).drop (i+1)) m:=by
   rw[a3U mw,a3U hir,tG,List.getElem_range];rfl
  cases ht:zy args[i] i k with
  | none=>
   rw[ht] at f dI;rw[heq,dI] at g;have f:e=gW (.fault 4):=f;subst f;exact g _ _ ⟨(by grind [iE.toExt,bD.trans]),J⟩
  | some k6=>
   rw[ht] at f dI;obtain⟨he,uz,uA,DM,aab,Ix⟩:=f;subst he;obtain⟨g1,g2⟩:=ae0 _ _ _ _ _ ht aix zo Gv;refine cJ h89 ?_;refine⟨_,?_,i+1,k6,uz,uA,E++DM,Ni+iG args[i],zg,zo,J,Ix,yF,heq.trans dI,g1,zo,zo⟩;omega
 have LA:i=args.length:=zo;subst LA;have h:¬ (args.length:Int)<(Wm.length:Int):=zo;rw[heq,List.drop_length,tG] at g;dsimp only at g;have as8:=rz.cell;rw[T] at as8;have hNi:Ni<=2913:=zo;refine jh h89 h as8 ?_;refine⟨fun m z w'=>∃ i l N Q E,z 104=zi ((i:Nat):Int)/\i<=j/\m=j-i/\fL vb mb vb N vv Q E (cs:Int) w' l/\iE vb mb vb w3 w'/\k.rest 0 j=l.rest i (j-i)/\GK (Ni+i) l/\l.vars.length=j/\∀ q,q<i->∃ t:Nat,l.vars[q]?=O (O t),
  ⟨_,0,k,_,_,_,J,a33 _,J,rz,E8,J,aix,as7,zg⟩,?_⟩
 intro m z12 d12 oR C;refine toPr ?_;obtain⟨i,l,iv5,ail,sb5,F,hi,rfl,vH,J4,heq,MH,OZ,hvq⟩:=C;have Wn:=vH.cell;obtain⟨a1m,I⟩:=vH.vars;rw[T] at Wn;have a1n:=bn Wn;have a1o:=bn I;have a1p:=J4.size;by_cases oc:i<j
 .have h:((i:Nat):Int)<((j:Nat):Int):=zo;have ein:((i:Nat):Int).toNat=i:=zo;have e1:j-i=(j-(i+1))+1:=zo;have K:(l.vars.map uu).toArray[i]?=O (uu l.vars[i]):=zg;have Mx:(l.vars.map uu).toArray.size=j:=zg;obtain⟨A,hA⟩:=cj ((l.vars.map uu).toArray);rw[<- hA] at I K Mx;have rO:l.vars.getD i V=l.vars[i]:=zg;cases f:l.vars[i] with
  | some t=>
   rw[f] at K rO;have K:A[i]?=O (zi (t:Int)):=K;rw[e1,Mk.rest,rO] at heq;have La:¬ (t:Int)<0:=zo;refine dG F h Wn (zA I (zA K (zA @ein La))) ?_;refine⟨_,?_,i+1,l,iv5,ail,sb5,zg,zo,J,vH,J4,heq,(by grind [GK.up]),OZ,fun q hq=>?_⟩
   .omega
   .by_cases rL:q=i
    .grind
    .exact hvq q zo
  | none=>
   rw[f] at K rO;have K:A[i]?=O (zi (-1)):=K;rw[e1,Mk.rest,rO] at heq;refine dG F h Wn (zA I (zA K @ein)) ?_;rw[F];refine asW vH MH zo zo zo (fun B mJ aR0=>?_) fun s r mJ B aR0 aR1=>?_
   .rw[B] at heq;rw[heq] at g;exact g _ _ ⟨(by grind [iE.toExt,bD.trans]),J⟩
   .obtain⟨uz,uA,sb6,h6⟩:=aR1;rw[B] at heq;obtain⟨-,-,Gd,-⟩:=MH.slot B;refine bG ?_;refine⟨_,?_,i+1,_,uz,uA,sb6,zg,zo,J,h6,yF,heq,MH.asV B,?_,fun q hq=>?_⟩
    .omega
    .show(r.vars.set i (O s)).length=j;grind
    .show ∃ t:Nat,(r.vars.set i (O s))[q]?=O (O t);by_cases rL:q=i
     .grind
     .rw[List.getElem?_set_ne zo,Gd];exact hvq q zo
 have oc:i=j:=zo;subst oc;have h:¬ ((i:Nat):Int)<((i:Nat):Int):=zo;rw[Nat.sub_self,Mk.rest] at heq;rw[heq] at g;dsimp only at g;have sI:P.VK l:=fun q hq=>zg;have aR2:=U.pR J4 eO zd;have dI:Ext oR oR.drew:=yF;refine dG F h aR2 Wn ?_;have nZ:dL (fun _=>True) oR.drew bv body:=dL.mono zg yH _ _ (U.bd J4 (dL.mono zg (by grind [bD.ext]) _ _ mZ));refine a3L (R8 _ body zo (vH.ext dI) MH zo sI (by rw[OZ];exact fc) nZ (cs:=cs) zo) ?_;rintro e Gt ⟨aR3,f⟩;have ahV:=J4.trans ((bD.ea dI).trans aR3);cases ht:lG body cs l with
 | none=>
  rw[ht] at f g;have f:e=gW (.fault 4):=f;subst f;exact g _ _ ⟨(by grind [iE.toExt]),J⟩
 | some k6=>
 rw[ht] at f g;dsimp only at g;obtain⟨rfl,a1q,a1r,a1s,a1t,DE⟩:=f;obtain⟨atb,-⟩:=EA (M:=M) (nv:=l.vars.length) _ _ _ _ _ ht MH (by rw[OZ];exact fc) zo zo;refine bG ?_;refine⟨fun _ w'=>iE vb mb vb w3 w'/\sJ w' mb ⟨k6.slots,(k6.put (if q=G then [100,111,110,101] else [114,101,116]) [] V []).ins⟩,?_,?_⟩
 .cases q with
  | true=>
   refine bG ?_;refine a3L (Mw DE (wd:=[100,111,110,101]) (nm:=[]) (cv:=aj) (con:=V) (s:=[]) (sv:=bW) (bl:=[]) J (.inl zg) zg (a3Q atb.len zo)) ?_;rintro e Mu ⟨rfl,atc,aR4,aR5,VW⟩;refine bG ?_;exact⟨yF,_,_,_,_,_,_,_,_,VW,J,J⟩
  | false=>
   refine bG ?_;refine a3L (Mw DE (wd:=[114,101,116]) (nm:=[]) (cv:=aj) (con:=V) (s:=[]) (sv:=bW) (bl:=[]) J (.inl zg) zg (a3Q atb.len zo)) ?_;rintro e Mu ⟨rfl,atc,aR4,aR5,VW⟩;refine bG ?_;exact⟨yF,_,_,_,_,_,_,_,_,VW,J,J⟩
 .rintro s6 Mu ⟨atc,vR⟩ d6;refine bG ?_;exact g _ _ ⟨(by grind [iE.toExt]),mb,J,zo,vR⟩
theorem jT.pR(a:jT wb w w'){T:Nat}(c:w.heap[b]?=aO cs T)(d:T≠5)(f:b≠wb):w'.heap[b]?=aO cs T:=a.block _ _ c (by
 rintro (e | ⟨-,cs',z,e⟩)<;>grind)
theorem qZ.ne(h:qZ w wb out){T:Nat}(a:w.heap[b]?=aO cs T)(c:T≠100):b≠wb:=fun e=>by
 obtain⟨d,buf,-,f,-⟩:=h;grind
def yJ:List Bs->Bs
 | []=>[]
 | w::r=>32::(w++yJ r)
theorem aai:∀ (l:List Bs),(l.map fun w=>(32:UInt8)::w).flatten=yJ l
 | []=>rfl
 | w::r=>by rw[List.map_cons,List.flatten_cons,aai r];rfl
theorem aiy:∀ (a b:List Bs),yJ (a++b)=yJ a++yJ b
 | [],b=>rfl
 | w::r,b=>by rw[List.cons_append,yJ,yJ,aiy r b];simp
theorem atd{l:List Bs}(a:j<l.length):yJ (l.take (j+1))=yJ (l.take j)++32::l[j]:=by
 grind [List.take_add_one,List.getElem?_eq_getElem,aiy,yJ]
def aR6(l:List Bs)(j:Nat):(yJ (l.take j)).length<=(yJ l).length:=by
 grind [List.take_append_drop,yJ,aiy,a3M]
def aaj{first:Bs}{l:List Bs}(h:qZ w wb out)(p:fO (fun _=>True) w 9 tv (l.map fun s=>aW s))(D:l.length<=1000)(hlen:out.length+first.length+(yJ l).length+1<=1000000000) :
  Calls bdV 108 #[pp wb,aW first,tv] w fun e w'=>e = ai (aq #[])/\qZ w' wb (out++ld first l)/\jT wb w w':=by
 obtain⟨E,lc,rfl⟩:=p.sl;refine aPi ?_;refine(asb h first zo).mono ?_;rintro e w1 ⟨⟨v1,rfl⟩,u,x⟩;have y:(l.map fun s=>(a4a (bs s))).length=l.length:=zs;refine bG ?_;refine⟨fun m z w'=>∃ j,z 13=zi ((j:Nat):Int)/\j<=l.length/\m=l.length-j/\qZ w' wb (out++first++yJ (l.take j))/\jT wb w w',⟨_,0,J,a33 _,J,by rw[List.take_zero,yJ,List.append_nil];exact u,x⟩,?_⟩;intro m z d w3 A;refine toPr ?_;obtain⟨j,c,F,rfl,f,i⟩:=A;by_cases b:j<l.length
 .obtain⟨g,cs,q,H,r,I⟩:=p.at' (j:=j) (by rw[y];exact b);simp only[a34,true_and] at q;obtain⟨rfl,rfl⟩:=q;have k:cs[j]?=O (aW (l[j])):=zg;have B:((j:Nat):Int).toNat=j:=zo;have n:((j:Nat):Int)<(((l.map fun s=>(a4a (bs s))).length:Nat):Int):=zo;have g3:=i.pR r zd (h.ne r zd);have a:=aR6 l (j+1);rw[atd b] at a;simp only[a3M,a3N] at a;refine dG c n @g3 (zA @k @B) ?_;rw[xP _ _ zg];refine a3L (asb f ([32]++l[j]) zg) ?_;rintro e C ⟨⟨v4,rfl⟩,t,o⟩;refine cJ c ?_;refine⟨_,?_,j+1,zg,zo,J,?_,i.trans o⟩
  .omega
  grind [atd,a36]
 .have b:j=l.length:=zo;subst b;have n:¬ (l.length:Int)<(((l.map fun s=>(a4a (bs s))).length:Nat):Int):=zo;rw[List.take_length] at f;refine dA c n ?_;refine a3L (aQS f 10 zg) ?_;rintro e C ⟨⟨v4,rfl⟩,t,o⟩;refine bG ?_;refine⟨?_,i.trans o⟩;unfold ld;rw[aai,<- a36,<- a36];exact t
def Tryz.aR8:(Tryz.prog.info? 9).map (fun i=>(i.zero,i.size,i.bytes))=O (O (aW []),1,16):=zk
abbrev DO(base:Nat)(w:Z)(v:Y)(l:List Bs):Prop:=w.ownsRow base 9 1 v l.length (l.map fun s=>.string (bs s))
section
variable{ba:Nat}{v:Y}{l:List Bs}{w w':Z}
theorem DO.nil:DO ba w bW []:=⟨J,yH⟩
theorem DO.ext(h:DO ba w v l)(a:Ext w w'):DO ba w' v l:=jK a.ext h
theorem DO.sl(h:DO ba w v l):fO (fun _=>True) w 9 v (l.map fun s=>aW s):=Fy h zg
def DO.push(h:DO w0.heap.size w v l)(a:Ext w0 w)(y:l.length<=1000){K:Y->Z->Prop}
  (k:∀ v' w',DO w0.heap.size w' v' (l++[s])->Ext w0 w'->K v' w') :
  WR bdV (Builtin.append_ #[39,39] 39 #[v,cS w.heap.size 1 1]) (w.alloc (ah #[aW s] 9)) K X:=by
 have c:Ext w (w.alloc (ah #[aW s] 9)):=yF;obtain⟨i,hi,j⟩:=Option.map_eq_some_iff.1 Tryz.aR8;simp only[Prod.mk.injEq] at j;obtain⟨n,p,q⟩:=j;refine Sx.DY (m:=1) (t:=39) (e:=9) zk hi n p q J zd (jK c.ext h) (tW J) J (fun u hu=>?_) zo zd (by rw[size_alloc];have:=a.size;omega) fun v' w' z d hv=>k v' w' ?_ ?_
 .simp only[List.mem_cons,List.not_mem_nil,or_false] at hu;subst hu;rfl
 .exact yH
 .have:=d.size;have s1:=c.size;have s0:=a.size;refine⟨d.os.trans (c.os.trans a.os),d.tape.trans (c.tape.trans a.tape),d.output.trans (c.output.trans a.output),zo,fun b o r _=>?_⟩;have x:=c.ext _ _ (a.ext _ _ r);rw[d.block b (bn x) (fun e=>?_)]
  .exact yH
  .rcases h.2 with⟨f,-⟩| ⟨g,cap,cur,f,A,-⟩
   .rw[f] at e;cases e
   .rw[f] at e;injection e with e;grind
end
theorem qZ.ext{w w':Z}{wb:Nat}{out:Bs}(h:qZ w wb out)(a:Ext w w'):qZ w' wb out:=by
 obtain⟨b,buf,c,d,e⟩:=h;exact⟨b,buf,c,a.ext _ _ d,jK a.ext e⟩
theorem q9.at{w:Z}:∀ {l:List P.In} {vs:List Y} {sb:List Nat} {j:Nat} {i:P.In},q9 w vs l sb->l[j]?=O i->∃ cv sv bl,vs[j*4]?=O (aW i.word)/\vs[j*4+1]?=O (aW i.name)/\vs[j*4+2]?=O cv/\vs[j*4+3]?=O sv/\yA cv i.const/\JZ w sv i.s bl
 | [],_,_,j,i,_,hi=>zg
 | x::r,vs,sb,0,i,⟨cv,sv,bl,rest,b,c,d,e,f,a⟩,hi=>by
  grind
 | x::r,vs,sb,j+1,i,⟨cv,sv,bl,rest,b,c,d,e,f,a⟩,hi=>by
  obtain⟨k,g,h,q1,q2,q3,q4,m,n⟩:=q9.at a (show r[j]?=O i from hi);grind
def fL.bfr{cut:Int}{k:Mk}(h:fL base mb pb iv vv gr fz cut w k)(d:jT wb w w')(e:∀ T cs,w.heap[wb]?=aO cs T->T=100):fL base mb pb iv vv gr fz cut w' k:=by
 have f:∀ {b T:Nat} {cs:Array Y},T≠5->T≠100->w.heap[b]?=aO cs T->w'.heap[b]?=aO cs T:=(by grind [jT.pR]);refine⟨(by grind [cell]),h.lo,⟨h.row.1,?_⟩,h.ins.bL yH,(by grind [vars]),h.J0,h.sep,h.J1⟩;rcases h.row.2 with g | ⟨b,cap,cur,rfl,a,i,c⟩
 .exact yH
 .exact .inr ⟨b,cap,cur,J,a,yH,c⟩
theorem qZ.ty(h:qZ w wb out):∀ (T:Nat) (cs:Array Y),w.heap[wb]?=aO cs T->T=100:=fun T cs hx=>by
 obtain⟨a,buf,-,b,-⟩:=h;grind
def aSb{cv:Y}(b:yA cv (O t))(d:eB t)(f:w.heap[pb]?=aO #[bW,zi 9] 96)(g:w.heap[tb]?=aO #[au V,bW,pp pb,.map V] 103)(h:mj w)(j:4<tb)(k:pb≠4)(m:pb≠tb) :
  Calls bdV 31 #[pp tb,cv,zi 0] w fun e w'=>e = ai (aq #[])/\nu tb pb w w'/\∃ nm,tN w' tb (pp pb) nm (Dd (O t)):=by
 have o:yo [] tb pb 0 96 #[bW,zi 9]:=⟨trivial,zs,m,j,k,zo,zo⟩;have p:ml id 0 [] tb pb 0 96 #[bW,zi 9] (.map V) w ⟨9,[],[]⟩:=
  ⟨⟨zg,yH⟩,⟨au V,bW,.inl J,g,World.ownsRow_nil _ _ _ _⟩,.inl ⟨J,J⟩,f,h,zg⟩
 have key:lF [] 2 t 0 ⟨9,[],[]⟩=O (O ⟨8,Dd (O t),[]⟩):=by
  cases t with
  | atom a=>rfl
  | int n=>rfl
  | var i=>exact b.elim
  | comp s l=>exact b.elim
 have q:dO id 0 w cv t:=b.ee;refine a3L ((cw 2).tm (least:=0) o ⟨_,p⟩ q d (by simp [Ws.cV]) (a3O _) key) ?_;rintro e x ⟨r,rfl,c,u⟩;exact⟨J,r,c,u.bu⟩
