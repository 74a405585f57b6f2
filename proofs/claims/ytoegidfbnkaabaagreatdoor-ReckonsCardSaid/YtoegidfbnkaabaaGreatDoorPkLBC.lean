/- A part of one proof (KG18, VP1, VP2, VP3, ShX4d, ShX4b, VP4, VP5). -/
import Derived.Test.YtoegidfbnkaabaaGreatDoorPkLBB
import Derived.Lib.AtoiAllCases
import Derived.Lib.ParseIntBTie
import Derived.Shelf.Strings.SlTrimAscii
set_option linter.all false
set_option maxRecDepth 100000
set_option maxHeartbeats 8000000
open Option renaming some → O, none → V
open Go renaming Value → Y, World → Z
open Bool renaming true → A, false → G
open Go.Obj renaming cells → ae
open Go.Ending renaming returned → ah
open Go.Value renaming nilIface → ai, iface → aj, tuple → ak, pointer → aq
open Go.Calls renaming mono → a1r
open List renaming mem_cons → a1z, mem_cons_self → a1A
open Option renaming map_eq_some_iff → a1R
open Go.Builtin renaming append_ → a1Y
open Go.Lib renaming atoiAll → a3c, trimS → a3P, atoiAll_bounds → a4E
open Go.Proofs.Tryz renaming prog → bbK
namespace Go.Proofs.YtoegidfbnkaabaaGreatDoor
open P
open Go.RowKit Sx
variable{X:Y->Z->Prop}{b base c m mb n pb xb:Nat}{s:Bs}{v:Y}{ud:Nat->Nat}{w w' w0:Z}{xs:List Y}
def Tryz.aRk:(Tryz.prog.info? 211).map (fun i=>(i.zero,i.size,i.bytes))=O (O (aq V),1,8):=zk
def Tryz.aRl:(Tryz.prog.info? 185).map (fun i=>(i.zero,i.size,i.bytes))=O (O (aq V),1,8):=zk
def aRm(c:w.ownsRow base 211 1 v n xs){q:Nat}
  (d:w.heap[b]?=aO #[pp q] 211)
  (o:n<=100000000) (f:base<=w.heap.size) {K:Y->Z->Prop}
  (h:∀ v' w',w'.ownsRow base 211 1 v' (n+1) (xs++[pp q])->w.grownBy w' v.ownBlock->(v'.ownBlock=v.ownBlock\/∀ k,v'.ownBlock=O k->w.heap.size<=k)->K v' w') :
  WR bbK (a1Y #[209,209] 209 #[v,cS b 1 m]) w K X:=by
 obtain⟨i,hi,a⟩:=a1R.1 Tryz.aRk;simp only[Prod.mk.injEq] at a;obtain⟨g,j,l⟩:=a;refine Sx.DC (m:=1) (t:=209) (e:=211) zk hi g j l J zo c d J (fun u hu=>?_) zo zo f h;simp only[a1z,List.not_mem_nil,or_false] at hu;subst hu;rfl
def ar7(c:w.ownsRow base 185 1 v n xs){q:Nat}
  (d:w.heap[b]?=aO #[pp q] 185)
  (o:n<=100000000) (f:base<=w.heap.size) {K:Y->Z->Prop}
  (h:∀ v' w',w'.ownsRow base 185 1 v' (n+1) (xs++[pp q])->w.grownBy w' v.ownBlock->(v'.ownBlock=v.ownBlock\/∀ k,v'.ownBlock=O k->w.heap.size<=k)->K v' w') :
  WR bbK (a1Y #[192,192] 192 #[v,cS b 1 m]) w K X:=by
 obtain⟨i,hi,a⟩:=a1R.1 Tryz.aRl;simp only[Prod.mk.injEq] at a;obtain⟨g,j,l⟩:=a;refine Sx.DC (m:=1) (t:=192) (e:=185) zk hi g j l J zo c d J (fun u hu=>?_) zo zo f h;simp only[a1z,List.not_mem_nil,or_false] at hu;subst hu;rfl
theorem aRn{α:Type}(f:α->α)(l:List α)(a:α):(l++[a]).modify l.length f=l++[f a]:=by
 have:=XR f l [a] 0;grind
def BY.aRo{sx:Nat->Y}{l:List Pd}(h:BY pb w v ud sx l)(hk:∀ (b T:Nat) (cs:Array Y),w.heap[b]?=aO cs T->w'.heap[b]?=aO cs T):BY pb w' v ud sx l:=
 ⟨F4 h.row yH,h.lo,(by grind [cell]),fun i p hi=>let ⟨fV,a,c⟩:=h.cl i p hi;⟨fV,(by grind [F4]),(by grind [su.ahG])⟩,h.ne,h.nc⟩
def aRp{w:Z}{bv:Y}{ZF:List Y}{cs:List P.Cl}{qb nv:Nat}{nm:Bs}{av xv Vo:Y}{x:Bd}(hv:fJ (fun _=>True) w 79 bv ZF)(hc:km (fun _=>True) w ZF cs)(dA:∀ c∈cs,P.qM c)(hn:cs.length<=40)
  (hq:w.heap[qb]?=aO #[aT nm,av,xv,Vo] 86) (wX:∃ a c,Vo = .slice a nv c) (gx:lO (fun _=>True) w av []) (rL:dJ (fun _=>True) w xv x) (eZ:eX nv 2900 x) (Rl:iR x<=5800) (mX:nv<=12) (hP:lZ w) :
  Calls bbK 41 #[bv,pp qb] w fun e w'=>Ext w w'/\match x8 cs x nv with
   | none=>e = ah (ak #[.string (bs []),.bool G])
   | some t=>e = ah (ak #[.string (bs t),.bool A]):=by
 suffices H:∀ R:Ending->Z->Prop,(∀ e w',(Ext w w'/\match x8 cs x nv with
   | none=>e = ah (ak #[.string (bs []),.bool G])
   | some t=>e = ah (ak #[.string (bs t),.bool A]))->R e w')->Calls bbK 41 #[bv,aq (O ⟨qb,0,V⟩)] w R from H _ yF
 intro R hR;have gN:=hc.len;obtain⟨ba,bc,rfl⟩:=hv.sl;refine aRe ?_;refine cJ @Wr ?_;obtain⟨w0,yl⟩:=cg (((w.alloc (ae #[aT []] 9 (0,0))).alloc (ae #[.bool G] 4)).alloc (.map #[] 0));rw[size_alloc,size_alloc,<- yl];have oV:Ext w w0:=yF;have b0:w0.heap[w.heap.size]?=aO #[aT []] 9:=yH;have b1:w0.heap[w.heap.size+1]?=aO #[.bool G] 4:=yH;have b2:w0.heap[w.heap.size+1+1]?=O (eJ (sw 0 [])):=by rw[yl];exact sK (yH)
 clear yl;obtain⟨I,ar8⟩:=cg w.heap.size;obtain⟨L,Qk⟩:=cg (w.heap.size+1);obtain⟨mb,Jk⟩:=cg (w.heap.size+1+1);rw[<- Jk,<- Qk,<- ar8];rw[<- ar8] at b0;rw[<- Qk] at b1;rw[<- Jk] at b2;obtain⟨B,hB⟩:=cg (w.heap.size+3);have ar9:∀ w',Ext w w'->w'.heap[I]?=aO #[aT []] 9->w'.heap[L]?=aO #[.bool G] 4->x8 cs x nv=V ->
   LV bbK (fun wz=>RD bbK (Instr.loadAt 9 (pp I)) wz (fun r=>RD bbK (Instr.loadAt 4 (pp L)) wz (fun r_1=>R (ah (ak #[r,r_1])) wz) NX) NX) R [{ target:=.fn (.func 79) #[pp I,pp L],args:=#[]++#[] }] (.panicking [{ v:=aj 27 (zi 4),recovered:=false }]) w':=by
  intro w' hE' h4 h5 Vy;have l4:=bg h4;have l5:=bg h5;refine aRj h4 h5 zo ?_;obtain⟨w2,jZ⟩:=cg (bQ (bQ w' I (ae #[aT []] 9 (0,0))) L (ae #[.bool G] 4));have g1:w2.heap[I]?=aO #[aT []] 9:=yH;have g2:w2.heap[L]?=aO #[.bool G] 4:=yH;have dT:Ext w w2:=yF;rw[<- jZ];refine dj @g1 @g2 ?_;grind
 refine⟨fun m z w'=>∃ j f qX sx v,z 17=zi ((j:Nat):Int)/\z 6=v/\j<=cs.length/\m=cs.length-j/\Ext w w'/\w'.heap[I]?=aO #[aT []] 9/\w'.heap[L]?=aO #[.bool G] 4/\w'.heap[mb]?=O (eJ (sw 0 f)) /\
   BY B w' v qX sx f/\xg cs []=xg (cs.drop j) f/\(∀ p∈f,p.arity<=4)/\f.length<=j/\(∀ p∈f,p.clauses.length<=j),
  ⟨_,0,[],fun _=>0,fun _=>bW,bW,J,J,Nat.zero_le _,J,oV,b0,b1,b2,⟨⟨J,yH⟩,zg,yH,zg,zg,zg⟩,J,zg,Nat.le_refl _,zg⟩,?_⟩
 intro m z d w3 hI;refine toPr ?_;obtain⟨j,f,qX,sx,v,Q,h6,hj,rfl,eH,g0,g1,g2,hG,heq,ll,uF,aRr⟩:=hI;have lmb:=bg g2;obtain⟨ra,rc,rfl⟩:=gV hG.row;by_cases fp:j<cs.length
 .obtain⟨u,uQ,FJ⟩:=km.C5 j fp hc;obtain⟨cb,cav,cbv,Ys,Uj,rfl,-,gS,nh,asa⟩:=FJ;obtain⟨gg,gcs,e3,e4,e5,e6⟩:=hv.at' (j:=j) zo;simp only[Value.slice.injEq,true_and] at e3;obtain⟨rfl,rfl⟩:=e3;rw[uQ] at e6;obtain⟨c,FL⟩:=cg (cs[j]);rw[<- FL] at gS nh asa;have N:P.qM c:=zg;have j6:((j:Nat):Int).toNat=j:=zo;have fM:((j:Nat):Int)<(ZF.length:Int):=zo;have e53:=eH.ext _ _ e5;have K8:=eH.ext _ _ gS;have dD:Ext w3 w3.drew:=yF;obtain⟨di,Y2,aRt⟩:=id nh;have asb:=aRt.FF;obtain⟨aa,ac,rfl⟩:=Y2.sl;have xl:=N.cl.qL;have xQ:=N.name;refine dB Q fM @e53 (zA @e6 (zA @j6 K8)) ?_;rw[asb];refine a1r (agf c.name c.args.length zo zo w3.drew) ?_;rintro e w4 ⟨rfl,rfl⟩;refine bH ?_;have ZH:=dD.ext _ _ g2;obtain⟨kv,ZI,xm,aRu⟩:∃ (kv:Nat) (ZI:Bool),(∀ {K:Y->Prop} {X:Y->Z->Prop},K (ak #[zi (kv:Int),.bool ZI])->RD bbK (Instr.lookup 210 (.map (O mb)) (aT (P.keyOf c.name c.args.length)) A) w3.drew K X) /\
    ((ZI=G/\fL (P.keyOf c.name c.args.length) (sw 0 f) 0=V/\∀ x,rT c.name c.args.length x f=f++[⟨c.name,c.args.length,[x]⟩])\/(ZI=A/\kv<f.length/\∀ x,rT c.name c.args.length x f=f.modify kv fun p=>{ p with clauses:=p.clauses++[x] })):=by
   cases hf:fL (P.keyOf c.name c.args.length) (sw 0 f) 0 with
   | none=>
    refine⟨0,G,fun hK=>?_,.inl ⟨J,J,fun x=>?_⟩⟩
    .rw[Lt (k:=9) (e:=3) (z:=zi 0) zk zk zk ZH _ A,hf];grind
    .have:=ZE (name:=c.name) (n:=c.args.length) zo x f 0 0 zg;grind
   | some qv=>
    obtain⟨q,v⟩:=qv;have h0:=ZE (name:=c.name) (n:=c.args.length) zo default f 0 0 zg;rw[hf] at h0;obtain⟨k,e1,e2,YQ,-⟩:=h0;rw[Nat.zero_add] at e1 e2;subst e1 e2;refine⟨q,A,fun hK=>?_,.inr ⟨J,YQ,fun x=>?_⟩⟩
    .rw[Lt (k:=9) (e:=3) (z:=zi 0) zk zk zk ZH _ A,hf];grind
    .have:=ZE (name:=c.name) (n:=c.args.length) zo x f 0 0 zg;grind
  refine xm ?_;refine bH ?_;refine⟨fun s E=>∃ l' M S v' k,s 6=v'/\s 11=zi ((k:Nat):Int)/\Ext w E/\E.heap[I]?=aO #[aT []] 9/\E.heap[L]?=aO #[.bool G] 4/\E.heap[mb]?=O (eJ (sw 0 l')) /\
    BY B E v' M S l'/\k<l'.length/\(∀ x,rT c.name c.args.length x f=l'.modify k fun p=>{ p with clauses:=p.clauses++[x] })/\(∀ p∈l',p.arity<=4)/\l'.length<=j+1/\(∀ p∈l',p.clauses.length<=j),?_,?_⟩
  .rcases aRu with⟨rfl,hf,U⟩| ⟨rfl,zm,U⟩
   .refine cJ h6 ?_;rw[yj (k:=9) (e:=3) zk zk ZH _ hf];obtain⟨C,ZJ⟩:=cg (bQ w3.drew mb (eJ (sw 0 f++[(P.keyOf c.name c.args.length,Value.int .i64 (f.length:Int))])));rw[<- ZJ];have hkM:∀ (b T:Nat) (cs:Array Y),w3.heap[b]?=aO cs T->C.heap[b]?=aO cs T:=fun b T cs hx=>by
     rw[ZJ,jb (fun e=>by rw[e,g2] at hx;cases hx)];exact yH
    have hEM:Ext w C:=yF;have gM:C.heap[mb]?=O (eJ (sw 0 (f++[⟨c.name,c.args.length,[]⟩]))):=by
     rw[ZJ,ar4,Nat.zero_add];exact yH
    have sM:C.heap.size=w3.heap.size:=yH;clear ZJ;have asd:=hkM _ _ _ K8;have hGM:=hG.aRo hkM;have hdM:Ext C C.drew:=yF;refine⟨fun w'=>Ext C w',hdM,?_⟩;rw[jx];refine cQ (pp cb) (fun w' h=>eT) ?_;refine cQ (aT c.name) (fun w' h=>by have g:=h.ext _ _ asd;have:=bg g;exact fh g) ?_;refine cJ asd ?_;rw[asb];obtain⟨W,PR⟩:=cg (C.drew.alloc (ae #[aT c.name,zi (c.args.length:Int),bW] 213));rw[<- PR];have KF:Ext C W:=yF;have gB:W.heap[C.heap.size]?=aO #[aT c.name,zi (c.args.length:Int),bW] 213:=yH;have sB:W.heap.size=C.heap.size+1:=yH;clear PR;obtain⟨wC,hwC⟩:=cg (W.alloc (ae #[pp C.heap.size] 211));have hEC:Ext W wC:=yF;have gC:wC.heap[W.heap.size]?=aO #[pp C.heap.size] 211:=yH;have sC:wC.heap.size=W.heap.size+1:=yH;refine⟨KF,?_⟩;rw[<- hwC];refine⟨yF,?_⟩;have Vz:=hGM.ext (KF.trans hEC);have ZK:Ext w wC:=yF;rw[h6];rw[sB] at gC;refine aRm (base:=B) Vz.row gC zo zo fun v' w5 ho l D2=>?_;have LC:=l.size;have tY:Ext w w5:=⟨l.os.trans ZK.os,l.tape.trans ZK.tape,l.output.trans ZK.output,zo,fun b o hb _=>by
     have F:=ZK.ext _ _ hb;rw[l.block b (bg F) (fun e=>?_)]
     .omega
     .have:=(EG Vz.row e.symm).1;grind⟩
    have pz:∀ {b T:Nat} {cs:Array Y},T≠211->wC.heap[b]?=aO cs T->w5.heap[b]?=aO cs T:=fun hT hx=>F5 Vz.row l hT hx;have Jg:w5.heap[mb]?=O (eJ (sw 0 (f++[⟨c.name,c.args.length,[]⟩]))):=by
     have F:=(KF.trans hEC).ext _ _ gM;rw[l.block mb (bg F) (fun e=>?_)]
     .omega
     .obtain⟨-,-,cs',g⟩:=EG Vz.row e.symm;rw[F] at g;cases g
    have hGN:=Vz.new (nb:=C.heap.size) (n:=c.args.length) (name:=c.name) yH zo (fun i hi=>by
     have:=bg (hGM.cell i f[i] zg);omega) ho l
    refine⟨f++[⟨c.name,c.args.length,[]⟩],_,_,v',f.length,J,J,tY,?_,?_,Jg,hGN,zs,fun x=>?_,fun p hp=>?_,zg,fun p hp=>?_⟩
    .exact pz zo ((KF.trans hEC).ext _ _ yH)
    .exact pz zo (by grind [bB.ext,bB.trans])
    .grind [aRn]
    .grind
    grind
   .refine cJ h6 ?_;exact⟨f,qX,sx,_,kv,zg,zg,yF,yH,yH,ZH,hG.ext dD,zm,U,ll,zo,aRr⟩
  .rintro s E ⟨l',M,S,v',k,s6,s11,lh,q0,q1,q2,qn,zm,U,aZQ,aZR,aZS⟩ dd;obtain⟨p,Hs⟩:=cg (l'[k]);have Vx:l'[k]?=O p:=zg;obtain⟨fV,iY,jK⟩:=qn.cl k p Vx;have nJ:=qn.cell k p Vx;have zI:Ext E E.drew:=yF;obtain⟨pg,pgc,pgu,lQ,aZU,aZV⟩:=TQ qn.row (t:=k) zm;subst lQ;have ash:pgu[k]?=O (pp (M k)):=zg;have pJ:((k:Nat):Int).toNat=k:=zo;have vW:((k:Nat):Int)<(l'.length:Int):=zo;obtain⟨cla,clc,Rt⟩:=gV iY;obtain⟨Cl,asi⟩:=cg (S k);rw[<- asi] at nJ iY Rt;have aRA:=nJ;rw[Rt] at aRA;rw[s6,s11];refine⟨fun w'=>w'.heap[pg]?=aO pgu 211/\w'.heap[M k]?=aO #[aT p.name,zi (p.arity:Int),Cl] 213,yH,?_⟩;refine cQ (pq pg k) (fun w' h=>by have g:=h.1;have:=bg g;exact J5 g vW @pJ) ?_;refine cQ (pp (M k)) (fun w' h=>by have g:=h.1;have:=bg g;exact lM g ash) ?_;refine cQ (pq pg k) (fun w' h=>by have g:=h.1;have:=bg g;exact J5 g vW @pJ) ?_;refine cQ (pp (M k)) (fun w' h=>by have g:=h.1;have:=bg g;exact lM g ash) ?_;rw[jx];refine cQ (pq (M k) 2) (fun w' h=>eT) ?_;refine cQ Cl (fun w' h=>by have g:=h.2;have:=bg g;rw[Rt] at g ⊢;exact fh g) ?_;have asj:=lh.trans zI;have aRB:lO (fun _=>True) E.drew (.slice aa di.length ac) c.args:=lO.mono zg (by grind [bB.ext]) nh;have aRC:dJ (fun _=>True) E.drew cbv c.body:=dJ.mono zg (by grind [bB.ext]) _ _ asa;refine a1r (arD G (asj.ext _ _ gS) ⟨_,_,J⟩ aRB aRC N.cl.args N.cl.qL N.cl.sz N.cl.body N.bsz N.vs.1) ?_;rintro e w7 ⟨Rs,D⟩;have asl:xg cs []=match zb c.args c.body c.vars.length G with
     | none=>V
     | some x=>xg (cs.drop (j+1)) (rT c.name c.args.length x f):=by
    rw[heq,List.drop_eq_getElem_cons fp,<- FL];rfl
   have GO:=asj.trans Rs;have VA:=zI.trans Rs;cases OK:zb c.args c.body c.vars.length G with
   | none=>
    rw[OK] at D asl;have D:e=gP (.fault 4):=D;subst D;exact fun fq=>ar9 w7 GO (VA.ext _ _ q0) (VA.ext _ _ q1) (by grind [x8])
   | some co=>
    rw[OK] at D asl;obtain⟨cm,he,Dv,vC⟩:=D;subst he;have F3:=qn.ext VA;have aRE:=jL VA.ext iY;refine⟨(by grind [bB.ext]),?_⟩;rw[Rt];refine bH ?_;obtain⟨w8,L0⟩:=cg (w7.alloc (ae #[pp cm] 185));have vR:Ext w7 w8:=yF;have g8:w8.heap[w7.heap.size]?=aO #[pp cm] 185:=yH;rw[<- L0];have ZL:=VA.trans vR;have vO:=GO.trans vR;have OD:=F3.ext vR;have VB:=jL vR.ext aRE;have sz8:=vO.size;refine⟨(by grind [bB.ext]),?_⟩;rw[<- Rt];have j3:p.clauses.length<=j:=zg;have yG:=bg q2;have aZX:=ZL.size;refine ar7 (base:=B) VB g8 zo zo fun v9 w9 ho l F2=>?_;have LC:=l.size;have Jy:∀ {b T:Nat} {cs:Array Y},T≠185->w8.heap[b]?=aO cs T->w9.heap[b]?=aO cs T:=(by grind [F5]);have ZM:=Jy zd (ZL.ext _ _ nJ);refine⟨(by grind [bB.ext]),?_⟩;have lc9:=bg ZM;obtain⟨va9,vc9,asm⟩:=gV ho;rw[Rt] at ZM;have aRF:=ZM;rw[asm];refine dj ZM Q ?_;rw[<- asm];obtain⟨wF,FM⟩:=cg (bQ w9 (M k) (ae #[aT p.name,zi (p.arity:Int),v9] 213));rw[<- FM];rw[asi] at VB l F2;have hGF:=OD.push Vx VB (by grind [su.ext]) (vC.ext vR) ho l F2;rw[<- FM] at hGF;have hEF:Ext w wF:=by
     have nj:Ext w w9:=⟨l.os.trans vO.os,l.tape.trans vO.tape,l.output.trans vO.output,zo,fun b o hb _=>by
      have F:=vO.ext _ _ hb;rw[l.block b (bg F) (fun e=>?_)]
      .omega
      .have:=(EG VB e.symm).1;grind⟩
     rw[FM];exact nj.bQ (.inr (by have:=qn.lo k zm;omega))
    have aZ1:∀ {b T:Nat} {cs:Array Y},T≠185->T≠213->E.heap[b]?=aO cs T->wF.heap[b]?=aO cs T:=fun{b T cs} h1 h2 hx=>by
     have xr:=Jy h1 (ZL.ext _ _ hx);exact yH
    have hmF:wF.heap[mb]?=O (eJ (sw 0 (l'.modify k fun p=>{ p with clauses:=p.clauses++[co] }))):=by
     rw[ar5];have F:=ZL.ext _ _ q2;have fg:w9.heap[mb]?=O (eJ (sw 0 l')):=by
      rw[l.block mb (bg F) (fun e=>?_)]
      .exact F
      .obtain⟨-,-,cs',g⟩:=EG VB e.symm;rw[F] at g;cases g
     rw[FM,jb]
     .omega
     .rintro rfl;rw[aRF] at fg;cases fg
    refine⟨_,?_,j+1,l'.modify k fun p=>{ p with clauses:=p.clauses++[co] },M,_,_,zg,zg,zo,J,hEF,yH,yH,hmF,hGF,?_,fun y hy=>?_,zg,fun y hy=>?_⟩
    .omega
    .grind
    .rcases XT hy with hy | ⟨y0,Em,rfl⟩<;>grind
    .rcases XT hy with hy | ⟨y0,Em,rfl⟩<;>grind
 .have fp:j=cs.length:=zo;subst fp;have fM:¬ (cs.length:Int)<(ZF.length:Int):=zo;rw[List.drop_length,xg] at heq;obtain⟨va,vc,rfl⟩:=wX;have BK:=eH.ext _ _ hq;have dD:Ext w3 w3.drew:=yF;have tI:=eH.trans dD;refine dj Q fM ?_;refine⟨fun w'=>w'.heap[qb]?=aO #[aT nm,av,xv,.slice va nv vc] 86,yH,?_⟩;rw[jx];refine cQ (pq qb 3) (fun w' h=>eT) ?_;refine cQ (.slice va nv vc) (fun w' h=>by have:=bg h;exact fh h) ?_;refine cQ (zi (nv:Int)) (fun w' h=>eT) ?_;have FW:lO (fun _=>True) w3.drew av []:=lO.mono zg (by grind [bB.ext]) gx;have aRH:dJ (fun _=>True) w3.drew xv x:=dJ.mono zg (by grind [bB.ext]) _ _ rL;refine a1r (arD A (tI.ext _ _ hq) ⟨_,_,J⟩ FW aRH fi.nil zs (by simp [fG]) eZ Rl mX) ?_;rintro e w7 ⟨Rs,D⟩;have Ru:=dD.trans Rs;have GO:=eH.trans Ru;cases OK:zb [] x nv A with
  | none=>
   rw[OK] at D;have D:e=gP (.fault 4):=D;subst D;exact fun fq=>ar9 w7 GO (Ru.ext _ _ g0) (Ru.ext _ _ g1) (by grind [x8])
  | some ask=>
   rw[OK] at D;obtain⟨cm,he,Dv,vC⟩:=D;subst he;refine⟨Ru.ext _ _ BK,?_⟩;have oY:x8 cs x nv=O (oW f ask nv):=by grind [x8]
   obtain⟨p1,p2,p3,p4⟩:=anI dA hn heq;have Uo:=XQ OK fi.nil (by simp [fG]) eZ Rl mX;have BJ:=anC OK fi.nil eZ;have hlen:=aIN p1 Uo (show nv<=1000 by omega);have F3:=hG.ext Ru;have aRI:fJ (fun _=>True) w7 211 (.slice ra f.length rc) ((List.range f.length).map fun i=>Value.pointer (O ⟨qX i,0,V⟩)):=EZ F3.row zg;rw[h6];refine a1r (aQ5 aRI zs (fun i p hi=>?_) vC p2 ⟨Uo,BJ⟩ zg zg zo zo (hP.ext GO) zo) ?_
   .have mj:i<f.length:=by
     grind
    refine⟨qX i,zg,?_⟩;obtain⟨fV,e1,e2⟩:=F3.cl i p hi;exact⟨sx i,fV,F3.cell i p hi,(by grind [EZ]),by have:=e1.1;omega,e2⟩
   rintro e w8 ⟨rfl,vR⟩;have ahN:=Ru.trans vR;have vO:=eH.trans ahN;have g08:=ahN.ext _ _ g0;have g18:=ahN.ext _ _ g1;have l08:=bg g08;have l18:=bg g18;refine dj @g08 @g18 ?_;obtain⟨wF,FM⟩:=cg (bQ (bQ w8 I (ae #[aT (oW f ask nv)] 9)) L (ae #[.bool A] 4));have f1:wF.heap[I]?=aO #[aT (oW f ask nv)] 9:=yH;have f2:wF.heap[L]?=aO #[.bool A] 4:=yH;have hEF:Ext w wF:=yF;rw[<- FM];refine aRi ?_;refine dj @f1 @f2 ?_;grind
def B0(w:Z):Prop:=∃ t1 p1 t2 p2,w.cell? ⟨6,0,V⟩=O (aj t1 p1)/\w.cell? ⟨7,0,V⟩=O (aj t2 p2)
theorem B0.ext{w w':Z}(h:B0 w)(a:Ext w w'):B0 w':=by
 obtain⟨t1,p1,t2,p2,b,c⟩:=h;exact⟨t1,p1,t2,p2,(by grind [MI,bB.ext]),(by grind [MI,bB.ext])⟩
def asp:∀ (l:Bs) (acc n:Nat),(∀ c∈l,P.digit c=A)->(l.foldl (fun v c=>10*v+((c.toNat:Int)-48)) (acc:Int))=(n:Int)->n<9223372036854775809->Go.Lib.parseUint10 acc l = .ok n
 | [],acc,n,_,h,_=>by
  have h:(acc:Int)=(n:Int):=h;have:acc=n:=zo;subst this;rfl
 | c::r,acc,n,b,h,d=>by
  have g:=b c a1A;have i:48<=c.toNat/\c.toNat<=57:=by grind [P.digit]
  have f:(10*(acc:Int)+((c.toNat:Int)-48))=((acc*10+(c.toNat-48):Nat):Int):=zo;rw[List.foldl_cons,f] at h;have j:acc*10+(c.toNat-48)<=n:=by
   have key:∀ (l:Bs) (a:Nat),(∀ c∈l,P.digit c=A)->(a:Int)<=l.foldl (fun v c=>10*v+((c.toNat:Int)-48)) (a:Int):=by
    intro l;induction l with
    | nil=>grind
    | cons x l ih=>
     intro a b;have hx:48<=x.toNat/\x.toNat<=57:=by grind [P.digit,a1A]
     have e:(10*(a:Int)+((x.toNat:Int)-48))=((a*10+(x.toNat-48):Nat):Int):=zo;rw[List.foldl_cons,e];have:=ih (a*10+(x.toNat-48)) zg;omega
   have:=key r (acc*10+(c.toNat-48)) zg;omega
  have ih:=asp r (acc*10+(c.toNat-48)) n zg h d;rw[Go.Lib.parseUint10];grind
def asq(a:n<9223372036854775809):Go.Lib.parseMag (dL n) = .ok n:=by
 unfold Go.Lib.parseMag;rw[bM (by grind [anJ])];exact asp _ 0 n (KU _ _) (NI n) a
theorem asr{z:Int}(h:-9223372036854775808<=z/\z<=9223372036854775807):a3c (gX z) = .ok z:=by
 unfold gX;split
 .rename_i b;rw[Go.Lib.atoiAll_minus,asq zo];unfold Go.Lib.signed;grind
 .rename_i b;obtain⟨c,r,a,-⟩:=TI (z.natAbs+1) z.natAbs zo;have d:=KU (z.natAbs+1) z.natAbs c (by rw[a];exact a1A);have e:48<=c.toNat/\c.toNat<=57:=by grind [P.digit]
  have hm:=asq (n:=z.natAbs) zo;unfold dL at hm ⊢;rw[a] at hm ⊢;rw[Go.Lib.atoiAll_plain c r zo zo,hm];unfold Go.Lib.signless;grind
def VC(h:Below w.heap.size w w'):Ext w w':=⟨h.os,h.tape,h.output,h.size,(by grind [bg,Below.block])⟩
def aRJ(s:Bs)(w:Z)(h:s.length<=1000000)(d:B0 w):Calls bbK 100 #[aT s] w fun e w'=>Ext w w'/\∃ v b,e = ah (ak #[zi v,b])/\(-9223372036854775808<=v/\v<=9223372036854775807) /\
  ((b = ai/\a3c s = .ok v)\/((∃ t p,b = aj t p)/\∀ z,a3c s≠.ok z)):=by
 obtain⟨t1,p1,t2,p2,f,g⟩:=d;have i:(bs s).size<=1000000:=by show s.toArray.size<=_;omega
 cases a:a3c s with
 | ok v=>
  refine(Tryz.strconv_Atoi_ok (bs s) zo v a w).mono ?_;rintro e w' ⟨rfl,hw⟩;refine⟨?_,v,_,J,a4E a,zg⟩;rcases hw with rfl | ⟨t,rfl⟩
  .exact yF
  grind [aco]
 | range=>
  refine(Tryz.strconv_Atoi_range (bs s) zo a _ w g zg).mono ?_;rintro e w' ⟨N,rfl,-,-,c⟩;refine⟨VC c,_,_,J,?_,zg⟩;grind [Go.Lib.atoiSat]
 | _=>
  refine(Tryz.strconv_Atoi_syntax (bs s) zo a _ w f zg).mono ?_;rintro e w' ⟨N,rfl,-,-,c⟩;exact⟨VC c,0,_,J,zo,zg⟩
def aRK(s:Bs)(w:Z)(h:s.length<=1000000)(d:B0 w):Calls bbK 135 #[aT s,zi 10,zi 64] w fun e w'=>Ext w w'/\∃ v b,e = ah (ak #[zi v,b])/\(-9223372036854775808<=v/\v<=9223372036854775807) /\
  ((b = ai/\a3c s = .ok v)\/((∃ t p,b = aj t p)/\∀ z,a3c s≠.ok z)):=by
 obtain⟨t1,p1,t2,p2,f,g⟩:=d;have i:(bs s).size<=1000000:=by show s.toArray.size<=_;omega
 have he:=Go.Lib.parseIntB_64 s;cases a:a3c s with
 | ok v=>
  rw[a] at he;refine(Tryz.strconv_ParseInt_10_at64_ok (bs s) zo v he w).mono ?_;rintro e w' ⟨rfl,hw⟩;refine⟨?_,v,_,J,a4E a,zg⟩;rcases hw with rfl | ⟨t,rfl⟩
  .exact yF
  grind [aco]
 | range=>
  rw[a] at he;refine(Tryz.strconv_ParseInt_10_at64_range (bs s) zo he _ w g zg).mono ?_;rintro e w' ⟨N,rfl,-,-,c⟩;refine⟨VC c,_,_,J,?_,zg⟩;grind [Go.Lib.intSat_64,Go.Lib.atoiSat,Lib.intSat_64]
 | _=>
  rw[a] at he;refine(Tryz.strconv_ParseInt_10_at64_syntax (bs s) zo he _ w f zg).mono ?_;rintro e w' ⟨N,rfl,-,-,c⟩;exact⟨VC c,0,_,J,zo,zg⟩
def ass{v:Int}(h:a3c s = .ok v):D8 s=if gX v=s then O v else none:=by
 by_cases he:gX v=s
 .rw[zip he,<- he,ad7 (a4E h)]
 .rw[bM he];cases a:D8 s with
  | none=>rfl
  | some z=>
   obtain⟨b,c⟩:=XN a;grind [asr,absurd]
theorem asu(h:∀ z,a3c s≠.ok z):D8 s=none:=by
 cases a:D8 s with
 | none=>rfl
 | some z=>
  obtain⟨b,c⟩:=XN a;grind [asr,absurd]
def VD(k:Int)(w:Z):Calls bbK 70 #[zi k] w fun e w'=>Ext w w'/\nw 5 k w w' e:=by
 refine aOy ?_;refine bH ?_;exact⟨yF,w.heap.size,J,yH,Nat.le_refl _⟩
theorem nw.ext{c a:Int}{e:Ending}(h:nw c a w w' e)(d:Ext w0 w):nw c a w0 w' e:=by
 obtain⟨b,f,g,i⟩:=h;exact⟨b,f,g,Nat.le_trans d.size i⟩
def OL(s:Bs)(n:Nat)(k:Int)(w:Z)(o:s.length<=1000000)(E:n<=100000)(q:B0 w)(r:lZ w):Calls bbK 73 #[.string (bs s),zi (n:Int),zi k] w fun e w'=>Ext w w'/\match ji s n with
  | some v=>e = ah (.int .i64 (v:Int))
  | none=>nw 5 k w w' e:=by
 suffices H:∀ R:Ending->Z->Prop,(∀ e w',(Ext w w'/\match ji s n with
  | some v=>e = ah (.int .i64 (v:Int))
  | none=>nw 5 k w w' e)->R e w')->Calls bbK 73 #[.string (bs s),.int .i64 (n:Int),.int .i64 k] w R from H _ yF
 intro R u;refine aOz ?_;refine(aRJ s w o q).mono ?_;rintro e w1 ⟨d,v,F,rfl,i,x⟩;have j:∀ w2,Ext w w2->ji s n=V->∀ K:Y->Z->Prop,Calls bbK 70 #[zi k] w2 (ends K (PC R)):=fun w2 a hu K=>by
  refine(VD k w2).mono ?_;rintro e w3 ⟨I,y⟩;have B:=y;obtain⟨b,rfl,L,M⟩:=B;exact u _ _ (by grind [bB.trans,nw.ext])
 rcases x with⟨rfl,l⟩| ⟨⟨t,p,rfl⟩,l⟩
 .refine bH ?_;refine⟨fun _ w'=>Ext w w'/\ji s n=O v.toNat/\0<=v,?_,?_⟩
  .refine⟨fun z w'=>Ext w w'/\∃ b,z 30 = .bool b/\(b=A->ji s n=V)/\(b=G->ji s n=O v.toNat/\0<=v),?_,?_⟩
   .refine bH ?_;refine a1r (KZ v i.1 i.2 w1 (r.ext d)) ?_;rintro e w2 ⟨rfl,a⟩;have mX:=ass l;have N:=d.trans a;by_cases c:gX v=s
    .rw[zip c] at mX;have hu:ji s n=if 0<=v/\v<n then O v.toNat else none:=by grind [ji]
     rw[c];by_cases f:v<0
     .refine cJ f ?_;exact yF
     .by_cases m:v ≥ (n:Int)
      .refine dj f m ?_;exact yF
      .refine dj f m ?_;exact yF
    .rw[bM c] at mX;have hu:ji s n=none:=by grind [ji]
     have g:¬ bs (gX v)=bs s:=zg;refine dj c g ?_;exact yF
   .rintro z w2 ⟨a,b,h,C,P⟩ D;rw[h];cases b with
    | true=>
     refine bH ?_;exact j w2 a (C J) _
    | false=>
     refine bH ?_;exact yF
  exact yF
 .have hu:ji s n=none:=by grind [ji,asu]
  refine bH ?_;refine⟨fun _ _=>False,?_,zg⟩;refine⟨fun z w'=>z 30 = .bool A/\w'=w1,?_,?_⟩
  .exact eT
  .rintro z w2 ⟨h,rfl⟩ D;rw[h];refine bH ?_;exact j w2 d hu _
abbrev A4:Bs:=[33,34,35,36,37,38,39,40,41,42,43,44,45,46,47,48,49,50,51,52,53,54,55,56,57,58,59,60,61,62,63,64,65,66,67,68,69,70,71,72,73,74,75,76,77,78,79,80,81,82,83,84,85,86,87,88,89,90,91,92,93,94,95,96,97,98,99,100,101,102,103,104,105,106,107,108,109,110,111,112,113,114,115,116,117,118,119,120,121,122,123,124,125,126]
theorem ZN(x:UInt8):A4.contains x=decide (33<=x/\x<=126):=by
 have h:∀ n:Fin 256,A4.contains (UInt8.ofNat n.val)=decide (33<=UInt8.ofNat n.val/\UInt8.ofNat n.val<=126):=by decide +kernel
 have:=h ⟨x.toNat,x.toNat_lt⟩;simpa using this
theorem ahO{α:Type}{p:α->Bool}{c:α}:∀ {l:List α},c∈l->p c=G->c∈l.dropWhile p
 | x::l,h,a=>by
  rw[List.dropWhile_cons];split
  .rename_i hx;rcases a1z.1 h with rfl | h
   .grind
   .exact ahO h a
  omega
theorem asw{α:Type}{p:α->Bool}:∀ {l:List α},(∀ c∈l,p c=A)->l.dropWhile p=[]
 | [],_=>rfl
 | x::l,h=>by
  rw[List.dropWhile_cons,zip (h x a1A)];exact asw zg
def aRM(l:Bs):a3P l A4=[]↔l.all (fun c=>decide (33<=c/\c<=126))=true:=by
 unfold a3P Go.Lib.trimLeftS Go.Lib.trimRightS;constructor
 .intro h;rw[List.all_eq_true];intro c d;cases a:decide (33<=c/\c<=126) with
  | true=>rfl
  | false=>
   have b:c∈(l.reverse.dropWhile (A4.contains ·)).reverse:=by
    grind [ahO,ZN]
   have e:=ahO (p:=(A4.contains ·)) b (by rw[ZN];exact a);grind
 grind [List.all_eq_true,asw,ZN]
def aRN(s:Bs)(w:Z)(c:s.length<=1000000):Calls bbK 99 #[aT s,aT A4] w fun e w'=>e = ah (aT (a3P s A4))/\Ext w w':=by
 have d:(bs s).size<=1000000:=by show s.toArray.size<=_;omega
 refine(Any.strings_Trim_laid Tryz.lays160 zk (bs s) (bs A4) w zo zd (fun j b a=>?_)).mono ?_
 .have hm:=List.mem_of_getElem? a;have:b∈A4:=zo;have f:A4.contains b=true:=zg;grind [ZN,UInt8.le_iff_toNat_le]
 .rintro e w' ⟨rfl,a⟩;exact⟨zg,VC a⟩
def ahP(s:Bs)(k:Int)(w:Z)(o:s.length<=1000000):Calls bbK 72 #[.string (bs s),zi k] w fun e w'=>Ext w w'/\match pG s with
  | some v=>e = ah (.string (bs v))
  | none=>nw 5 k w w' e:=by
 suffices H:∀ R:Ending->Z->Prop,(∀ e w',(Ext w w'/\match pG s with
  | some v=>e = ah (.string (bs v))
  | none=>nw 5 k w w' e)->R e w')->Calls bbK 72 #[.string (bs s),.int .i64 k] w R from H _ yF
 intro R p;have q:∀ w2,Ext w w2->pG s=V->∀ K:Y->Z->Prop,Calls bbK 70 #[zi k] w2 (ends K (PC R)):=fun w2 m hu K=>by
  refine(VD k w2).mono ?_;rintro e w3 ⟨F,t⟩;have u:=t;obtain⟨b,rfl,I,L⟩:=u;exact p _ _ (by grind [bB.trans,nw.ext])
 refine aOA ?_;refine⟨fun _ w'=>Ext w w'/\pG s=O s,?_,?_⟩
 .refine bH ?_;refine⟨fun z w'=>Ext w w'/\∃ b,z 36 = .bool b/\(b=A->pG s=V)/\(b=G->pG s=O s),?_,?_⟩
  .cases s with
   | nil=>
    refine bH ?_;exact⟨yF,A,J,fun _=>rfl,zg⟩
   | cons c r=>
    have x:pG (c::r)=if 10<(c::r).length\/P.digit c=A\/(c::r).all (fun c=>decide (33<=c/\c<=126))=G\/(c=45/\r≠[]) then V else O (c::r):=rfl
    have g:decide (c::r=[])=false:=zs;by_cases M:10<(c::r).length
    .have a:(((c::r).length:Nat):Int) > 10:=zo;refine dj g a ?_;exact yF
    .have a:¬ (((c::r).length:Nat):Int) > 10:=zo;have y:∀ h:P.digit c=G,(a3P (c::r) A4≠[]->pG (c::r)=V)/\(a3P (c::r) A4=[]->c=45->1<(c::r).length->pG (c::r)=V)/\(a3P (c::r) A4=[]->(c≠45\/(c::r).length<=1)->pG (c::r)=O (c::r)):=fun h=>by
      have ht:=aRM (c::r);grind
     have d:(c::r).getD 0 0=c:=rfl;by_cases B:P.digit c=A
     .have N:48<=c.toNat/\c.toNat<=57:=by grind [P.digit]
      have f:(48:Int)<=(c.toNat:Int):=zo;have i:(c.toNat:Int)<=57:=zo;refine dB g a d (zA f i) ?_;exact yF
     .have h:P.digit c=false:=zg;obtain⟨Q,S,T⟩:=y h;have C:((48:Int)<=(c.toNat:Int)/\¬ (c.toNat:Int)<=57)\/¬ (48:Int)<=(c.toNat:Int):=by
       grind [P.digit]
      rcases C with⟨f,i⟩| f;all_goals
       first
        | simp (disch:=first|assumption|omega|simp only[zS]<;>omega|decide) only[zB,simprocAttr,kW,g,a,d,f,i]
        | simp (disch:=first|assumption|omega|simp only[zS]<;>omega|decide) only[zB,simprocAttr,kW,g,a,d,f]
       refine a1r (aRN (c::r) w o) ?_;rintro e w2 ⟨rfl,U⟩;by_cases j:a3P (c::r) A4=[]
       .rw[j];by_cases n:c=45
        .have hx:(c.toNat:Int)=45:=by rw[n];rfl
         first
          | (exfalso;omega)
          | (simp (disch:=first|assumption|omega|simp only[zS]<;>omega|decide) only[zB,simprocAttr,kW,d,hx];exact yF)
        .have hx:¬ (c.toNat:Int)=45:=fun e=>n (UInt8.toNat_inj.1 (by show c.toNat=45;omega));refine dj d hx ?_;exact yF
       .have l:decide (a3P (c::r) A4=[])=false:=by simpa using j
        refine dj l j ?_;exact yF
  .rintro z w2 ⟨m,b,D,E,W⟩ X;rw[D];cases b with
   | true=>
    refine bH ?_;exact q w2 m (E J) _
   | false=>
    refine bH ?_;exact yF
 exact yF
open Go.Proofs.YtoegidfbnkaabaaGreatDoor.Sx
section
variable{p0 p1 p2 p3 p4 p5 p6 p7:Y}{w:Z}{R:Ending->Z->Prop}
def aRP:=cz w R [p0,p1] (gc [] [] [4,8]) Tryz.func103
def aRQ:=cz w R [p0,p1] (gc [(2,[8])] [] [9,16]) Tryz.func136
end
section
variable{p0 p1 p2 p3 p4 p5 p6 p7:Y}{w:Z}{R:Ending->Z->Prop}
def aRR:=cz w R [p0,p1,p2] (gd [(7,[35]),(11,[46])] [(4001,[]),(16001,[]),(26020,[]),(28000,[159]),(29001,[])] [] [(2,[0,1,2,3,0,4,5,6,7,8,9]),(13,[11,0,1,2,3,4,5,6,7,8,9,10,11,12]),(19,[14,0,1,2,3,4,5,6,7,8,9,10,11,12,13,14,15]),(25,[10,0,1,2,3,4,5,6,7,8,9,10,11]),(28,[0,0,1,2,3,4,5,6,7,8,9,10,11,12,13,14,15,16,17,18,19,20,21,22,23,24,25,26,27,28,29,30,31,33,34,35,32,36,37,38])] [] [] [9,14,26,27,28,36,41,47,66,70,71,87,88,96,97,105,106,120,121,157,158,159]) Tryz.func74
end
def aRS(s:Bs)(k:Int)(w:Z)(h:s.length<=1000000)(q:B0 w)(r:lZ w):Calls bbK 102 #[.string (bs s),zi k] w fun e w'=>Ext w w'/\match BG s with
  | some t=>∃ cv,e = ah cv/\yn cv (O t)
  | none=>nw 5 k w w' e:=by
 suffices H:∀ R:Ending->Z->Prop,(∀ e w',(Ext w w'/\match BG s with
  | some t=>∃ cv,e = ah cv/\yn cv (O t)
  | none=>nw 5 k w w' e)->R e w')->Calls bbK 102 #[.string (bs s),.int .i64 k] w R from H _ yF
 intro R f;have u:∀ w2,Ext w w2->D8 s=V->∀ K:Y->Z->Prop,(∀ v w3,Ext w w3->BG s=O (.atom v)->K (aT v) w3)->Calls bbK 72 #[aT s,zi k] w2 (ends K (PC R)):=fun w2 a hu K x=>by
  refine(ahP s k w2 h).mono ?_;rintro e w3 ⟨i,d⟩;have c:BG s=(pG s).map .atom:=by grind [BG]
  cases j:pG s with
  | some v=>
   rw[j] at d c;subst d;exact x v w3 yF c
  | none=>
   rw[j] at d c;have y:=d;obtain⟨b,rfl,D,E⟩:=y;exact f _ _ (by grind [bB.trans,nw.ext])
 refine aOB ?_;refine⟨fun _ w'=>Ext w w'/\D8 s=V,?_,?_⟩
 .refine(aRK s w h q).mono ?_;rintro e w1 ⟨B,v,F,rfl,l,C⟩;rcases C with⟨rfl,m⟩| ⟨⟨t,p,rfl⟩,m⟩
  .refine bH ?_;refine⟨fun z w'=>Ext w w'/\z 19 = .bool (decide (gX v=s)),?_,?_⟩
   .refine bH ?_;refine a1r (aog v l.1 l.2 w1 (r.ext B)) ?_;rintro e w2 ⟨rfl,a⟩;refine bH ?_;exact yF
   .rintro z w2 ⟨a,g⟩ n;have mX:=ass m;rw[g];by_cases o:gX v=s
    .rw[zip o] at mX;have:decide (gX v=s)=true:=zg;rw[this];refine bH ?_;exact f _ _ ⟨a,by unfold BG;rw[mX];exact⟨_,J,J⟩⟩
    .rw[bM o] at mX;have:decide (gX v=s)=false:=zg;rw[this];refine bH ?_;exact yF
  .refine bH ?_;refine⟨fun z w'=>w'=w1/\z 19 = .bool G,?_,?_⟩
   .exact eT
   .rintro z w2 ⟨rfl,g⟩ n;rw[g];refine bH ?_;grind [asu]
 .rintro z w2 ⟨a,hu⟩ n;refine u w2 a hu _ fun v w3 i c=>?_;refine bH ?_;exact f _ _ ⟨i,by rw[c];exact⟨_,J,J⟩⟩
def aRT{sh:Bs}(h:Jr w mb v sh)(x:UInt8)(F:sh.length<=1000000):Calls bbK 103 #[v,.int .u8 (x.toNat:Int)] w fun e w'=>e = ah (.bool (sh.contains x))/\w'=w:=by
 suffices H:∀ R:Ending->Z->Prop,(∀ e w',(e = ah (.bool (sh.contains x))/\w'=w)->R e w')->Calls bbK 103 #[v,.int .u8 (x.toNat:Int)] w R from H _ zg;intro R s;refine aRP ?_;have j:Calls bbK 136 #[v,.int .u8 (x.toNat:Int)] w fun e w'=>w'=w/\∃ i:Int,e = ah (zi i)/\(decide (i ≥ 0)=sh.contains x):=by
  suffices H:∀ R:Ending->Z->Prop,(∀ e w',(w'=w/\∃ i:Int,e = ah (zi i)/\(decide (i ≥ 0)=sh.contains x))->R e w')->Calls bbK 136 #[v,.int .u8 (x.toNat:Int)] w R from H _ zg;intro R s;obtain⟨a,c,hv⟩:∃ a c,v = .slice a sh.length c:=by
   rcases h with⟨k,t⟩| ⟨b,p,-,k,-⟩<;>grind
  subst hv;refine aRQ ?_;refine bH ?_;refine⟨fun m z w'=>∃ q,z 8=zi ((q:Nat):Int)/\q<=sh.length/\m=sh.length-q/\w'=w/\∀ y∈sh.take q,y≠x,⟨_,0,J,Nat.zero_le _,J,J,zs⟩,?_⟩;intro m z d w2 j;refine toPr ?_;obtain⟨q,l,I,rfl,rfl,K⟩:=j;by_cases L:q<sh.length
  .obtain⟨b,p,u,n⟩:∃ b z,a=O ⟨b,0,V⟩/\w2.heap[b]?=O (ae (uJ sh).toArray 5 z):=by
    rcases h with⟨k,-⟩| ⟨b,p,-,k,-,t⟩<;>grind
   subst u;have g:((q:Nat):Int)<(sh.length:Int):=zo;have r:((q:Nat):Int).toNat=q:=zo;obtain⟨y,C⟩:=cg (sh[q]);have o:(uJ sh).toArray[q]?=O (.int .u8 (y.toNat:Int)):=zg;obtain⟨B,D⟩:=cg ((uJ sh).toArray);rw[<- D] at n o;by_cases E:y=x
   .have f:(x.toNat:Int)=(y.toNat:Int):=zg;refine dB l g n (zA o (zA @r f)) ?_;grind
   .have f:¬ (x.toNat:Int)=(y.toNat:Int):=(by grind [UInt8.toNat_inj]);refine dB l g n (zA o (zA @r f)) ?_;refine⟨_,?_,q+1,J,zo,J,?_⟩
    .omega
    grind [List.take_succ,List.getElem?_eq_getElem,Option.toList_some,List.mem_singleton]
  .have g:¬ ((q:Nat):Int)<(sh.length:Int):=zo;refine dj l g ?_;grind
 refine j.mono ?_;rintro e w2 ⟨rfl,i,rfl,hi⟩;refine bH ?_;grind
structure Ma(base xb:Nat)(cv sv:Y)(w:Z)(i:P.In):Prop where
 cell:w.heap[xb]?=aO #[aT i.word,aT i.name,cv,sv] 198
 con:yn cv i.const
 row:w.ownsRow base 3 1 sv i.s.length (uS i.s)
abbrev Mb(base xb:Nat)(w w':Z):Prop:=bB (fun b _=>b=xb\/base<=b) w w'
theorem Ma.ext{base xb:Nat}{cv sv:Y}{w w':Z}{i:P.In}(h:Ma base xb cv sv w i)(a:Ext w w'):Ma base xb cv sv w' i:=⟨a.ext _ _ h.cell,h.con,jL a.ext h.row⟩
def yn.cases{cv:Y}{c:Option Tm}(h:yn cv c):cv = ai\/∃ t u,cv = aj t u:=by
 cases c with
 | none=>exact .inl h
 | some t=>
  cases t with
  | atom s=>exact .inr ⟨_,_,h⟩
  | int s=>exact .inr ⟨_,_,h⟩
  | var i=>exact h.elim
  | comp s l=>exact h.elim
def ahR{cv:Y}{a:Option Addr}{i:P.In}(h:Ma base xb cv (.slice a n c) w i)(E:base<=w.heap.size)(hx:xb<base)(F:i.s.length<=1000000)(s:Nat){K:Y->Z->Prop}
  (u:∀ a' l f w',w'.heap[xb]?=aO #[aT i.word,aT i.name,cv,.slice a n c] 198 ->
   Ma base xb cv (.slice a' l f) (bQ w' xb (ae #[aT i.word,aT i.name,cv,.slice a' l f] 198)) { i with s:=i.s++[s] } ->
   Mb base xb w (bQ w' xb (ae #[aT i.word,aT i.name,cv,.slice a' l f] 198))->K (.slice a' l f) w') :
  WR bbK (a1Y #[45,45] 45 #[.slice a n c,cS w.heap.size 1 1]) (w.alloc (ae #[zi (s:Int)] 3)) K X:=by
 have d:Ext w (w.alloc (ae #[zi (s:Int)] 3)):=yF;obtain⟨w1,x⟩:=cg (w.alloc (ae #[zi (s:Int)] 3));have g1:w1.heap[w.heap.size]?=aO #[zi (s:Int)] 3:=yH;rw[<- x] at d ⊢;have s1:=d.size;have m:=h.ext d;refine aq3 m.row g1 J zo zo fun v' w' p j hv=>?_;obtain⟨a',f,rfl⟩:=gV p;have y:∀ b o,b<base->w1.heap[b]?=O o->w'.heap[b]?=O o:=fun b o H eZ=>by
  rw[j.block b (bg eZ) (fun e=>?_)]
  .exact yH
  .rcases m.row.2 with⟨k,-⟩| ⟨g,cap,cur,k,q,-⟩
   .rw[k] at e;cases e
   .rw[k] at e;injection e with e;grind
 have t:=y _ _ hx m.cell;have z:=bg t;refine u _ _ _ _ t ⟨yH,h.con,?_⟩ ?_
 .have B:(i.s++[s]).length=i.s.length+1:=zs;have C:uS (i.s++[s])=uS i.s++[zi (s:Int)]:=zg;show World.ownsRow _ base 3 1 _ (i.s++[s]).length (uS (i.s++[s]));rw[B,C];refine⟨p.1,?_⟩;rcases p.2 with r | ⟨g,cap,cur,k,q,I,D⟩
  .exact yH
  .exact .inr ⟨g,cap,cur,k,q,yH,D⟩
 .have L:=j.size;refine bB.bQ ⟨j.os.trans d.os,j.tape.trans d.tape,j.output.trans d.output,zo,fun b o eZ M=>?_⟩ yH;exact yH
def P.aRV(slots:Nat)(x:UInt8)(r:Bs)(ws:List Bs)(i:P.In):lY slots (x::r) ws i=if x=42 then match x7 slots ws with
  | some l=>O ({ i with s:=i.s++l },[])
  | none=>V
 else match ws with
  | []=>V
  | w::ws=>
   if x=115 then match ji w slots with
    | some s=>lY slots r ws { i with s:=i.s++[s] }
    | none=>V
   else if x=99 then match BG w with
    | some t=>lY slots r ws { i with const:=O t }
    | none=>V
   else if x=110 then match pG w with
    | some t=>lY slots r ws { i with name:=t }
    | none=>V
   else match ji w 10000 with
    | some s=>lY slots r ws { i with s:=i.s++[s] }
    | none=>none:=rfl
theorem P.asx(slots:Nat)(w:Bs)(ws:List Bs):rm slots (w::ws)=match kS w with
 | none=>V
 | some sh=>match lY slots sh ws ⟨w,[],V,[]⟩with
  | some (i,[])=>if ((w=[109,97,107,101]\/w=[115,112,108,105,116])/\i.s.length<2)\/(w=mr/\jw i.name≠i.s.length) then V else O i
  | _=>none:=rfl
