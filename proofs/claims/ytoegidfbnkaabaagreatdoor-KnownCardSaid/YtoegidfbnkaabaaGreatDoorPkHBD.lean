/- A part of one proof (KG18, VP1, VP2, VP3, ShX4d, ShX4b, VP4, VP5). -/
import Derived.Test.YtoegidfbnkaabaaGreatDoorPkHBC
import Derived.Lib.AtoiAllCases
import Derived.Lib.ParseIntBTie
import Derived.Shelf.Strings.SlTrimAscii
set_option linter.all false
set_option maxRecDepth 100000
set_option maxHeartbeats 8000000
open Option renaming some → O, none → V
open Go renaming Value → Y, World → Z
open Bool renaming true → A, false → G
open Go.Obj renaming cells → ae
open Go.Ending renaming returned → ah
open Go.Value renaming nilIface → ai, iface → aj, tuple → ak, pointer → aq
open Go.Calls renaming mono → a0c
open List renaming mem_cons → a0n, mem_cons_self → a0p
open Option renaming map_eq_some_iff → a0B
open Go.Builtin renaming append_ → a0G
open Go.Lib renaming atoiAll → a1O, trimS → a2w, atoiAll_bounds → a3p
open Go.Proofs.Tryz renaming prog → bai
namespace Go.Proofs.YtoegidfbnkaabaaGreatDoor
open P
open Go.RowKit Sx
variable{X:Y->Z->Prop}{b base c m mb n pb xb:Nat}{s:Bs}{v:Y}{tF:Nat->Nat}{w w' w0:Z}{xs:List Y}
def Tryz.aQ2:(Tryz.prog.info? 211).map (fun i=>(i.zero,i.size,i.bytes))=O (O (aq V),1,8):=zk
def Tryz.aQ3:(Tryz.prog.info? 185).map (fun i=>(i.zero,i.size,i.bytes))=O (O (aq V),1,8):=zk
def aQ4(c:w.ownsRow base 211 1 v n xs){q:Nat}
  (d:w.heap[b]?=aN #[pp q] 211)
  (p:n<=100000000) (f:base<=w.heap.size) {K:Y->Z->Prop}
  (h:∀ v' w',w'.ownsRow base 211 1 v' (n+1) (xs++[pp q])->w.grownBy w' v.ownBlock->(v'.ownBlock=v.ownBlock\/∀ k,v'.ownBlock=O k->w.heap.size<=k)->K v' w') :
  WR bai (a0G #[209,209] 209 #[v,cM b 1 m]) w K X:=by
 obtain⟨i,g,a⟩:=a0B.1 Tryz.aQ2;simp only[Prod.mk.injEq] at a;obtain⟨j,l,o⟩:=a;refine Sx.C6 (m:=1) (t:=209) (e:=211) zk g j l o J zo c d J (fun u hu=>?_) zo zo f h;simp only[a0n,List.not_mem_nil,or_false] at hu;subst hu;rfl
def arn(c:w.ownsRow base 185 1 v n xs){q:Nat}
  (d:w.heap[b]?=aN #[pp q] 185)
  (p:n<=100000000) (f:base<=w.heap.size) {K:Y->Z->Prop}
  (h:∀ v' w',w'.ownsRow base 185 1 v' (n+1) (xs++[pp q])->w.grownBy w' v.ownBlock->(v'.ownBlock=v.ownBlock\/∀ k,v'.ownBlock=O k->w.heap.size<=k)->K v' w') :
  WR bai (a0G #[192,192] 192 #[v,cM b 1 m]) w K X:=by
 obtain⟨i,g,a⟩:=a0B.1 Tryz.aQ3;simp only[Prod.mk.injEq] at a;obtain⟨j,l,o⟩:=a;refine Sx.C6 (m:=1) (t:=192) (e:=185) zk g j l o J zo c d J (fun u hu=>?_) zo zo f h;simp only[a0n,List.not_mem_nil,or_false] at hu;subst hu;rfl
theorem aQ5{α:Type}(f:α->α)(l:List α)(a:α):(l++[a]).modify l.length f=l++[f a]:=by
 have:=WY f l [a] 0;grind
def Bz.aQ6{rN:Nat->Y}{l:List Pd}(h:Bz pb w v tF rN l)(hk:∀ (b T:Nat) (cs:Array Y),w.heap[b]?=aN cs T->w'.heap[b]?=aN cs T):Bz pb w' v tF rN l:=
 ⟨FJ h.row yH,h.lo,(by grind [cell]),fun i p a=>let ⟨fR,c,d⟩:=h.cl i p a;⟨fR,(by grind [FJ]),(by grind [rL.agR])⟩,h.ne,h.nc⟩
def aQ7{w:Z}{bv:Y}{YR:List Y}{cs:List P.Cl}{qb nv:Nat}{nm:Bs}{av xv Uy:Y}{x:Bd}(hv:fD (fun _=>True) w 79 bv YR)(hc:ko (fun _=>True) w YR cs)(de:∀ c∈cs,P.qn c)(hn:cs.length<=40)
  (hq:w.heap[qb]?=aN #[aM nm,av,xv,Uy] 86) (wh:∃ a c,Uy = .slice a nv c) (gi:ln (fun _=>True) w av []) (rm:dJ (fun _=>True) w xv x) (eX:eV nv 2900 x) (QG:iS x<=5800) (mC:nv<=12) (hP:kJ w) :
  Calls bai 41 #[bv,pp qb] w fun e w'=>Ext w w'/\match Cj cs x nv with
   | none=>e = ah (ak #[.string (bs []),.bool G])
   | some t=>e = ah (ak #[.string (bs t),.bool A]):=by
 suffices H:∀ R:Ending->Z->Prop,(∀ e w',(Ext w w'/\match Cj cs x nv with
   | none=>e = ah (ak #[.string (bs []),.bool G])
   | some t=>e = ah (ak #[.string (bs t),.bool A]))->R e w')->Calls bai 41 #[bv,aq (O ⟨qb,0,V⟩)] w R from H _ yF
 intro R hR;have gT:=hc.len;obtain⟨ba,bc,rfl⟩:=hv.sl;refine aQW ?_;refine cG @Vu ?_;obtain⟨w0,xZ⟩:=b9 (((w.alloc (ae #[aM []] 9 (0,0))).alloc (ae #[.bool G] 4)).alloc (.map #[] 0));rw[size_alloc,size_alloc,<- xZ];have mU:Ext w w0:=yF;have b0:w0.heap[w.heap.size]?=aN #[aM []] 9:=yH;have b1:w0.heap[w.heap.size+1]?=aN #[.bool G] 4:=yH;have b2:w0.heap[w.heap.size+1+1]?=O (eJ (rM 0 [])):=by rw[xZ];exact qG (yH)
 clear xZ;obtain⟨I,aro⟩:=b9 w.heap.size;obtain⟨L,PA⟩:=b9 (w.heap.size+1);obtain⟨mb,K0⟩:=b9 (w.heap.size+1+1);rw[<- K0,<- PA,<- aro];rw[<- aro] at b0;rw[<- PA] at b1;rw[<- K0] at b2;obtain⟨B,hB⟩:=b9 (w.heap.size+3);have arp:∀ w',Ext w w'->w'.heap[I]?=aN #[aM []] 9->w'.heap[L]?=aN #[.bool G] 4->Cj cs x nv=V ->
   LV bai (fun wz=>RD bai (Instr.loadAt 9 (pp I)) wz (fun r=>RD bai (Instr.loadAt 4 (pp L)) wz (fun r_1=>R (ah (ak #[r,r_1])) wz) NX) NX) R [{ target:=.fn (.func 79) #[pp I,pp L],args:=#[]++#[] }] (.panicking [{ v:=aj 27 (zi 4),recovered:=false }]) w':=by
  intro w' hE' h4 h5 UI;have l4:=bf h4;have l5:=bf h5;refine aQ1 h4 h5 zo ?_;obtain⟨w2,jV⟩:=b9 (bO (bO w' I (ae #[aM []] 9 (0,0))) L (ae #[.bool G] 4));have g1:w2.heap[I]?=aN #[aM []] 9:=yH;have g2:w2.heap[L]?=aN #[.bool G] 4:=yH;have dM:Ext w w2:=yF;rw[<- jV];refine dy @g1 @g2 ?_;grind
 refine⟨fun m z w'=>∃ j f qz rN v,z 17=zi ((j:Nat):Int)/\z 6=v/\j<=cs.length/\m=cs.length-j/\Ext w w'/\w'.heap[I]?=aN #[aM []] 9/\w'.heap[L]?=aN #[.bool G] 4/\w'.heap[mb]?=O (eJ (rM 0 f)) /\
   Bz B w' v qz rN f/\xK cs []=xK (cs.drop j) f/\(∀ p∈f,p.arity<=4)/\f.length<=j/\(∀ p∈f,p.clauses.length<=j),
  ⟨_,0,[],fun _=>0,fun _=>bH,bH,J,J,Nat.zero_le _,J,mU,b0,b1,b2,⟨⟨J,yH⟩,zg,yH,zg,zg,zg⟩,J,zg,Nat.le_refl _,zg⟩,?_⟩
 intro m z d w3 hI;refine toPr ?_;obtain⟨j,f,qz,rN,v,Q,h6,hj,rfl,eI,g0,g1,g2,hG,heq,kT,uf,aQ9⟩:=hI;have lmb:=bf g2;obtain⟨ra,rc,rfl⟩:=gX hG.row;by_cases fx:j<cs.length
 .obtain⟨u,uB,Fk⟩:=ko.Cw j fx hc;obtain⟨cb,cav,cbv,XG,Tp,rfl,-,gF,mN,arq⟩:=Fk;obtain⟨gg,gcs,e3,e4,e5,e6⟩:=hv.at' (j:=j) zo;simp only[Value.slice.injEq,true_and] at e3;obtain⟨rfl,rfl⟩:=e3;rw[uB] at e6;obtain⟨c,Fp⟩:=b9 (cs[j]);rw[<- Fp] at gF mN arq;have N:P.qn c:=zg;have jJ:((j:Nat):Int).toNat=j:=zo;have fJ:((j:Nat):Int)<(YR.length:Int):=zo;have e53:=eI.ext _ _ e5;have KB:=eI.ext _ _ gF;have dA:Ext w3 w3.drew:=yF;obtain⟨di,Yf,aRb⟩:=id mN;have ars:=aRb.Fg;obtain⟨aa,ac,rfl⟩:=Yf.sl;have wN:=N.cl.ql;have xE:=N.name;refine dC Q fJ @e53 (zA @e6 (zA @jJ KB)) ?_;rw[ars];refine a0c (afq c.name c.args.length zo zo w3.drew) ?_;rintro e w4 ⟨rfl,rfl⟩;refine bD ?_;have YS:=dA.ext _ _ g2;obtain⟨kv,YT,wO,aRc⟩:∃ (kv:Nat) (YT:Bool),(∀ {K:Y->Prop} {X:Y->Z->Prop},K (ak #[zi (kv:Int),.bool YT])->RD bai (Instr.lookup 210 (.map (O mb)) (aM (P.keyOf c.name c.args.length)) A) w3.drew K X) /\
    ((YT=G/\fH (P.keyOf c.name c.args.length) (rM 0 f) 0=V/\∀ x,rz c.name c.args.length x f=f++[⟨c.name,c.args.length,[x]⟩])\/(YT=A/\kv<f.length/\∀ x,rz c.name c.args.length x f=f.modify kv fun p=>{ p with clauses:=p.clauses++[x] })):=by
   cases hf:fH (P.keyOf c.name c.args.length) (rM 0 f) 0 with
   | none=>
    refine⟨0,G,fun hK=>?_,.inl ⟨J,J,fun x=>?_⟩⟩
    .rw[KV (k:=9) (e:=3) (z:=zi 0) zk zk zk YS _ A,hf];grind
    .have:=YQ (name:=c.name) (n:=c.args.length) zo x f 0 0 zg;grind
   | some qv=>
    obtain⟨q,v⟩:=qv;have h0:=YQ (name:=c.name) (n:=c.args.length) zo default f 0 0 zg;rw[hf] at h0;obtain⟨k,e1,e2,X3,-⟩:=h0;rw[Nat.zero_add] at e1 e2;subst e1 e2;refine⟨q,A,fun hK=>?_,.inr ⟨J,X3,fun x=>?_⟩⟩
    .rw[KV (k:=9) (e:=3) (z:=zi 0) zk zk zk YS _ A,hf];grind
    .have:=YQ (name:=c.name) (n:=c.args.length) zo x f 0 0 zg;grind
  refine wO ?_;refine bD ?_;refine⟨fun s E=>∃ l' M S v' k,s 6=v'/\s 11=zi ((k:Nat):Int)/\Ext w E/\E.heap[I]?=aN #[aM []] 9/\E.heap[L]?=aN #[.bool G] 4/\E.heap[mb]?=O (eJ (rM 0 l')) /\
    Bz B E v' M S l'/\k<l'.length/\(∀ x,rz c.name c.args.length x f=l'.modify k fun p=>{ p with clauses:=p.clauses++[x] })/\(∀ p∈l',p.arity<=4)/\l'.length<=j+1/\(∀ p∈l',p.clauses.length<=j),?_,?_⟩
  .rcases aRc with⟨rfl,hf,U⟩| ⟨rfl,xS,U⟩
   .refine cG h6 ?_;rw[xX (k:=9) (e:=3) zk zk YS _ hf];obtain⟨C,YU⟩:=b9 (bO w3.drew mb (eJ (rM 0 f++[(P.keyOf c.name c.args.length,Value.int .i64 (f.length:Int))])));rw[<- YU];have hkM:∀ (b T:Nat) (cs:Array Y),w3.heap[b]?=aN cs T->C.heap[b]?=aN cs T:=fun b T cs hx=>by
     rw[YU,jd (fun e=>by rw[e,g2] at hx;cases hx)];exact yH
    have hEM:Ext w C:=yF;have gM:C.heap[mb]?=O (eJ (rM 0 (f++[⟨c.name,c.args.length,[]⟩]))):=by
     rw[YU,arj,Nat.zero_add];exact yH
    have sM:C.heap.size=w3.heap.size:=yH;clear YU;have aru:=hkM _ _ _ KB;have hGM:=hG.aQ6 hkM;have hdM:Ext C C.drew:=yF;refine⟨fun w'=>Ext C w',hdM,?_⟩;rw[jx];refine cQ (pp cb) (fun w' h=>eQ) ?_;refine cQ (aM c.name) (fun w' h=>by have g:=h.ext _ _ aru;have:=bf g;exact fg g) ?_;refine cG aru ?_;rw[ars];obtain⟨W,Kg⟩:=b9 (C.drew.alloc (ae #[aM c.name,zi (c.args.length:Int),bH] 213));rw[<- Kg];have Gu:Ext C W:=yF;have gB:W.heap[C.heap.size]?=aN #[aM c.name,zi (c.args.length:Int),bH] 213:=yH;have sB:W.heap.size=C.heap.size+1:=yH;clear Kg;obtain⟨wC,hwC⟩:=b9 (W.alloc (ae #[pp C.heap.size] 211));have hEC:Ext W wC:=yF;have gC:wC.heap[W.heap.size]?=aN #[pp C.heap.size] 211:=yH;have sC:wC.heap.size=W.heap.size+1:=yH;refine⟨Gu,?_⟩;rw[<- hwC];refine⟨yF,?_⟩;have UJ:=hGM.ext (Gu.trans hEC);have YV:Ext w wC:=yF;rw[h6];rw[sB] at gC;refine aQ4 (base:=B) UJ.row gC zo zo fun v' w5 ho l DE=>?_;have K6:=l.size;have lX:Ext w w5:=⟨l.os.trans YV.os,l.tape.trans YV.tape,l.output.trans YV.output,zo,fun b o hb _=>by
     have F:=YV.ext _ _ hb;rw[l.block b (bf F) (fun e=>?_)]
     .omega
     .have:=(Ef UJ.row e.symm).1;grind⟩
    have qM:∀ {b T:Nat} {cs:Array Y},T≠211->wC.heap[b]?=aN cs T->w5.heap[b]?=aN cs T:=fun hT hx=>FK UJ.row l hT hx;have IQ:w5.heap[mb]?=O (eJ (rM 0 (f++[⟨c.name,c.args.length,[]⟩]))):=by
     have F:=(Gu.trans hEC).ext _ _ gM;rw[l.block mb (bf F) (fun e=>?_)]
     .omega
     .obtain⟨-,-,cs',g⟩:=Ef UJ.row e.symm;rw[F] at g;cases g
    have hGN:=UJ.new (nb:=C.heap.size) (n:=c.args.length) (name:=c.name) yH zo (fun i hi=>by
     have:=bf (hGM.cell i f[i] zg);omega) ho l
    refine⟨f++[⟨c.name,c.args.length,[]⟩],_,_,v',f.length,J,J,lX,?_,?_,IQ,hGN,zs,fun x=>?_,fun p hp=>?_,zg,fun p hp=>?_⟩
    .exact qM zo ((Gu.trans hEC).ext _ _ yH)
    .exact qM zo (by grind [bz.ext,bz.trans])
    .grind [aQ5]
    .grind
    grind
   .refine cG h6 ?_;exact⟨f,qz,rN,_,kv,zg,zg,yF,yH,yH,YS,hG.ext dA,xS,U,kT,zo,aQ9⟩
  .rintro s E ⟨l',M,S,v',k,s6,s11,jX,q0,q1,q2,pM,xS,U,aYY,aYZ,aY0⟩ dd;obtain⟨p,G7⟩:=b9 (l'[k]);have UH:l'[k]?=O p:=zg;obtain⟨fR,jb,jh⟩:=pM.cl k p UH;have ox:=pM.cell k p UH;have zu:Ext E E.drew:=yF;obtain⟨pg,pgc,pgu,lG,aY2,aY3⟩:=SX pM.row (t:=k) xS;subst lG;have ary:pgu[k]?=O (pp (M k)):=zg;have oS:((k:Nat):Int).toNat=k:=zo;have vM:((k:Nat):Int)<(l'.length:Int):=zo;obtain⟨cla,clc,QN⟩:=gX jb;obtain⟨Cl,arz⟩:=b9 (S k);rw[<- arz] at ox jb QN;have aRi:=ox;rw[QN] at aRi;rw[s6,s11];refine⟨fun w'=>w'.heap[pg]?=aN pgu 211/\w'.heap[M k]?=aN #[aM p.name,zi (p.arity:Int),Cl] 213,yH,?_⟩;refine cQ (pq pg k) (fun w' h=>by have g:=h.1;have:=bf g;exact JB g vM @oS) ?_;refine cQ (pp (M k)) (fun w' h=>by have g:=h.1;have:=bf g;exact lT g ary) ?_;refine cQ (pq pg k) (fun w' h=>by have g:=h.1;have:=bf g;exact JB g vM @oS) ?_;refine cQ (pp (M k)) (fun w' h=>by have g:=h.1;have:=bf g;exact lT g ary) ?_;rw[jx];refine cQ (pq (M k) 2) (fun w' h=>eQ) ?_;refine cQ Cl (fun w' h=>by have g:=h.2;have:=bf g;rw[QN] at g ⊢;exact fg g) ?_;have arA:=jX.trans zu;have aRj:ln (fun _=>True) E.drew (.slice aa di.length ac) c.args:=ln.mono zg (by grind [bz.ext]) mN;have aRk:dJ (fun _=>True) E.drew cbv c.body:=dJ.mono zg (by grind [bz.ext]) _ _ arq;refine a0c (aqQ G (arA.ext _ _ gF) ⟨_,_,J⟩ aRj aRk N.cl.args N.cl.ql N.cl.sz N.cl.body N.bsz N.vs.1) ?_;rintro e w7 ⟨QM,D⟩;have arB:xK cs []=match Bg c.args c.body c.vars.length G with
     | none=>V
     | some x=>xK (cs.drop (j+1)) (rz c.name c.args.length x f):=by
    rw[heq,List.drop_eq_getElem_cons fx,<- Fp];rfl
   have Gl:=arA.trans QM;have UK:=zu.trans QM;cases N4:Bg c.args c.body c.vars.length G with
   | none=>
    rw[N4] at D arB;have D:e=gV (.fault 4):=D;subst D;exact fun fq=>arp w7 Gl (UK.ext _ _ q0) (UK.ext _ _ q1) (by grind [Cj])
   | some co=>
    rw[N4] at D arB;obtain⟨cm,he,CY,vn⟩:=D;subst he;have FI:=pM.ext UK;have aRm:=jM UK.ext jb;refine⟨(by grind [bz.ext]),?_⟩;rw[QN];refine bD ?_;obtain⟨w8,Lq⟩:=b9 (w7.alloc (ae #[pp cm] 185));have vH:Ext w7 w8:=yF;have g8:w8.heap[w7.heap.size]?=aN #[pp cm] 185:=yH;rw[<- Lq];have YW:=UK.trans vH;have sI:=Gl.trans vH;have NY:=FI.ext vH;have UL:=jM vH.ext aRm;have sz8:=sI.size;refine⟨(by grind [bz.ext]),?_⟩;rw[<- QN];have jY:p.clauses.length<=j:=zg;have xp:=bf q2;have aY5:=YW.size;refine arn (base:=B) UL g8 zo zo fun v9 w9 ho l FH=>?_;have K6:=l.size;have I6:∀ {b T:Nat} {cs:Array Y},T≠185->w8.heap[b]?=aN cs T->w9.heap[b]?=aN cs T:=(by grind [FK]);have YX:=I6 zd (YW.ext _ _ ox);refine⟨(by grind [bz.ext]),?_⟩;have lc9:=bf YX;obtain⟨va9,vc9,arC⟩:=gX ho;rw[QN] at YX;have aRn:=YX;rw[arC];refine dy YX Q ?_;rw[<- arC];obtain⟨wF,Fq⟩:=b9 (bO w9 (M k) (ae #[aM p.name,zi (p.arity:Int),v9] 213));rw[<- Fq];rw[arz] at UL l FH;have hGF:=NY.push UH UL (by grind [rL.ext]) (vn.ext vH) ho l FH;rw[<- Fq] at hGF;have hEF:Ext w wF:=by
     have kK:Ext w w9:=⟨l.os.trans sI.os,l.tape.trans sI.tape,l.output.trans sI.output,zo,fun b o hb _=>by
      have F:=sI.ext _ _ hb;rw[l.block b (bf F) (fun e=>?_)]
      .omega
      .have:=(Ef UL e.symm).1;grind⟩
     rw[Fq];exact kK.bO (.inr (by have:=pM.lo k xS;omega))
    have aY9:∀ {b T:Nat} {cs:Array Y},T≠185->T≠213->E.heap[b]?=aN cs T->wF.heap[b]?=aN cs T:=fun{b T cs} h1 h2 hx=>by
     have wX:=I6 h1 (YW.ext _ _ hx);exact yH
    have hmF:wF.heap[mb]?=O (eJ (rM 0 (l'.modify k fun p=>{ p with clauses:=p.clauses++[co] }))):=by
     rw[ark];have F:=YW.ext _ _ q2;have ff:w9.heap[mb]?=O (eJ (rM 0 l')):=by
      rw[l.block mb (bf F) (fun e=>?_)]
      .exact F
      .obtain⟨-,-,cs',g⟩:=Ef UL e.symm;rw[F] at g;cases g
     rw[Fq,jd]
     .omega
     .rintro rfl;rw[aRn] at ff;cases ff
    refine⟨_,?_,j+1,l'.modify k fun p=>{ p with clauses:=p.clauses++[co] },M,_,_,zg,zg,zo,J,hEF,yH,yH,hmF,hGF,?_,fun y hy=>?_,zg,fun y hy=>?_⟩
    .omega
    .grind
    .rcases W0 hy with hy | ⟨y0,IF,rfl⟩<;>grind
    .rcases W0 hy with hy | ⟨y0,IF,rfl⟩<;>grind
 .have fx:j=cs.length:=zo;subst fx;have fJ:¬ (cs.length:Int)<(YR.length:Int):=zo;rw[List.drop_length,xK] at heq;obtain⟨va,vc,rfl⟩:=wh;have Bl:=eI.ext _ _ hq;have dA:Ext w3 w3.drew:=yF;have sx:=eI.trans dA;refine dy Q fJ ?_;refine⟨fun w'=>w'.heap[qb]?=aN #[aM nm,av,xv,.slice va nv vc] 86,yH,?_⟩;rw[jx];refine cQ (pq qb 3) (fun w' h=>eQ) ?_;refine cQ (.slice va nv vc) (fun w' h=>by have:=bf h;exact fg h) ?_;refine cQ (zi (nv:Int)) (fun w' h=>eQ) ?_;have FB:ln (fun _=>True) w3.drew av []:=ln.mono zg (by grind [bz.ext]) gi;have aRp:dJ (fun _=>True) w3.drew xv x:=dJ.mono zg (by grind [bz.ext]) _ _ rm;refine a0c (aqQ A (sx.ext _ _ hq) ⟨_,_,J⟩ FB aRp eZ.nil zs (by simp [ft]) eX QG mC) ?_;rintro e w7 ⟨QM,D⟩;have QO:=dA.trans QM;have Gl:=eI.trans QO;cases N4:Bg [] x nv A with
  | none=>
   rw[N4] at D;have D:e=gV (.fault 4):=D;subst D;exact fun fq=>arp w7 Gl (QO.ext _ _ g0) (QO.ext _ _ g1) (by grind [Cj])
  | some ask=>
   rw[N4] at D;obtain⟨cm,he,CY,vn⟩:=D;subst he;refine⟨QO.ext _ _ Bl,?_⟩;have oD:Cj cs x nv=O (yZ f ask nv):=by grind [Cj]
   obtain⟨p1,p2,p3,p4⟩:=amM de hn heq;have Tv:=WX N4 eZ.nil (by simp [ft]) eX QG mC;have Bk:=amG N4 eZ.nil eX;have hlen:=aH9 p1 Tv (show nv<=1000 by omega);have FI:=hG.ext QO;have aRq:fD (fun _=>True) w7 211 (.slice ra f.length rc) ((List.range f.length).map fun i=>Value.pointer (O ⟨qz i,0,V⟩)):=EC FI.row zg;rw[h6];refine a0c (aQN aRq zs (fun i p hi=>?_) vn p2 ⟨Tv,Bk⟩ zg zg zo zo (hP.ext Gl) zo) ?_
   .have kS:i<f.length:=by
     grind
    refine⟨qz i,zg,?_⟩;obtain⟨fR,e1,e2⟩:=FI.cl i p hi;exact⟨rN i,fR,FI.cell i p hi,(by grind [EC]),by have:=e1.1;omega,e2⟩
   rintro e w8 ⟨rfl,vH⟩;have agY:=QO.trans vH;have sI:=eI.trans agY;have g08:=agY.ext _ _ g0;have g18:=agY.ext _ _ g1;have l08:=bf g08;have l18:=bf g18;refine dy @g08 @g18 ?_;obtain⟨wF,Fq⟩:=b9 (bO (bO w8 I (ae #[aM (yZ f ask nv)] 9)) L (ae #[.bool A] 4));have f1:wF.heap[I]?=aN #[aM (yZ f ask nv)] 9:=yH;have f2:wF.heap[L]?=aN #[.bool A] 4:=yH;have hEF:Ext w wF:=yF;rw[<- Fq];refine aQ0 ?_;refine dy @f1 @f2 ?_;grind
def AI(w:Z):Prop:=∃ t1 p1 t2 p2,w.cell? ⟨6,0,V⟩=O (aj t1 p1)/\w.cell? ⟨7,0,V⟩=O (aj t2 p2)
theorem AI.ext{w w':Z}(h:AI w)(a:Ext w w'):AI w':=by
 obtain⟨t1,p1,t2,p2,b,c⟩:=h;exact⟨t1,p1,t2,p2,(by grind [Mb,bz.ext]),(by grind [Mb,bz.ext])⟩
def arF:∀ (l:Bs) (acc n:Nat),(∀ c∈l,P.digit c=A)->(l.foldl (fun v c=>10*v+((c.toNat:Int)-48)) (acc:Int))=(n:Int)->n<9223372036854775809->Go.Lib.parseUint10 acc l = .ok n
 | [],acc,n,_,h,_=>by
  have h:(acc:Int)=(n:Int):=h;have:acc=n:=zo;subst this;rfl
 | c::r,acc,n,b,h,d=>by
  have g:=b c a0p;have i:48<=c.toNat/\c.toNat<=57:=by grind [P.digit]
  have f:(10*(acc:Int)+((c.toNat:Int)-48))=((acc*10+(c.toNat-48):Nat):Int):=zo;rw[List.foldl_cons,f] at h;have j:acc*10+(c.toNat-48)<=n:=by
   have key:∀ (l:Bs) (a:Nat),(∀ c∈l,P.digit c=A)->(a:Int)<=l.foldl (fun v c=>10*v+((c.toNat:Int)-48)) (a:Int):=by
    intro l;induction l with
    | nil=>grind
    | cons x l ih=>
     intro a b;have hx:48<=x.toNat/\x.toNat<=57:=by grind [P.digit,a0p]
     have e:(10*(a:Int)+((x.toNat:Int)-48))=((a*10+(x.toNat-48):Nat):Int):=zo;rw[List.foldl_cons,e];have:=ih (a*10+(x.toNat-48)) zg;omega
   have:=key r (acc*10+(c.toNat-48)) zg;omega
  have ih:=arF r (acc*10+(c.toNat-48)) n zg h d;rw[Go.Lib.parseUint10];grind
def arG(a:n<9223372036854775809):Go.Lib.parseMag (gj n) = .ok n:=by
 unfold Go.Lib.parseMag;rw[bX (by grind [amS])];exact arF _ 0 n (Pj _ _) (W5 n) a
theorem arH{z:Int}(h:-9223372036854775808<=z/\z<=9223372036854775807):a1O (kV z) = .ok z:=by
 unfold kV;split
 .rename_i b;rw[Go.Lib.atoiAll_minus,arG zo];unfold Go.Lib.signed;grind
 .rename_i b;obtain⟨c,r,a,-⟩:=ade (z.natAbs+1) z.natAbs zo;have d:=Pj (z.natAbs+1) z.natAbs c (by rw[a];exact a0p);have e:48<=c.toNat/\c.toNat<=57:=by grind [P.digit]
  have hm:=arG (n:=z.natAbs) zo;unfold gj at hm ⊢;rw[a] at hm ⊢;rw[Go.Lib.atoiAll_plain c r zo zo,hm];unfold Go.Lib.signless;grind
def UM(h:Below w.heap.size w w'):Ext w w':=⟨h.os,h.tape,h.output,h.size,(by grind [bf,Below.block])⟩
def aRr(s:Bs)(w:Z)(h:s.length<=1000000)(d:AI w):Calls bai 100 #[aM s] w fun e w'=>Ext w w'/\∃ v b,e = ah (ak #[zi v,b])/\(-9223372036854775808<=v/\v<=9223372036854775807) /\
  ((b = ai/\a1O s = .ok v)\/((∃ t p,b = aj t p)/\∀ z,a1O s≠.ok z)):=by
 obtain⟨t1,p1,t2,p2,f,g⟩:=d;have i:(bs s).size<=1000000:=by show s.toArray.size<=_;omega
 cases a:a1O s with
 | ok v=>
  refine(Tryz.strconv_Atoi_ok (bs s) zo v a w).mono ?_;rintro e w' ⟨rfl,hw⟩;refine⟨?_,v,_,J,a3p a,zg⟩;rcases hw with rfl | ⟨t,rfl⟩
  .exact yF
  grind [abr]
 | range=>
  refine(Tryz.strconv_Atoi_range (bs s) zo a _ w g zg).mono ?_;rintro e w' ⟨N,rfl,-,-,c⟩;refine⟨UM c,_,_,J,?_,zg⟩;grind [Go.Lib.atoiSat]
 | _=>
  refine(Tryz.strconv_Atoi_syntax (bs s) zo a _ w f zg).mono ?_;rintro e w' ⟨N,rfl,-,-,c⟩;exact⟨UM c,0,_,J,zo,zg⟩
def aRs(s:Bs)(w:Z)(h:s.length<=1000000)(d:AI w):Calls bai 135 #[aM s,zi 10,zi 64] w fun e w'=>Ext w w'/\∃ v b,e = ah (ak #[zi v,b])/\(-9223372036854775808<=v/\v<=9223372036854775807) /\
  ((b = ai/\a1O s = .ok v)\/((∃ t p,b = aj t p)/\∀ z,a1O s≠.ok z)):=by
 obtain⟨t1,p1,t2,p2,f,g⟩:=d;have i:(bs s).size<=1000000:=by show s.toArray.size<=_;omega
 have he:=Go.Lib.parseIntB_64 s;cases a:a1O s with
 | ok v=>
  rw[a] at he;refine(Tryz.strconv_ParseInt_10_at64_ok (bs s) zo v he w).mono ?_;rintro e w' ⟨rfl,hw⟩;refine⟨?_,v,_,J,a3p a,zg⟩;rcases hw with rfl | ⟨t,rfl⟩
  .exact yF
  grind [abr]
 | range=>
  rw[a] at he;refine(Tryz.strconv_ParseInt_10_at64_range (bs s) zo he _ w g zg).mono ?_;rintro e w' ⟨N,rfl,-,-,c⟩;refine⟨UM c,_,_,J,?_,zg⟩;grind [Go.Lib.intSat_64,Go.Lib.atoiSat,Lib.intSat_64]
 | _=>
  rw[a] at he;refine(Tryz.strconv_ParseInt_10_at64_syntax (bs s) zo he _ w f zg).mono ?_;rintro e w' ⟨N,rfl,-,-,c⟩;exact⟨UM c,0,_,J,zo,zg⟩
def arI{v:Int}(h:a1O s = .ok v):DM s=if kV v=s then O v else none:=by
 by_cases he:kV v=s
 .rw[zip he,<- he,aIk (a3p h)]
 .rw[bX he];cases a:DM s with
  | none=>rfl
  | some z=>
   obtain⟨b,c⟩:=WT a;grind [arH,absurd]
theorem arJ(h:∀ z,a1O s≠.ok z):DM s=none:=by
 cases a:DM s with
 | none=>rfl
 | some z=>
  obtain⟨b,c⟩:=WT a;grind [arH,absurd]
def UN(k:Int)(w:Z):Calls bai 70 #[zi k] w fun e w'=>Ext w w'/\mR 5 k w w' e:=by
 refine aOj ?_;refine bD ?_;exact⟨yF,w.heap.size,J,yH,Nat.le_refl _⟩
theorem mR.ext{c a:Int}{e:Ending}(h:mR c a w w' e)(d:Ext w0 w):mR c a w0 w' e:=by
 obtain⟨b,f,g,i⟩:=h;exact⟨b,f,g,Nat.le_trans d.size i⟩
def N5(s:Bs)(n:Nat)(k:Int)(w:Z)(q:s.length<=1000000)(F:n<=100000)(r:AI w)(u:kJ w):Calls bai 73 #[.string (bs s),zi (n:Int),zi k] w fun e w'=>Ext w w'/\match kh s n with
  | some v=>e = ah (.int .i64 (v:Int))
  | none=>mR 5 k w w' e:=by
 suffices H:∀ R:Ending->Z->Prop,(∀ e w',(Ext w w'/\match kh s n with
  | some v=>e = ah (.int .i64 (v:Int))
  | none=>mR 5 k w w' e)->R e w')->Calls bai 73 #[.string (bs s),.int .i64 (n:Int),.int .i64 k] w R from H _ yF
 intro R x;refine aOk ?_;refine(aRr s w q r).mono ?_;rintro e w1 ⟨d,v,I,rfl,i,y⟩;have j:∀ w2,Ext w w2->kh s n=V->∀ K:Y->Z->Prop,Calls bai 70 #[zi k] w2 (ends K (PC R)):=fun w2 a hu K=>by
  refine(UN k w2).mono ?_;rintro e w3 ⟨L,B⟩;have C:=B;obtain⟨b,rfl,M,N⟩:=C;exact x _ _ (by grind [bz.trans,mR.ext])
 rcases y with⟨rfl,l⟩| ⟨⟨t,p,rfl⟩,l⟩
 .refine bD ?_;refine⟨fun _ w'=>Ext w w'/\kh s n=O v.toNat/\0<=v,?_,?_⟩
  .refine⟨fun z w'=>Ext w w'/\∃ b,z 30 = .bool b/\(b=A->kh s n=V)/\(b=G->kh s n=O v.toNat/\0<=v),?_,?_⟩
   .refine bD ?_;refine a0c (Ku v i.1 i.2 w1 (u.ext d)) ?_;rintro e w2 ⟨rfl,a⟩;have m:=arI l;have P:=d.trans a;by_cases c:kV v=s
    .rw[zip c] at m;have hu:kh s n=if 0<=v/\v<n then O v.toNat else none:=by grind [kh]
     rw[c];by_cases f:v<0
     .refine cG f ?_;exact yF
     .by_cases o:v ≥ (n:Int)
      .refine dy f o ?_;exact yF
      .refine dy f o ?_;exact yF
    .rw[bX c] at m;have hu:kh s n=none:=by grind [kh]
     have g:¬ bs (kV v)=bs s:=zg;refine dy c g ?_;exact yF
   .rintro z w2 ⟨a,b,h,D,Q⟩ E;rw[h];cases b with
    | true=>
     refine bD ?_;exact j w2 a (D J) _
    | false=>
     refine bD ?_;exact yF
  exact yF
 .have hu:kh s n=none:=by grind [kh,arJ]
  refine bD ?_;refine⟨fun _ _=>False,?_,zg⟩;refine⟨fun z w'=>z 30 = .bool A/\w'=w1,?_,?_⟩
  .exact eQ
  .rintro z w2 ⟨h,rfl⟩ E;rw[h];refine bD ?_;exact j w2 d hu _
abbrev AK:Bs:=[33,34,35,36,37,38,39,40,41,42,43,44,45,46,47,48,49,50,51,52,53,54,55,56,57,58,59,60,61,62,63,64,65,66,67,68,69,70,71,72,73,74,75,76,77,78,79,80,81,82,83,84,85,86,87,88,89,90,91,92,93,94,95,96,97,98,99,100,101,102,103,104,105,106,107,108,109,110,111,112,113,114,115,116,117,118,119,120,121,122,123,124,125,126]
theorem YY(x:UInt8):AK.contains x=decide (33<=x/\x<=126):=by
 have h:∀ n:Fin 256,AK.contains (UInt8.ofNat n.val)=decide (33<=UInt8.ofNat n.val/\UInt8.ofNat n.val<=126):=by decide +kernel
 have:=h ⟨x.toNat,x.toNat_lt⟩;simpa using this
theorem agZ{α:Type}{p:α->Bool}{c:α}:∀ {l:List α},c∈l->p c=G->c∈l.dropWhile p
 | x::l,h,a=>by
  rw[List.dropWhile_cons];split
  .rename_i hx;rcases a0n.1 h with rfl | h
   .grind
   .exact agZ h a
  omega
theorem arK{α:Type}{p:α->Bool}:∀ {l:List α},(∀ c∈l,p c=A)->l.dropWhile p=[]
 | [],_=>rfl
 | x::l,h=>by
  rw[List.dropWhile_cons,zip (h x a0p)];exact arK zg
def aRu(l:Bs):a2w l AK=[]↔l.all (fun c=>decide (33<=c/\c<=126))=true:=by
 unfold a2w Go.Lib.trimLeftS Go.Lib.trimRightS;constructor
 .intro h;rw[List.all_eq_true];intro c d;cases a:decide (33<=c/\c<=126) with
  | true=>rfl
  | false=>
   have b:c∈(l.reverse.dropWhile (AK.contains ·)).reverse:=by
    grind [agZ,YY]
   have e:=agZ (p:=(AK.contains ·)) b (by rw[YY];exact a);grind
 grind [List.all_eq_true,arK,YY]
def aRv(s:Bs)(w:Z)(c:s.length<=1000000):Calls bai 99 #[aM s,aM AK] w fun e w'=>e = ah (aM (a2w s AK))/\Ext w w':=by
 have d:(bs s).size<=1000000:=by show s.toArray.size<=_;omega
 refine(Any.strings_Trim_laid Tryz.lays160 zk (bs s) (bs AK) w zo zd (fun j b a=>?_)).mono ?_
 .have hm:=List.mem_of_getElem? a;have:b∈AK:=zo;have f:AK.contains b=true:=zg;grind [YY,UInt8.le_iff_toNat_le]
 .rintro e w' ⟨rfl,a⟩;exact⟨zg,UM a⟩
def ag1(s:Bs)(k:Int)(w:Z)(o:s.length<=1000000):Calls bai 72 #[.string (bs s),zi k] w fun e w'=>Ext w w'/\match pD s with
  | some v=>e = ah (.string (bs v))
  | none=>mR 5 k w w' e:=by
 suffices H:∀ R:Ending->Z->Prop,(∀ e w',(Ext w w'/\match pD s with
  | some v=>e = ah (.string (bs v))
  | none=>mR 5 k w w' e)->R e w')->Calls bai 72 #[.string (bs s),.int .i64 k] w R from H _ yF
 intro R p;have q:∀ w2,Ext w w2->pD s=V->∀ K:Y->Z->Prop,Calls bai 70 #[zi k] w2 (ends K (PC R)):=fun w2 m hu K=>by
  refine(UN k w2).mono ?_;rintro e w3 ⟨F,t⟩;have u:=t;obtain⟨b,rfl,I,L⟩:=u;exact p _ _ (by grind [bz.trans,mR.ext])
 refine aOl ?_;refine⟨fun _ w'=>Ext w w'/\pD s=O s,?_,?_⟩
 .refine bD ?_;refine⟨fun z w'=>Ext w w'/\∃ b,z 36 = .bool b/\(b=A->pD s=V)/\(b=G->pD s=O s),?_,?_⟩
  .cases s with
   | nil=>
    refine bD ?_;exact⟨yF,A,J,fun _=>rfl,zg⟩
   | cons c r=>
    have x:pD (c::r)=if 10<(c::r).length\/P.digit c=A\/(c::r).all (fun c=>decide (33<=c/\c<=126))=G\/(c=45/\r≠[]) then V else O (c::r):=rfl
    have g:decide (c::r=[])=false:=zs;by_cases M:10<(c::r).length
    .have a:(((c::r).length:Nat):Int) > 10:=zo;refine dy g a ?_;exact yF
    .have a:¬ (((c::r).length:Nat):Int) > 10:=zo;have y:∀ h:P.digit c=G,(a2w (c::r) AK≠[]->pD (c::r)=V)/\(a2w (c::r) AK=[]->c=45->1<(c::r).length->pD (c::r)=V)/\(a2w (c::r) AK=[]->(c≠45\/(c::r).length<=1)->pD (c::r)=O (c::r)):=fun h=>by
      have ht:=aRu (c::r);grind
     have d:(c::r).getD 0 0=c:=rfl;by_cases B:P.digit c=A
     .have N:48<=c.toNat/\c.toNat<=57:=by grind [P.digit]
      have f:(48:Int)<=(c.toNat:Int):=zo;have i:(c.toNat:Int)<=57:=zo;refine dC g a d (zA f i) ?_;exact yF
     .have h:P.digit c=false:=zg;obtain⟨Q,S,T⟩:=y h;have C:((48:Int)<=(c.toNat:Int)/\¬ (c.toNat:Int)<=57)\/¬ (48:Int)<=(c.toNat:Int):=by
       grind [P.digit]
      rcases C with⟨f,i⟩| f;all_goals
       first
        | simp (disch:=first|assumption|omega|simp only[zS]<;>omega|decide) only[zB,simprocAttr,lh,g,a,d,f,i]
        | simp (disch:=first|assumption|omega|simp only[zS]<;>omega|decide) only[zB,simprocAttr,lh,g,a,d,f]
       refine a0c (aRv (c::r) w o) ?_;rintro e w2 ⟨rfl,U⟩;by_cases j:a2w (c::r) AK=[]
       .rw[j];by_cases n:c=45
        .have hx:(c.toNat:Int)=45:=by rw[n];rfl
         first
          | (exfalso;omega)
          | (simp (disch:=first|assumption|omega|simp only[zS]<;>omega|decide) only[zB,simprocAttr,lh,d,hx];exact yF)
        .have hx:¬ (c.toNat:Int)=45:=fun e=>n (UInt8.toNat_inj.1 (by show c.toNat=45;omega));refine dy d hx ?_;exact yF
       .have l:decide (a2w (c::r) AK=[])=false:=by simpa using j
        refine dy l j ?_;exact yF
  .rintro z w2 ⟨m,b,D,E,W⟩ X;rw[D];cases b with
   | true=>
    refine bD ?_;exact q w2 m (E J) _
   | false=>
    refine bD ?_;exact yF
 exact yF
open Go.Proofs.YtoegidfbnkaabaaGreatDoor.Sx
section
variable{p0 p1 p2 p3 p4 p5 p6 p7:Y}{w:Z}{R:Ending->Z->Prop}
def aRx:=cz w R [p0,p1] (gc [] [] [4,8]) Tryz.func103
def aRy:=cz w R [p0,p1] (gc [(2,[8])] [] [9,16]) Tryz.func136
end
section
variable{p0 p1 p2 p3 p4 p5 p6 p7:Y}{w:Z}{R:Ending->Z->Prop}
def aRz:=cz w R [p0,p1,p2] (gd [(7,[35]),(11,[46])] [(4001,[]),(16001,[]),(26020,[]),(28000,[159]),(29001,[])] [] [(2,[0,1,2,3,0,4,5,6,7,8,9]),(13,[11,0,1,2,3,4,5,6,7,8,9,10,11,12]),(19,[14,0,1,2,3,4,5,6,7,8,9,10,11,12,13,14,15]),(25,[10,0,1,2,3,4,5,6,7,8,9,10,11]),(28,[0,0,1,2,3,4,5,6,7,8,9,10,11,12,13,14,15,16,17,18,19,20,21,22,23,24,25,26,27,28,29,30,31,33,34,35,32,36,37,38])] [] [] [9,14,26,27,28,36,41,47,66,70,71,87,88,96,97,105,106,120,121,157,158,159]) Tryz.func74
end
def aRA(s:Bs)(k:Int)(w:Z)(i:s.length<=1000000)(r:AI w)(u:kJ w):Calls bai 102 #[.string (bs s),zi k] w fun e w'=>Ext w w'/\match DN s with
  | some t=>∃ cv,e = ah cv/\x8 cv (O t)
  | none=>mR 5 k w w' e:=by
 suffices H:∀ R:Ending->Z->Prop,(∀ e w',(Ext w w'/\match DN s with
  | some t=>∃ cv,e = ah cv/\x8 cv (O t)
  | none=>mR 5 k w w' e)->R e w')->Calls bai 102 #[.string (bs s),.int .i64 k] w R from H _ yF
 intro R f;have x:∀ w2,Ext w w2->DM s=V->∀ K:Y->Z->Prop,(∀ v w3,Ext w w3->DN s=O (.atom v)->K (aM v) w3)->Calls bai 72 #[aM s,zi k] w2 (ends K (PC R)):=fun w2 a hu K y=>by
  refine(ag1 s k w2 i).mono ?_;rintro e w3 ⟨j,d⟩;have c:DN s=(pD s).map .atom:=by grind [DN]
  cases l:pD s with
  | some v=>
   rw[l] at d c;subst d;exact y v w3 yF c
  | none=>
   rw[l] at d c;have B:=d;obtain⟨b,rfl,E,F⟩:=B;exact f _ _ (by grind [bz.trans,mR.ext])
 refine aOm ?_;refine⟨fun _ w'=>Ext w w'/\DM s=V,?_,?_⟩
 .refine(aRs s w i r).mono ?_;rintro e w1 ⟨C,v,I,rfl,m,D⟩;rcases D with⟨rfl,n⟩| ⟨⟨t,p,rfl⟩,n⟩
  .refine bD ?_;refine⟨fun z w'=>Ext w w'/\z 19 = .bool (decide (kV v=s)),?_,?_⟩
   .refine bD ?_;refine a0c (anr v m.1 m.2 w1 (u.ext C)) ?_;rintro e w2 ⟨rfl,a⟩;refine bD ?_;exact yF
   .rintro z w2 ⟨a,g⟩ o;have h:=arI n;rw[g];by_cases q:kV v=s
    .rw[zip q] at h;have:decide (kV v=s)=true:=zg;rw[this];refine bD ?_;exact f _ _ ⟨a,by unfold DN;rw[h];exact⟨_,J,J⟩⟩
    .rw[bX q] at h;have:decide (kV v=s)=false:=zg;rw[this];refine bD ?_;exact yF
  .refine bD ?_;refine⟨fun z w'=>w'=w1/\z 19 = .bool G,?_,?_⟩
   .exact eQ
   .rintro z w2 ⟨rfl,g⟩ o;rw[g];refine bD ?_;grind [arJ]
 .rintro z w2 ⟨a,hu⟩ o;refine x w2 a hu _ fun v w3 j c=>?_;refine bD ?_;exact f _ _ ⟨j,by rw[c];exact⟨_,J,J⟩⟩
def aRB{sh:Bs}(h:I0 w mb v sh)(x:UInt8)(F:sh.length<=1000000):Calls bai 103 #[v,.int .u8 (x.toNat:Int)] w fun e w'=>e = ah (.bool (sh.contains x))/\w'=w:=by
 suffices H:∀ R:Ending->Z->Prop,(∀ e w',(e = ah (.bool (sh.contains x))/\w'=w)->R e w')->Calls bai 103 #[v,.int .u8 (x.toNat:Int)] w R from H _ zg;intro R s;refine aRx ?_;have j:Calls bai 136 #[v,.int .u8 (x.toNat:Int)] w fun e w'=>w'=w/\∃ i:Int,e = ah (zi i)/\(decide (i ≥ 0)=sh.contains x):=by
  suffices H:∀ R:Ending->Z->Prop,(∀ e w',(w'=w/\∃ i:Int,e = ah (zi i)/\(decide (i ≥ 0)=sh.contains x))->R e w')->Calls bai 136 #[v,.int .u8 (x.toNat:Int)] w R from H _ zg;intro R s;obtain⟨a,c,hv⟩:∃ a c,v = .slice a sh.length c:=by
   rcases h with⟨k,t⟩| ⟨b,p,-,k,-⟩<;>grind
  subst hv;refine aRy ?_;refine bD ?_;refine⟨fun m z w'=>∃ q,z 8=zi ((q:Nat):Int)/\q<=sh.length/\m=sh.length-q/\w'=w/\∀ y∈sh.take q,y≠x,⟨_,0,J,Nat.zero_le _,J,J,zs⟩,?_⟩;intro m z d w2 j;refine toPr ?_;obtain⟨q,l,I,rfl,rfl,K⟩:=j;by_cases L:q<sh.length
  .obtain⟨b,p,u,n⟩:∃ b z,a=O ⟨b,0,V⟩/\w2.heap[b]?=O (ae (uq sh).toArray 5 z):=by
    rcases h with⟨k,-⟩| ⟨b,p,-,k,-,t⟩<;>grind
   subst u;have g:((q:Nat):Int)<(sh.length:Int):=zo;have r:((q:Nat):Int).toNat=q:=zo;obtain⟨y,C⟩:=b9 (sh[q]);have o:(uq sh).toArray[q]?=O (.int .u8 (y.toNat:Int)):=zg;obtain⟨B,D⟩:=b9 ((uq sh).toArray);rw[<- D] at n o;by_cases E:y=x
   .have f:(x.toNat:Int)=(y.toNat:Int):=zg;refine dC l g n (zA o (zA @r f)) ?_;grind
   .have f:¬ (x.toNat:Int)=(y.toNat:Int):=(by grind [UInt8.toNat_inj]);refine dC l g n (zA o (zA @r f)) ?_;refine⟨_,?_,q+1,J,zo,J,?_⟩
    .omega
    grind [List.take_succ,List.getElem?_eq_getElem,Option.toList_some,List.mem_singleton]
  .have g:¬ ((q:Nat):Int)<(sh.length:Int):=zo;refine dy l g ?_;grind
 refine j.mono ?_;rintro e w2 ⟨rfl,i,rfl,M⟩;refine bD ?_;grind
structure Ls(base xb:Nat)(cv sv:Y)(w:Z)(i:P.In):Prop where
 cell:w.heap[xb]?=aN #[aM i.word,aM i.name,cv,sv] 198
 con:x8 cv i.const
 row:w.ownsRow base 3 1 sv i.s.length (uC i.s)
abbrev Lt(base xb:Nat)(w w':Z):Prop:=bz (fun b _=>b=xb\/base<=b) w w'
theorem Ls.ext{base xb:Nat}{cv sv:Y}{w w':Z}{i:P.In}(h:Ls base xb cv sv w i)(a:Ext w w'):Ls base xb cv sv w' i:=⟨a.ext _ _ h.cell,h.con,jM a.ext h.row⟩
def x8.cases{cv:Y}{c:Option Tm}(h:x8 cv c):cv = ai\/∃ t u,cv = aj t u:=by
 cases c with
 | none=>exact .inl h
 | some t=>
  cases t with
  | atom s=>exact .inr ⟨_,_,h⟩
  | int s=>exact .inr ⟨_,_,h⟩
  | var i=>exact h.elim
  | comp s l=>exact h.elim
def ag3{cv:Y}{a:Option Addr}{i:P.In}(h:Ls base xb cv (.slice a n c) w i)(E:base<=w.heap.size)(hx:xb<base)(F:i.s.length<=1000000)(s:Nat){K:Y->Z->Prop}
  (u:∀ a' l f w',w'.heap[xb]?=aN #[aM i.word,aM i.name,cv,.slice a n c] 198 ->
   Ls base xb cv (.slice a' l f) (bO w' xb (ae #[aM i.word,aM i.name,cv,.slice a' l f] 198)) { i with s:=i.s++[s] } ->
   Lt base xb w (bO w' xb (ae #[aM i.word,aM i.name,cv,.slice a' l f] 198))->K (.slice a' l f) w') :
  WR bai (a0G #[45,45] 45 #[.slice a n c,cM w.heap.size 1 1]) (w.alloc (ae #[zi (s:Int)] 3)) K X:=by
 have d:Ext w (w.alloc (ae #[zi (s:Int)] 3)):=yF;obtain⟨w1,x⟩:=b9 (w.alloc (ae #[zi (s:Int)] 3));have g1:w1.heap[w.heap.size]?=aN #[zi (s:Int)] 3:=yH;rw[<- x] at d ⊢;have s1:=d.size;have m:=h.ext d;refine aqk m.row g1 J zo zo fun v' w' p j hv=>?_;obtain⟨a',f,rfl⟩:=gX p;have y:∀ b o,b<base->w1.heap[b]?=O o->w'.heap[b]?=O o:=fun b o H eX=>by
  rw[j.block b (bf eX) (fun e=>?_)]
  .exact yH
  .rcases m.row.2 with⟨k,-⟩| ⟨g,cap,cur,k,q,-⟩
   .rw[k] at e;cases e
   .rw[k] at e;injection e with e;grind
 have t:=y _ _ hx m.cell;have z:=bf t;refine u _ _ _ _ t ⟨yH,h.con,?_⟩ ?_
 .have B:(i.s++[s]).length=i.s.length+1:=zs;have C:uC (i.s++[s])=uC i.s++[zi (s:Int)]:=zg;show World.ownsRow _ base 3 1 _ (i.s++[s]).length (uC (i.s++[s]));rw[B,C];refine⟨p.1,?_⟩;rcases p.2 with r | ⟨g,cap,cur,k,q,I,D⟩
  .exact yH
  .exact .inr ⟨g,cap,cur,k,q,yH,D⟩
 .have L:=j.size;refine bz.bO ⟨j.os.trans d.os,j.tape.trans d.tape,j.output.trans d.output,zo,fun b o eX M=>?_⟩ yH;exact yH
def P.aRC(slots:Nat)(x:UInt8)(r:Bs)(ws:List Bs)(i:P.In):mM slots (x::r) ws i=if x=42 then match xN slots ws with
  | some l=>O ({ i with s:=i.s++l },[])
  | none=>V
 else match ws with
  | []=>V
  | w::ws=>
   if x=115 then match kh w slots with
    | some s=>mM slots r ws { i with s:=i.s++[s] }
    | none=>V
   else if x=99 then match DN w with
    | some t=>mM slots r ws { i with const:=O t }
    | none=>V
   else if x=110 then match pD w with
    | some t=>mM slots r ws { i with name:=t }
    | none=>V
   else match kh w 10000 with
    | some s=>mM slots r ws { i with s:=i.s++[s] }
    | none=>none:=rfl
theorem P.arL(slots:Nat)(w:Bs)(ws:List Bs):vl slots (w::ws)=match mL w with
 | none=>V
 | some sh=>match mM slots sh ws ⟨w,[],V,[]⟩with
  | some (i,[])=>if ((w=[109,97,107,101]\/w=[115,112,108,105,116])/\i.s.length<2)\/(w=nk/\jK i.name≠i.s.length) then V else O i
  | _=>none:=rfl
