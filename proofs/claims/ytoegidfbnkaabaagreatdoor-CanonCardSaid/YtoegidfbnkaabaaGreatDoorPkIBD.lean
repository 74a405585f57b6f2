/- A part of one proof (KG18, VP1, VP2, VP3, ShX4d, ShX4b, VP4, VP5). -/
import Derived.Test.YtoegidfbnkaabaaGreatDoorPkIBC
import Derived.Lib.AtoiAllCases
import Derived.Lib.ParseIntBTie
import Derived.Shelf.Strings.SlTrimAscii
set_option linter.all false
set_option maxRecDepth 100000
set_option maxHeartbeats 8000000
open Option renaming some → O, none → V
open Go renaming Value → Y, World → Z
open Bool renaming true → A, false → G
open Go.Obj renaming cells → ae
open Go.Ending renaming returned → ah
open Go.Value renaming nilIface → ai, iface → aj, tuple → ak, pointer → aq
open Go.Calls renaming mono → a1a
open List renaming mem_cons → a1g, mem_cons_self → a1j
open Option renaming map_eq_some_iff → a1C
open Go.Builtin renaming append_ → a1H
open Go.Lib renaming atoiAll → a2Q, trimS → a3A, atoiAll_bounds → a4t
open Go.Proofs.Tryz renaming prog → bbx
namespace Go.Proofs.YtoegidfbnkaabaaGreatDoor
open P
open Go.RowKit Sx
variable{X:Y->Z->Prop}{b base c mb n pb xb:Nat}{v:Y}{ug:Nat->Nat}{w' w0:Z}{xs:List Y}
def Tryz.aRM:(Tryz.prog.info? 211).map (fun i=>(i.zero,i.size,i.bytes))=O (O (aq V),1,8):=zk
def Tryz.aRN:(Tryz.prog.info? 185).map (fun i=>(i.zero,i.size,i.bytes))=O (O (aq V),1,8):=zk
def aRO{w:Z}(c:w.ownsRow base 211 1 v n xs){m q:Nat}
  (d:w.heap[b]?=aN #[pp q] 211)
  (p:n<=100000000) (f:base<=w.heap.size) {K:Y->Z->Prop}
  (h:∀ v' w',w'.ownsRow base 211 1 v' (n+1) (xs++[pp q])->w.grownBy w' v.ownBlock->(v'.ownBlock=v.ownBlock\/∀ k,v'.ownBlock=O k->w.heap.size<=k)->K v' w') :
  WR bbx (a1H #[209,209] 209 #[v,cV b 1 m]) w K X:=by
 obtain⟨i,g,a⟩:=a1C.1 Tryz.aRM;simp only[Prod.mk.injEq] at a;obtain⟨j,l,o⟩:=a;refine Sx.DP (m:=1) (t:=209) (e:=211) zk g j l o J zo c d J (fun u hu=>?_) zo zo f h;simp only[a1g,List.not_mem_nil,or_false] at hu;subst hu;rfl
def aso{w:Z}(c:w.ownsRow base 185 1 v n xs){m q:Nat}
  (d:w.heap[b]?=aN #[pp q] 185)
  (p:n<=100000000) (f:base<=w.heap.size) {K:Y->Z->Prop}
  (h:∀ v' w',w'.ownsRow base 185 1 v' (n+1) (xs++[pp q])->w.grownBy w' v.ownBlock->(v'.ownBlock=v.ownBlock\/∀ k,v'.ownBlock=O k->w.heap.size<=k)->K v' w') :
  WR bbx (a1H #[192,192] 192 #[v,cV b 1 m]) w K X:=by
 obtain⟨i,g,a⟩:=a1C.1 Tryz.aRN;simp only[Prod.mk.injEq] at a;obtain⟨j,l,o⟩:=a;refine Sx.DP (m:=1) (t:=192) (e:=185) zk g j l o J zo c d J (fun u hu=>?_) zo zo f h;simp only[a1g,List.not_mem_nil,or_false] at hu;subst hu;rfl
theorem aRP{α:Type}(f:α->α)(l:List α)(a:α):(l++[a]).modify l.length f=l++[f a]:=by
 have:=XV f l [a] 0;grind
def Cb.aRQ{w:Z}{sQ:Nat->Y}{l:List Pd}(h:Cb pb w v ug sQ l)(hk:∀ (b T:Nat) (cs:Array Y),w.heap[b]?=aN cs T->w'.heap[b]?=aN cs T):Cb pb w' v ug sQ l:=
 ⟨Gl h.row yH,h.lo,(by grind [cell]),fun i p a=>let ⟨fZ,c,d⟩:=h.cl i p a;⟨fZ,(by grind [Gl]),(by grind [sN.ahW])⟩,h.ne,h.nc⟩
def aRR{w:Z}{bv:Y}{ZO:List Y}{cs:List P.Cl}{qb nv:Nat}{nm:Bs}{av xv Vx:Y}{x:Bd}(hv:fJ (fun _=>True) w 79 bv ZO)(hc:kE (fun _=>True) w ZO cs)(dj:∀ c∈cs,P.qU c)(hn:cs.length<=40)
  (hq:w.heap[qb]?=aN #[aT nm,av,xv,Vx] 86) (xn:∃ a c,Vx = .slice a nv c) (gx:lH (fun _=>True) w av []) (rW:dP (fun _=>True) w xv x) (fg:fe nv 2900 x) (RE:je x<=5800) (kP:nv<=12) (hP:kZ w) :
  Calls bbx 41 #[bv,pp qb] w fun e w'=>Ext w w'/\match C6 cs x nv with
   | none=>e = ah (ak #[.string (bs []),.bool G])
   | some t=>e = ah (ak #[.string (bs t),.bool A]):=by
 suffices H:∀ R:Ending->Z->Prop,(∀ e w',(Ext w w'/\match C6 cs x nv with
   | none=>e = ah (ak #[.string (bs []),.bool G])
   | some t=>e = ah (ak #[.string (bs t),.bool A]))->R e w')->Calls bbx 41 #[bv,aq (O ⟨qb,0,V⟩)] w R from H _ yF
 intro R hR;have gZ:=hc.len;obtain⟨ba,bc,rfl⟩:=hv.sl;refine aRG ?_;refine cO @Wt ?_;obtain⟨w0,yB⟩:=cg (((w.alloc (ae #[aT []] 9 (0,0))).alloc (ae #[.bool G] 4)).alloc (.map #[] 0));rw[size_alloc,size_alloc,<- yB];have nZ:Ext w w0:=yF;have b0:w0.heap[w.heap.size]?=aN #[aT []] 9:=yH;have b1:w0.heap[w.heap.size+1]?=aN #[.bool G] 4:=yH;have b2:w0.heap[w.heap.size+1+1]?=O (eO (sO 0 [])):=by rw[yB];exact rR (yH)
 clear yB;obtain⟨I,asp⟩:=cg w.heap.size;obtain⟨L,QE⟩:=cg (w.heap.size+1);obtain⟨mb,Mc⟩:=cg (w.heap.size+1+1);rw[<- Mc,<- QE,<- asp];rw[<- asp] at b0;rw[<- QE] at b1;rw[<- Mc] at b2;obtain⟨B,hB⟩:=cg (w.heap.size+3);have asq:∀ w',Ext w w'->w'.heap[I]?=aN #[aT []] 9->w'.heap[L]?=aN #[.bool G] 4->C6 cs x nv=V ->
   LV bbx (fun wz=>RD bbx (Instr.loadAt 9 (pp I)) wz (fun r=>RD bbx (Instr.loadAt 4 (pp L)) wz (fun r_1=>R (ah (ak #[r,r_1])) wz) NX) NX) R [{ target:=.fn (.func 79) #[pp I,pp L],args:=#[]++#[] }] (.panicking [{ v:=aj 27 (zi 4),recovered:=false }]) w':=by
  intro w' hE' h4 h5 VH;have l4:=bh h4;have l5:=bh h5;refine aRL h4 h5 zo ?_;obtain⟨w2,jx⟩:=cg (bS (bS w' I (ae #[aT []] 9 (0,0))) L (ae #[.bool G] 4));have g1:w2.heap[I]?=aN #[aT []] 9:=yH;have g2:w2.heap[L]?=aN #[.bool G] 4:=yH;have dU:Ext w w2:=yF;rw[<- jx];refine dF @g1 @g2 ?_;grind
 refine⟨fun m z w'=>∃ j f ri sQ v,z 17=zi ((j:Nat):Int)/\z 6=v/\j<=cs.length/\m=cs.length-j/\Ext w w'/\w'.heap[I]?=aN #[aT []] 9/\w'.heap[L]?=aN #[.bool G] 4/\w'.heap[mb]?=O (eO (sO 0 f)) /\
   Cb B w' v ri sQ f/\ym cs []=ym (cs.drop j) f/\(∀ p∈f,p.arity<=4)/\f.length<=j/\(∀ p∈f,p.clauses.length<=j),
  ⟨_,0,[],fun _=>0,fun _=>bX,bX,J,J,Nat.zero_le _,J,nZ,b0,b1,b2,⟨⟨J,yH⟩,zg,yH,zg,zg,zg⟩,J,zg,Nat.le_refl _,zg⟩,?_⟩
 intro m z d w3 hI;refine toPr ?_;obtain⟨j,f,ri,sQ,v,Q,h6,hj,rfl,eK,g0,g1,g2,hG,heq,lp,uJ,aRT⟩:=hI;have lmb:=bh g2;obtain⟨ra,rc,rfl⟩:=il hG.row;by_cases fD:j<cs.length
 .obtain⟨u,uW,FZ⟩:=kE.Dh j fD hc;obtain⟨cb,cav,cbv,YD,Ur,rfl,-,gN,np,asr⟩:=FZ;obtain⟨gg,gcs,e3,e4,e5,e6⟩:=hv.at' (j:=j) zo;simp only[Value.slice.injEq,true_and] at e3;obtain⟨rfl,rfl⟩:=e3;rw[uW] at e6;obtain⟨c,F2⟩:=cg (cs[j]);rw[<- F2] at gN np asr;have N:P.qU c:=zg;have jV:((j:Nat):Int).toNat=j:=zo;have fQ:((j:Nat):Int)<(ZO.length:Int):=zo;have e53:=eK.ext _ _ e5;have Lz:=eK.ext _ _ gN;have dK:Ext w3 w3.drew:=yF;obtain⟨dw,Zc,aRV⟩:=id np;have ass:=aRV.FV;obtain⟨aa,ac,rfl⟩:=Zc.sl;have xA:=N.cl.qT;have yg:=N.name;refine dM Q fQ @e53 (zA @e6 (zA @jV Lz)) ?_;rw[ass];refine a1a (agw c.name c.args.length zo zo w3.drew) ?_;rintro e w4 ⟨rfl,rfl⟩;refine bG ?_;have ZP:=dK.ext _ _ g2;obtain⟨kv,ZQ,xB,aRW⟩:∃ (kv:Nat) (ZQ:Bool),(∀ {K:Y->Prop} {X:Y->Z->Prop},K (ak #[zi (kv:Int),.bool ZQ])->RD bbx (Instr.lookup 210 (.map (O mb)) (aT (P.keyOf c.name c.args.length)) A) w3.drew K X) /\
    ((ZQ=G/\fO (P.keyOf c.name c.args.length) (sO 0 f) 0=V/\∀ x,se c.name c.args.length x f=f++[⟨c.name,c.args.length,[x]⟩])\/(ZQ=A/\kv<f.length/\∀ x,se c.name c.args.length x f=f.modify kv fun p=>{ p with clauses:=p.clauses++[x] })):=by
   cases hf:fO (P.keyOf c.name c.args.length) (sO 0 f) 0 with
   | none=>
    refine⟨0,G,fun hK=>?_,.inl ⟨J,J,fun x=>?_⟩⟩
    .rw[LZ (k:=9) (e:=3) (z:=zi 0) zk zk zk ZP _ A,hf];grind
    .have:=ZN (name:=c.name) (n:=c.args.length) zo x f 0 0 zg;grind
   | some qv=>
    obtain⟨q,v⟩:=qv;have h0:=ZN (name:=c.name) (n:=c.args.length) zo default f 0 0 zg;rw[hf] at h0;obtain⟨k,e1,e2,Y1,-⟩:=h0;rw[Nat.zero_add] at e1 e2;subst e1 e2;refine⟨q,A,fun hK=>?_,.inr ⟨J,Y1,fun x=>?_⟩⟩
    .rw[LZ (k:=9) (e:=3) (z:=zi 0) zk zk zk ZP _ A,hf];grind
    .have:=ZN (name:=c.name) (n:=c.args.length) zo x f 0 0 zg;grind
  refine xB ?_;refine bG ?_;refine⟨fun s E=>∃ l' M S v' k,s 6=v'/\s 11=zi ((k:Nat):Int)/\Ext w E/\E.heap[I]?=aN #[aT []] 9/\E.heap[L]?=aN #[.bool G] 4/\E.heap[mb]?=O (eO (sO 0 l')) /\
    Cb B E v' M S l'/\k<l'.length/\(∀ x,se c.name c.args.length x f=l'.modify k fun p=>{ p with clauses:=p.clauses++[x] })/\(∀ p∈l',p.arity<=4)/\l'.length<=j+1/\(∀ p∈l',p.clauses.length<=j),?_,?_⟩
  .rcases aRW with⟨rfl,hf,U⟩| ⟨rfl,yw,U⟩
   .refine cO h6 ?_;rw[yz (k:=9) (e:=3) zk zk ZP _ hf];obtain⟨C,ZR⟩:=cg (bS w3.drew mb (eO (sO 0 f++[(P.keyOf c.name c.args.length,Value.int .i64 (f.length:Int))])));rw[<- ZR];have hkM:∀ (b T:Nat) (cs:Array Y),w3.heap[b]?=aN cs T->C.heap[b]?=aN cs T:=fun b T cs hx=>by
     rw[ZR,jr (fun e=>by rw[e,g2] at hx;cases hx)];exact yH
    have hEM:Ext w C:=yF;have gM:C.heap[mb]?=O (eO (sO 0 (f++[⟨c.name,c.args.length,[]⟩]))):=by
     rw[ZR,asl,Nat.zero_add];exact yH
    have sM:C.heap.size=w3.heap.size:=yH;clear ZR;have asw:=hkM _ _ _ Lz;have hGM:=hG.aRQ hkM;have hdM:Ext C C.drew:=yF;refine⟨fun w'=>Ext C w',hdM,?_⟩;rw[jI];refine cS (pp cb) (fun w' h=>eV) ?_;refine cS (aT c.name) (fun w' h=>by have g:=h.ext _ _ asw;have:=bh g;exact fm g) ?_;refine cO asw ?_;rw[ass];obtain⟨W,K8⟩:=cg (C.drew.alloc (ae #[aT c.name,zi (c.args.length:Int),bX] 213));rw[<- K8];have He:Ext C W:=yF;have gB:W.heap[C.heap.size]?=aN #[aT c.name,zi (c.args.length:Int),bX] 213:=yH;have sB:W.heap.size=C.heap.size+1:=yH;clear K8;obtain⟨wC,hwC⟩:=cg (W.alloc (ae #[pp C.heap.size] 211));have hEC:Ext W wC:=yF;have gC:wC.heap[W.heap.size]?=aN #[pp C.heap.size] 211:=yH;have sC:wC.heap.size=W.heap.size+1:=yH;refine⟨He,?_⟩;rw[<- hwC];refine⟨yF,?_⟩;have VI:=hGM.ext (He.trans hEC);have ZS:Ext w wC:=yF;rw[h6];rw[sB] at gC;refine aRO (base:=B) VI.row gC zo zo fun v' w5 ho l Ej=>?_;have Mi:=l.size;have uf:Ext w w5:=⟨l.os.trans ZS.os,l.tape.trans ZS.tape,l.output.trans ZS.output,zo,fun b o hb _=>by
     have F:=ZS.ext _ _ hb;rw[l.block b (bh F) (fun e=>?_)]
     .omega
     .have:=(EW VI.row e.symm).1;grind⟩
    have ry:∀ {b T:Nat} {cs:Array Y},T≠211->wC.heap[b]?=aN cs T->w5.heap[b]?=aN cs T:=fun hT hx=>Gm VI.row l hT hx;have JJ:w5.heap[mb]?=O (eO (sO 0 (f++[⟨c.name,c.args.length,[]⟩]))):=by
     have F:=(He.trans hEC).ext _ _ gM;rw[l.block mb (bh F) (fun e=>?_)]
     .omega
     .obtain⟨-,-,cs',g⟩:=EW VI.row e.symm;rw[F] at g;cases g
    have hGN:=VI.new (nb:=C.heap.size) (n:=c.args.length) (name:=c.name) yH zo (fun i hi=>by
     have:=bh (hGM.cell i f[i] zg);omega) ho l
    refine⟨f++[⟨c.name,c.args.length,[]⟩],_,_,v',f.length,J,J,uf,?_,?_,JJ,hGN,zs,fun x=>?_,fun p hp=>?_,zg,fun p hp=>?_⟩
    .exact ry zo ((He.trans hEC).ext _ _ yH)
    .exact ry zo (by grind [bB.ext,bB.trans])
    .grind [aRP]
    .grind
    grind
   .refine cO h6 ?_;exact⟨f,ri,sQ,_,kv,zg,zg,yF,yH,yH,ZP,hG.ext dK,yw,U,lp,zo,aRT⟩
  .rintro s E ⟨l',M,S,v',k,s6,s11,ln,q0,q1,q2,qz,yw,U,aZW,aZX,aZY⟩ dd;obtain⟨p,Ii⟩:=cg (l'[k]);have VG:l'[k]?=O p:=zg;obtain⟨fZ,jo,jC⟩:=qz.cl k p VG;have oV:=qz.cell k p VG;have Ad:Ext E E.drew:=yF;obtain⟨pg,pgc,pgu,lR,aZ0,aZ1⟩:=TX qz.row (t:=k) yw;subst lR;have asA:pgu[k]?=O (pp (M k)):=zg;have pS:((k:Nat):Int).toNat=k:=zo;have wK:((k:Nat):Int)<(l'.length:Int):=zo;obtain⟨cla,clc,RN⟩:=il jo;obtain⟨Cl,asB⟩:=cg (S k);rw[<- asB] at oV jo RN;have aR2:=oV;rw[RN] at aR2;rw[s6,s11];refine⟨fun w'=>w'.heap[pg]?=aN pgu 211/\w'.heap[M k]?=aN #[aT p.name,zi (p.arity:Int),Cl] 213,yH,?_⟩;refine cS (pq pg k) (fun w' h=>by have g:=h.1;have:=bh g;exact Kw g wK @pS) ?_;refine cS (pp (M k)) (fun w' h=>by have g:=h.1;have:=bh g;exact mn g asA) ?_;refine cS (pq pg k) (fun w' h=>by have g:=h.1;have:=bh g;exact Kw g wK @pS) ?_;refine cS (pp (M k)) (fun w' h=>by have g:=h.1;have:=bh g;exact mn g asA) ?_;rw[jI];refine cS (pq (M k) 2) (fun w' h=>eV) ?_;refine cS Cl (fun w' h=>by have g:=h.2;have:=bh g;rw[RN] at g ⊢;exact fm g) ?_;have asC:=ln.trans Ad;have aR3:lH (fun _=>True) E.drew (.slice aa dw.length ac) c.args:=lH.mono zg (by grind [bB.ext]) np;have aR4:dP (fun _=>True) E.drew cbv c.body:=dP.mono zg (by grind [bB.ext]) _ _ asr;refine a1a (arT G (asC.ext _ _ gN) ⟨_,_,J⟩ aR3 aR4 N.cl.args N.cl.qT N.cl.sz N.cl.body N.bsz N.vs.1) ?_;rintro e w7 ⟨RM,D⟩;have asD:ym cs []=match BR c.args c.body c.vars.length G with
     | none=>V
     | some x=>ym (cs.drop (j+1)) (se c.name c.args.length x f):=by
    rw[heq,List.drop_eq_getElem_cons fD,<- F2];rfl
   have G5:=asC.trans RM;have VJ:=Ad.trans RM;cases O6:BR c.args c.body c.vars.length G with
   | none=>
    rw[O6] at D asD;have D:e=ig (.fault 4):=D;subst D;exact fun fq=>asq w7 G5 (VJ.ext _ _ q0) (VJ.ext _ _ q1) (by grind [C6])
   | some co=>
    rw[O6] at D asD;obtain⟨cm,he,DJ,vO⟩:=D;subst he;have Gk:=qz.ext VJ;have aR6:=jY VJ.ext jo;refine⟨(by grind [bB.ext]),?_⟩;rw[RN];refine bG ?_;obtain⟨w8,MC⟩:=cg (w7.alloc (ae #[pp cm] 185));have wo:Ext w7 w8:=yF;have g8:w8.heap[w7.heap.size]?=aN #[pp cm] 185:=yH;rw[<- MC];have ZT:=VJ.trans wo;have we:=G5.trans wo;have O0:=Gk.ext wo;have VM:=jY wo.ext aR6;have sz8:=we.size;refine⟨(by grind [bB.ext]),?_⟩;rw[<- RN];have kg:p.clauses.length<=j:=zg;have xV:=bh q2;have aZ3:=ZT.size;refine aso (base:=B) VM g8 zo zo fun v9 w9 ho l Gj=>?_;have Mi:=l.size;have J1:∀ {b T:Nat} {cs:Array Y},T≠185->w8.heap[b]?=aN cs T->w9.heap[b]?=aN cs T:=(by grind [Gm]);have ZU:=J1 zd (ZT.ext _ _ oV);refine⟨(by grind [bB.ext]),?_⟩;have lc9:=bh ZU;obtain⟨va9,vc9,asE⟩:=il ho;rw[RN] at ZU;have aR7:=ZU;rw[asE];refine dF ZU Q ?_;rw[<- asE];obtain⟨wF,F3⟩:=cg (bS w9 (M k) (ae #[aT p.name,zi (p.arity:Int),v9] 213));rw[<- F3];rw[asB] at VM l Gj;have hGF:=O0.push VG VM (by grind [sN.ext]) (vO.ext wo) ho l Gj;rw[<- F3] at hGF;have hEF:Ext w wF:=by
     have ns:Ext w w9:=⟨l.os.trans we.os,l.tape.trans we.tape,l.output.trans we.output,zo,fun b o hb _=>by
      have F:=we.ext _ _ hb;rw[l.block b (bh F) (fun e=>?_)]
      .omega
      .have:=(EW VM e.symm).1;grind⟩
     rw[F3];exact ns.bS (.inr (by have:=qz.lo k yw;omega))
    have aZ7:∀ {b T:Nat} {cs:Array Y},T≠185->T≠213->E.heap[b]?=aN cs T->wF.heap[b]?=aN cs T:=fun{b T cs} h1 h2 hx=>by
     have xH:=J1 h1 (ZT.ext _ _ hx);exact yH
    have hmF:wF.heap[mb]?=O (eO (sO 0 (l'.modify k fun p=>{ p with clauses:=p.clauses++[co] }))):=by
     rw[asm];have F:=ZT.ext _ _ q2;have fk:w9.heap[mb]?=O (eO (sO 0 l')):=by
      rw[l.block mb (bh F) (fun e=>?_)]
      .exact F
      .obtain⟨-,-,cs',g⟩:=EW VM e.symm;rw[F] at g;cases g
     rw[F3,jr]
     .omega
     .rintro rfl;rw[aR7] at fk;cases fk
    refine⟨_,?_,j+1,l'.modify k fun p=>{ p with clauses:=p.clauses++[co] },M,_,_,zg,zg,zo,J,hEF,yH,yH,hmF,hGF,?_,fun y hy=>?_,zg,fun y hy=>?_⟩
    .omega
    .grind
    .rcases XX hy with hy | ⟨y0,Jz,rfl⟩<;>grind
    .rcases XX hy with hy | ⟨y0,Jz,rfl⟩<;>grind
 .have fD:j=cs.length:=zo;subst fD;have fQ:¬ (cs.length:Int)<(ZO.length:Int):=zo;rw[List.drop_length,ym] at heq;obtain⟨va,vc,rfl⟩:=xn;have BY:=eK.ext _ _ hq;have dK:Ext w3 w3.drew:=yF;have tK:=eK.trans dK;refine dF Q fQ ?_;refine⟨fun w'=>w'.heap[qb]?=aN #[aT nm,av,xv,.slice va nv vc] 86,yH,?_⟩;rw[jI];refine cS (pq qb 3) (fun w' h=>eV) ?_;refine cS (.slice va nv vc) (fun w' h=>by have:=bh h;exact fm h) ?_;refine cS (zi (nv:Int)) (fun w' h=>eV) ?_;have Gd:lH (fun _=>True) w3.drew av []:=lH.mono zg (by grind [bB.ext]) gx;have aR9:dP (fun _=>True) w3.drew xv x:=dP.mono zg (by grind [bB.ext]) _ _ rW;refine a1a (arT A (tK.ext _ _ hq) ⟨_,_,J⟩ Gd aR9 fi.nil zs (by simp [fB]) fg RE kP) ?_;rintro e w7 ⟨RM,D⟩;have RO:=dK.trans RM;have G5:=eK.trans RO;cases O6:BR [] x nv A with
  | none=>
   rw[O6] at D;have D:e=ig (.fault 4):=D;subst D;exact fun fq=>asq w7 G5 (RO.ext _ _ g0) (RO.ext _ _ g1) (by grind [C6])
  | some ask=>
   rw[O6] at D;obtain⟨cm,he,DJ,vO⟩:=D;subst he;refine⟨RO.ext _ _ BY,?_⟩;have pk:C6 cs x nv=O (zD f ask nv):=by grind [C6]
   obtain⟨p1,p2,p3,p4⟩:=anR dj hn heq;have Uw:=XU O6 fi.nil (by simp [fB]) fg RE kP;have BX:=anL O6 fi.nil fg;have hlen:=aIV p1 Uw (show nv<=1000 by omega);have Gk:=hG.ext RO;have aSa:fJ (fun _=>True) w7 211 (.slice ra f.length rc) ((List.range f.length).map fun i=>Value.pointer (O ⟨ri i,0,V⟩)):=Fi Gk.row zg;rw[h6];refine a1a (aRx aSa zs (fun i p hi=>?_) vO p2 ⟨Uw,BX⟩ zg zg zo zo (hP.ext G5) zo) ?_
   .have mr:i<f.length:=by
     grind
    refine⟨ri i,zg,?_⟩;obtain⟨fZ,e1,e2⟩:=Gk.cl i p hi;exact⟨sQ i,fZ,Gk.cell i p hi,(by grind [Fi]),by have:=e1.1;omega,e2⟩
   rintro e w8 ⟨rfl,wo⟩;have ah3:=RO.trans wo;have we:=eK.trans ah3;have g08:=ah3.ext _ _ g0;have g18:=ah3.ext _ _ g1;have l08:=bh g08;have l18:=bh g18;refine dF @g08 @g18 ?_;obtain⟨wF,F3⟩:=cg (bS (bS w8 I (ae #[aT (zD f ask nv)] 9)) L (ae #[.bool A] 4));have f1:wF.heap[I]?=aN #[aT (zD f ask nv)] 9:=yH;have f2:wF.heap[L]?=aN #[.bool A] 4:=yH;have hEF:Ext w wF:=yF;rw[<- F3];refine aRK ?_;refine dF @f1 @f2 ?_;grind
def Cd(w:Z):Prop:=∃ t1 p1 t2 p2,w.cell? ⟨6,0,V⟩=O (aj t1 p1)/\w.cell? ⟨7,0,V⟩=O (aj t2 p2)
theorem Cd.ext{w w':Z}(h:Cd w)(a:Ext w w'):Cd w':=by
 obtain⟨t1,p1,t2,p2,b,c⟩:=h;exact⟨t1,p1,t2,p2,(by grind [Ng,bB.ext]),(by grind [Ng,bB.ext])⟩
def asH:∀ (l:Bs) (acc n:Nat),(∀ c∈l,P.digit c=A)->(l.foldl (fun v c=>10*v+((c.toNat:Int)-48)) (acc:Int))=(n:Int)->n<9223372036854775809->Go.Lib.parseUint10 acc l = .ok n
 | [],acc,n,_,h,_=>by
  have h:(acc:Int)=(n:Int):=h;have:acc=n:=zo;subst this;rfl
 | c::r,acc,n,b,h,d=>by
  have g:=b c a1j;have i:48<=c.toNat/\c.toNat<=57:=by grind [P.digit]
  have f:(10*(acc:Int)+((c.toNat:Int)-48))=((acc*10+(c.toNat-48):Nat):Int):=zo;rw[List.foldl_cons,f] at h;have j:acc*10+(c.toNat-48)<=n:=by
   have key:∀ (l:Bs) (a:Nat),(∀ c∈l,P.digit c=A)->(a:Int)<=l.foldl (fun v c=>10*v+((c.toNat:Int)-48)) (a:Int):=by
    intro l;induction l with
    | nil=>grind
    | cons x l ih=>
     intro a b;have hx:48<=x.toNat/\x.toNat<=57:=by grind [P.digit,a1j]
     have e:(10*(a:Int)+((x.toNat:Int)-48))=((a*10+(x.toNat-48):Nat):Int):=zo;rw[List.foldl_cons,e];have:=ih (a*10+(x.toNat-48)) zg;omega
   have:=key r (acc*10+(c.toNat-48)) zg;omega
  have ih:=asH r (acc*10+(c.toNat-48)) n zg h d;rw[Go.Lib.parseUint10];grind
def asI(a:n<9223372036854775809):Go.Lib.parseMag (fc n) = .ok n:=by
 unfold Go.Lib.parseMag;rw[bI (by grind [aeg])];exact asH _ 0 n (Lp _ _) (Qn n) a
theorem asJ{z:Int}(h:-9223372036854775808<=z/\z<=9223372036854775807):a2Q (kN z) = .ok z:=by
 unfold kN;split
 .rename_i b;rw[Go.Lib.atoiAll_minus,asI zo];unfold Go.Lib.signed;grind
 .rename_i b;obtain⟨c,r,a,-⟩:=X3 (z.natAbs+1) z.natAbs zo;have d:=Lp (z.natAbs+1) z.natAbs c (by rw[a];exact a1j);have e:48<=c.toNat/\c.toNat<=57:=by grind [P.digit]
  have hm:=asI (n:=z.natAbs) zo;unfold fc at hm ⊢;rw[a] at hm ⊢;rw[Go.Lib.atoiAll_plain c r zo zo,hm];unfold Go.Lib.signless;grind
def VN{w:Z}(h:Below w.heap.size w w'):Ext w w':=⟨h.os,h.tape,h.output,h.size,(by grind [bh,Below.block])⟩
def aSb(s:Bs)(w:Z)(h:s.length<=1000000)(d:Cd w):Calls bbx 100 #[aT s] w fun e w'=>Ext w w'/\∃ v b,e = ah (ak #[zi v,b])/\(-9223372036854775808<=v/\v<=9223372036854775807) /\
  ((b = ai/\a2Q s = .ok v)\/((∃ t p,b = aj t p)/\∀ z,a2Q s≠.ok z)):=by
 obtain⟨t1,p1,t2,p2,f,g⟩:=d;have i:(bs s).size<=1000000:=by show s.toArray.size<=_;omega
 cases a:a2Q s with
 | ok v=>
  refine(Tryz.strconv_Atoi_ok (bs s) zo v a w).mono ?_;rintro e w' ⟨rfl,hw⟩;refine⟨?_,v,_,J,a4t a,zg⟩;rcases hw with rfl | ⟨t,rfl⟩
  .exact yF
  grind [acz]
 | range=>
  refine(Tryz.strconv_Atoi_range (bs s) zo a _ w g zg).mono ?_;rintro e w' ⟨N,rfl,-,-,c⟩;refine⟨VN c,_,_,J,?_,zg⟩;grind [Go.Lib.atoiSat]
 | _=>
  refine(Tryz.strconv_Atoi_syntax (bs s) zo a _ w f zg).mono ?_;rintro e w' ⟨N,rfl,-,-,c⟩;exact⟨VN c,0,_,J,zo,zg⟩
def aSc(s:Bs)(w:Z)(h:s.length<=1000000)(d:Cd w):Calls bbx 135 #[aT s,zi 10,zi 64] w fun e w'=>Ext w w'/\∃ v b,e = ah (ak #[zi v,b])/\(-9223372036854775808<=v/\v<=9223372036854775807) /\
  ((b = ai/\a2Q s = .ok v)\/((∃ t p,b = aj t p)/\∀ z,a2Q s≠.ok z)):=by
 obtain⟨t1,p1,t2,p2,f,g⟩:=d;have i:(bs s).size<=1000000:=by show s.toArray.size<=_;omega
 have he:=Go.Lib.parseIntB_64 s;cases a:a2Q s with
 | ok v=>
  rw[a] at he;refine(Tryz.strconv_ParseInt_10_at64_ok (bs s) zo v he w).mono ?_;rintro e w' ⟨rfl,hw⟩;refine⟨?_,v,_,J,a4t a,zg⟩;rcases hw with rfl | ⟨t,rfl⟩
  .exact yF
  grind [acz]
 | range=>
  rw[a] at he;refine(Tryz.strconv_ParseInt_10_at64_range (bs s) zo he _ w g zg).mono ?_;rintro e w' ⟨N,rfl,-,-,c⟩;refine⟨VN c,_,_,J,?_,zg⟩;grind [Go.Lib.intSat_64,Go.Lib.atoiSat,Lib.intSat_64]
 | _=>
  rw[a] at he;refine(Tryz.strconv_ParseInt_10_at64_syntax (bs s) zo he _ w f zg).mono ?_;rintro e w' ⟨N,rfl,-,-,c⟩;exact⟨VN c,0,_,J,zo,zg⟩
def asK{s:Bs}{v:Int}(h:a2Q s = .ok v):Er s=if kN v=s then O v else none:=by
 by_cases he:kN v=s
 .rw[zip he,<- he,aI9 (a4t h)]
 .rw[bI he];cases a:Er s with
  | none=>rfl
  | some z=>
   obtain⟨b,c⟩:=XR a;grind [asJ,absurd]
theorem asL{s:Bs}(h:∀ z,a2Q s≠.ok z):Er s=none:=by
 cases a:Er s with
 | none=>rfl
 | some z=>
  obtain⟨b,c⟩:=XR a;grind [asJ,absurd]
def VO(k:Int)(w:Z):Calls bbx 70 #[zi k] w fun e w'=>Ext w w'/\nA 5 k w w' e:=by
 refine aO2 ?_;refine bG ?_;exact⟨yF,w.heap.size,J,yH,Nat.le_refl _⟩
theorem nA.ext{c a:Int}{w:Z}{e:Ending}(h:nA c a w w' e)(d:Ext w0 w):nA c a w0 w' e:=by
 obtain⟨b,f,g,i⟩:=h;exact⟨b,f,g,Nat.le_trans d.size i⟩
def O7(s:Bs)(n:Nat)(k:Int)(w:Z)(o:s.length<=1000000)(E:n<=100000)(q:Cd w)(r:kZ w):Calls bbx 73 #[.string (bs s),zi (n:Int),zi k] w fun e w'=>Ext w w'/\match kz s n with
  | some v=>e = ah (.int .i64 (v:Int))
  | none=>nA 5 k w w' e:=by
 suffices H:∀ R:Ending->Z->Prop,(∀ e w',(Ext w w'/\match kz s n with
  | some v=>e = ah (.int .i64 (v:Int))
  | none=>nA 5 k w w' e)->R e w')->Calls bbx 73 #[.string (bs s),.int .i64 (n:Int),.int .i64 k] w R from H _ yF
 intro R u;refine aO3 ?_;refine(aSb s w o q).mono ?_;rintro e w1 ⟨d,v,F,rfl,i,x⟩;have j:∀ w2,Ext w w2->kz s n=V->∀ K:Y->Z->Prop,Calls bbx 70 #[zi k] w2 (ends K (PC R)):=fun w2 a hu K=>by
  refine(VO k w2).mono ?_;rintro e w3 ⟨I,y⟩;have B:=y;obtain⟨b,rfl,L,M⟩:=B;exact u _ _ (by grind [bB.trans,nA.ext])
 rcases x with⟨rfl,l⟩| ⟨⟨t,p,rfl⟩,l⟩
 .refine bG ?_;refine⟨fun _ w'=>Ext w w'/\kz s n=O v.toNat/\0<=v,?_,?_⟩
  .refine⟨fun z w'=>Ext w w'/\∃ b,z 30 = .bool b/\(b=A->kz s n=V)/\(b=G->kz s n=O v.toNat/\0<=v),?_,?_⟩
   .refine bG ?_;refine a1a (Ls v i.1 i.2 w1 (r.ext d)) ?_;rintro e w2 ⟨rfl,a⟩;have kP:=asK l;have N:=d.trans a;by_cases c:kN v=s
    .rw[zip c] at kP;have hu:kz s n=if 0<=v/\v<n then O v.toNat else none:=by grind [kz]
     rw[c];by_cases f:v<0
     .refine cO f ?_;exact yF
     .by_cases m:v ≥ (n:Int)
      .refine dF f m ?_;exact yF
      .refine dF f m ?_;exact yF
    .rw[bI c] at kP;have hu:kz s n=none:=by grind [kz]
     have g:¬ bs (kN v)=bs s:=zg;refine dF c g ?_;exact yF
   .rintro z w2 ⟨a,b,h,C,P⟩ D;rw[h];cases b with
    | true=>
     refine bG ?_;exact j w2 a (C J) _
    | false=>
     refine bG ?_;exact yF
  exact yF
 .have hu:kz s n=none:=by grind [kz,asL]
  refine bG ?_;refine⟨fun _ _=>False,?_,zg⟩;refine⟨fun z w'=>z 30 = .bool A/\w'=w1,?_,?_⟩
  .exact eV
  .rintro z w2 ⟨h,rfl⟩ D;rw[h];refine bG ?_;exact j w2 d hu _
abbrev Be:Bs:=[33,34,35,36,37,38,39,40,41,42,43,44,45,46,47,48,49,50,51,52,53,54,55,56,57,58,59,60,61,62,63,64,65,66,67,68,69,70,71,72,73,74,75,76,77,78,79,80,81,82,83,84,85,86,87,88,89,90,91,92,93,94,95,96,97,98,99,100,101,102,103,104,105,106,107,108,109,110,111,112,113,114,115,116,117,118,119,120,121,122,123,124,125,126]
theorem ZV(x:UInt8):Be.contains x=decide (33<=x/\x<=126):=by
 have h:∀ n:Fin 256,Be.contains (UInt8.ofNat n.val)=decide (33<=UInt8.ofNat n.val/\UInt8.ofNat n.val<=126):=by decide +kernel
 have:=h ⟨x.toNat,x.toNat_lt⟩;simpa using this
theorem ah4{α:Type}{p:α->Bool}{c:α}:∀ {l:List α},c∈l->p c=G->c∈l.dropWhile p
 | x::l,h,a=>by
  rw[List.dropWhile_cons];split
  .rename_i hx;rcases a1g.1 h with rfl | h
   .grind
   .exact ah4 h a
  omega
theorem asM{α:Type}{p:α->Bool}:∀ {l:List α},(∀ c∈l,p c=A)->l.dropWhile p=[]
 | [],_=>rfl
 | x::l,h=>by
  rw[List.dropWhile_cons,zip (h x a1j)];exact asM zg
def aSe(l:Bs):a3A l Be=[]↔l.all (fun c=>decide (33<=c/\c<=126))=true:=by
 unfold a3A Go.Lib.trimLeftS Go.Lib.trimRightS;constructor
 .intro h;rw[List.all_eq_true];intro c d;cases a:decide (33<=c/\c<=126) with
  | true=>rfl
  | false=>
   have b:c∈(l.reverse.dropWhile (Be.contains ·)).reverse:=by
    grind [ah4,ZV]
   have e:=ah4 (p:=(Be.contains ·)) b (by rw[ZV];exact a);grind
 grind [List.all_eq_true,asM,ZV]
def aSf(s:Bs)(w:Z)(c:s.length<=1000000):Calls bbx 99 #[aT s,aT Be] w fun e w'=>e = ah (aT (a3A s Be))/\Ext w w':=by
 have d:(bs s).size<=1000000:=by show s.toArray.size<=_;omega
 refine(Any.strings_Trim_laid Tryz.lays160 zk (bs s) (bs Be) w zo zd (fun j b a=>?_)).mono ?_
 .have hm:=List.mem_of_getElem? a;have:b∈Be:=zo;have f:Be.contains b=true:=zg;grind [ZV,UInt8.le_iff_toNat_le]
 .rintro e w' ⟨rfl,a⟩;exact⟨zg,VN a⟩
def ah5(s:Bs)(k:Int)(w:Z)(o:s.length<=1000000):Calls bbx 72 #[.string (bs s),zi k] w fun e w'=>Ext w w'/\match ql s with
  | some v=>e = ah (.string (bs v))
  | none=>nA 5 k w w' e:=by
 suffices H:∀ R:Ending->Z->Prop,(∀ e w',(Ext w w'/\match ql s with
  | some v=>e = ah (.string (bs v))
  | none=>nA 5 k w w' e)->R e w')->Calls bbx 72 #[.string (bs s),.int .i64 k] w R from H _ yF
 intro R p;have q:∀ w2,Ext w w2->ql s=V->∀ K:Y->Z->Prop,Calls bbx 70 #[zi k] w2 (ends K (PC R)):=fun w2 m hu K=>by
  refine(VO k w2).mono ?_;rintro e w3 ⟨F,t⟩;have u:=t;obtain⟨b,rfl,I,L⟩:=u;exact p _ _ (by grind [bB.trans,nA.ext])
 refine aO4 ?_;refine⟨fun _ w'=>Ext w w'/\ql s=O s,?_,?_⟩
 .refine bG ?_;refine⟨fun z w'=>Ext w w'/\∃ b,z 36 = .bool b/\(b=A->ql s=V)/\(b=G->ql s=O s),?_,?_⟩
  .cases s with
   | nil=>
    refine bG ?_;exact⟨yF,A,J,fun _=>rfl,zg⟩
   | cons c r=>
    have x:ql (c::r)=if 10<(c::r).length\/P.digit c=A\/(c::r).all (fun c=>decide (33<=c/\c<=126))=G\/(c=45/\r≠[]) then V else O (c::r):=rfl
    have g:decide (c::r=[])=false:=zs;by_cases M:10<(c::r).length
    .have a:(((c::r).length:Nat):Int) > 10:=zo;refine dF g a ?_;exact yF
    .have a:¬ (((c::r).length:Nat):Int) > 10:=zo;have y:∀ h:P.digit c=G,(a3A (c::r) Be≠[]->ql (c::r)=V)/\(a3A (c::r) Be=[]->c=45->1<(c::r).length->ql (c::r)=V)/\(a3A (c::r) Be=[]->(c≠45\/(c::r).length<=1)->ql (c::r)=O (c::r)):=fun h=>by
      have ht:=aSe (c::r);grind
     have d:(c::r).getD 0 0=c:=rfl;by_cases B:P.digit c=A
     .have N:48<=c.toNat/\c.toNat<=57:=by grind [P.digit]
      have f:(48:Int)<=(c.toNat:Int):=zo;have i:(c.toNat:Int)<=57:=zo;refine dM g a d (zA f i) ?_;exact yF
     .have h:P.digit c=false:=zg;obtain⟨Q,S,T⟩:=y h;have C:((48:Int)<=(c.toNat:Int)/\¬ (c.toNat:Int)<=57)\/¬ (48:Int)<=(c.toNat:Int):=by
       grind [P.digit]
      rcases C with⟨f,i⟩| f;all_goals
       first
        | simp (disch:=first|assumption|omega|simp only[zS]<;>omega|decide) only[zB,simprocAttr,lE,g,a,d,f,i]
        | simp (disch:=first|assumption|omega|simp only[zS]<;>omega|decide) only[zB,simprocAttr,lE,g,a,d,f]
       refine a1a (aSf (c::r) w o) ?_;rintro e w2 ⟨rfl,U⟩;by_cases j:a3A (c::r) Be=[]
       .rw[j];by_cases n:c=45
        .have hx:(c.toNat:Int)=45:=by rw[n];rfl
         first
          | (exfalso;omega)
          | (simp (disch:=first|assumption|omega|simp only[zS]<;>omega|decide) only[zB,simprocAttr,lE,d,hx];exact yF)
        .have hx:¬ (c.toNat:Int)=45:=fun e=>n (UInt8.toNat_inj.1 (by show c.toNat=45;omega));refine dF d hx ?_;exact yF
       .have l:decide (a3A (c::r) Be=[])=false:=by simpa using j
        refine dF l j ?_;exact yF
  .rintro z w2 ⟨m,b,D,E,W⟩ X;rw[D];cases b with
   | true=>
    refine bG ?_;exact q w2 m (E J) _
   | false=>
    refine bG ?_;exact yF
 exact yF
open Go.Proofs.YtoegidfbnkaabaaGreatDoor.Sx
section
variable{p0 p1 p2 p3 p4 p5 p6 p7:Y}{w:Z}{R:Ending->Z->Prop}
def aSh:=cz w R [p0,p1] (gc [] [] [4,8]) Tryz.func103
def aSi:=cz w R [p0,p1] (gc [(2,[8])] [] [9,16]) Tryz.func136
end
section
variable{p0 p1 p2 p3 p4 p5 p6 p7:Y}{w:Z}{R:Ending->Z->Prop}
def aSj:=cz w R [p0,p1,p2] (gd [(7,[35]),(11,[46])] [(4001,[]),(16001,[]),(26020,[]),(28000,[159]),(29001,[])] [] [(2,[0,1,2,3,0,4,5,6,7,8,9]),(13,[11,0,1,2,3,4,5,6,7,8,9,10,11,12]),(19,[14,0,1,2,3,4,5,6,7,8,9,10,11,12,13,14,15]),(25,[10,0,1,2,3,4,5,6,7,8,9,10,11]),(28,[0,0,1,2,3,4,5,6,7,8,9,10,11,12,13,14,15,16,17,18,19,20,21,22,23,24,25,26,27,28,29,30,31,33,34,35,32,36,37,38])] [] [] [9,14,26,27,28,36,41,47,66,70,71,87,88,96,97,105,106,120,121,157,158,159]) Tryz.func74
end
def aSk(s:Bs)(k:Int)(w:Z)(h:s.length<=1000000)(q:Cd w)(r:kZ w):Calls bbx 102 #[.string (bs s),zi k] w fun e w'=>Ext w w'/\match Es s with
  | some t=>∃ cv,e = ah cv/\yD cv (O t)
  | none=>nA 5 k w w' e:=by
 suffices H:∀ R:Ending->Z->Prop,(∀ e w',(Ext w w'/\match Es s with
  | some t=>∃ cv,e = ah cv/\yD cv (O t)
  | none=>nA 5 k w w' e)->R e w')->Calls bbx 102 #[.string (bs s),.int .i64 k] w R from H _ yF
 intro R f;have u:∀ w2,Ext w w2->Er s=V->∀ K:Y->Z->Prop,(∀ v w3,Ext w w3->Es s=O (.atom v)->K (aT v) w3)->Calls bbx 72 #[aT s,zi k] w2 (ends K (PC R)):=fun w2 a hu K x=>by
  refine(ah5 s k w2 h).mono ?_;rintro e w3 ⟨i,d⟩;have c:Es s=(ql s).map .atom:=by grind [Es]
  cases j:ql s with
  | some v=>
   rw[j] at d c;subst d;exact x v w3 yF c
  | none=>
   rw[j] at d c;have y:=d;obtain⟨b,rfl,D,E⟩:=y;exact f _ _ (by grind [bB.trans,nA.ext])
 refine aO5 ?_;refine⟨fun _ w'=>Ext w w'/\Er s=V,?_,?_⟩
 .refine(aSc s w h q).mono ?_;rintro e w1 ⟨B,v,F,rfl,l,C⟩;rcases C with⟨rfl,m⟩| ⟨⟨t,p,rfl⟩,m⟩
  .refine bG ?_;refine⟨fun z w'=>Ext w w'/\z 19 = .bool (decide (kN v=s)),?_,?_⟩
   .refine bG ?_;refine a1a (aor v l.1 l.2 w1 (r.ext B)) ?_;rintro e w2 ⟨rfl,a⟩;refine bG ?_;exact yF
   .rintro z w2 ⟨a,g⟩ n;have kP:=asK m;rw[g];by_cases o:kN v=s
    .rw[zip o] at kP;have:decide (kN v=s)=true:=zg;rw[this];refine bG ?_;exact f _ _ ⟨a,by unfold Es;rw[kP];exact⟨_,J,J⟩⟩
    .rw[bI o] at kP;have:decide (kN v=s)=false:=zg;rw[this];refine bG ?_;exact yF
  .refine bG ?_;refine⟨fun z w'=>w'=w1/\z 19 = .bool G,?_,?_⟩
   .exact eV
   .rintro z w2 ⟨rfl,g⟩ n;rw[g];refine bG ?_;grind [asL]
 .rintro z w2 ⟨a,hu⟩ n;refine u w2 a hu _ fun v w3 i c=>?_;refine bG ?_;exact f _ _ ⟨i,by rw[c];exact⟨_,J,J⟩⟩
def aSl{w:Z}{sh:Bs}(h:JV w mb v sh)(x:UInt8)(F:sh.length<=1000000):Calls bbx 103 #[v,.int .u8 (x.toNat:Int)] w fun e w'=>e = ah (.bool (sh.contains x))/\w'=w:=by
 suffices H:∀ R:Ending->Z->Prop,(∀ e w',(e = ah (.bool (sh.contains x))/\w'=w)->R e w')->Calls bbx 103 #[v,.int .u8 (x.toNat:Int)] w R from H _ zg;intro R s;refine aSh ?_;have j:Calls bbx 136 #[v,.int .u8 (x.toNat:Int)] w fun e w'=>w'=w/\∃ i:Int,e = ah (zi i)/\(decide (i ≥ 0)=sh.contains x):=by
  suffices H:∀ R:Ending->Z->Prop,(∀ e w',(w'=w/\∃ i:Int,e = ah (zi i)/\(decide (i ≥ 0)=sh.contains x))->R e w')->Calls bbx 136 #[v,.int .u8 (x.toNat:Int)] w R from H _ zg;intro R s;obtain⟨a,c,hv⟩:∃ a c,v = .slice a sh.length c:=by
   rcases h with⟨k,t⟩| ⟨b,p,-,k,-⟩<;>grind
  subst hv;refine aSi ?_;refine bG ?_;refine⟨fun m z w'=>∃ q,z 8=zi ((q:Nat):Int)/\q<=sh.length/\m=sh.length-q/\w'=w/\∀ y∈sh.take q,y≠x,⟨_,0,J,Nat.zero_le _,J,J,zs⟩,?_⟩;intro m z d w2 j;refine toPr ?_;obtain⟨q,l,I,rfl,rfl,K⟩:=j;by_cases L:q<sh.length
  .obtain⟨b,p,u,n⟩:∃ b z,a=O ⟨b,0,V⟩/\w2.heap[b]?=O (ae (uP sh).toArray 5 z):=by
    rcases h with⟨k,-⟩| ⟨b,p,-,k,-,t⟩<;>grind
   subst u;have g:((q:Nat):Int)<(sh.length:Int):=zo;have r:((q:Nat):Int).toNat=q:=zo;obtain⟨y,C⟩:=cg (sh[q]);have o:(uP sh).toArray[q]?=O (.int .u8 (y.toNat:Int)):=zg;obtain⟨B,D⟩:=cg ((uP sh).toArray);rw[<- D] at n o;by_cases E:y=x
   .have f:(x.toNat:Int)=(y.toNat:Int):=zg;refine dM l g n (zA o (zA @r f)) ?_;grind
   .have f:¬ (x.toNat:Int)=(y.toNat:Int):=(by grind [UInt8.toNat_inj]);refine dM l g n (zA o (zA @r f)) ?_;refine⟨_,?_,q+1,J,zo,J,?_⟩
    .omega
    grind [List.take_succ,List.getElem?_eq_getElem,Option.toList_some,List.mem_singleton]
  .have g:¬ ((q:Nat):Int)<(sh.length:Int):=zo;refine dF l g ?_;grind
 refine j.mono ?_;rintro e w2 ⟨rfl,i,rfl,M⟩;refine bG ?_;grind
structure ME(base xb:Nat)(cv sv:Y)(w:Z)(i:P.In):Prop where
 cell:w.heap[xb]?=aN #[aT i.word,aT i.name,cv,sv] 198
 con:yD cv i.const
 row:w.ownsRow base 3 1 sv i.s.length (uY i.s)
abbrev MF(base xb:Nat)(w w':Z):Prop:=bB (fun b _=>b=xb\/base<=b) w w'
theorem ME.ext{base xb:Nat}{cv sv:Y}{w w':Z}{i:P.In}(h:ME base xb cv sv w i)(a:Ext w w'):ME base xb cv sv w' i:=⟨a.ext _ _ h.cell,h.con,jY a.ext h.row⟩
def yD.cases{cv:Y}{c:Option Tm}(h:yD cv c):cv = ai\/∃ t u,cv = aj t u:=by
 cases c with
 | none=>exact .inl h
 | some t=>
  cases t with
  | atom s=>exact .inr ⟨_,_,h⟩
  | int s=>exact .inr ⟨_,_,h⟩
  | var i=>exact h.elim
  | comp s l=>exact h.elim
def ah7{cv:Y}{a:Option Addr}{w:Z}{i:P.In}(h:ME base xb cv (.slice a n c) w i)(E:base<=w.heap.size)(hx:xb<base)(F:i.s.length<=1000000)(s:Nat){K:Y->Z->Prop}
  (u:∀ a' l f w',w'.heap[xb]?=aN #[aT i.word,aT i.name,cv,.slice a n c] 198 ->
   ME base xb cv (.slice a' l f) (bS w' xb (ae #[aT i.word,aT i.name,cv,.slice a' l f] 198)) { i with s:=i.s++[s] } ->
   MF base xb w (bS w' xb (ae #[aT i.word,aT i.name,cv,.slice a' l f] 198))->K (.slice a' l f) w') :
  WR bbx (a1H #[45,45] 45 #[.slice a n c,cV w.heap.size 1 1]) (w.alloc (ae #[zi (s:Int)] 3)) K X:=by
 have d:Ext w (w.alloc (ae #[zi (s:Int)] 3)):=yF;obtain⟨w1,x⟩:=cg (w.alloc (ae #[zi (s:Int)] 3));have g1:w1.heap[w.heap.size]?=aN #[zi (s:Int)] 3:=yH;rw[<- x] at d ⊢;have s1:=d.size;have m:=h.ext d;refine ark m.row g1 J zo zo fun v' w' p j hv=>?_;obtain⟨a',f,rfl⟩:=il p;have y:∀ b o,b<base->w1.heap[b]?=O o->w'.heap[b]?=O o:=fun b o H fg=>by
  rw[j.block b (bh fg) (fun e=>?_)]
  .exact yH
  .rcases m.row.2 with⟨k,-⟩| ⟨g,cap,cur,k,q,-⟩
   .rw[k] at e;cases e
   .rw[k] at e;injection e with e;grind
 have t:=y _ _ hx m.cell;have z:=bh t;refine u _ _ _ _ t ⟨yH,h.con,?_⟩ ?_
 .have B:(i.s++[s]).length=i.s.length+1:=zs;have C:uY (i.s++[s])=uY i.s++[zi (s:Int)]:=zg;show World.ownsRow _ base 3 1 _ (i.s++[s]).length (uY (i.s++[s]));rw[B,C];refine⟨p.1,?_⟩;rcases p.2 with r | ⟨g,cap,cur,k,q,I,D⟩
  .exact yH
  .exact .inr ⟨g,cap,cur,k,q,yH,D⟩
 .have L:=j.size;refine bB.bS ⟨j.os.trans d.os,j.tape.trans d.tape,j.output.trans d.output,zo,fun b o fg M=>?_⟩ yH;exact yH
def P.aSm(slots:Nat)(x:UInt8)(r:Bs)(ws:List Bs)(i:P.In):nj slots (x::r) ws i=if x=42 then match yp slots ws with
  | some l=>O ({ i with s:=i.s++l },[])
  | none=>V
 else match ws with
  | []=>V
  | w::ws=>
   if x=115 then match kz w slots with
    | some s=>nj slots r ws { i with s:=i.s++[s] }
    | none=>V
   else if x=99 then match Es w with
    | some t=>nj slots r ws { i with const:=O t }
    | none=>V
   else if x=110 then match ql w with
    | some t=>nj slots r ws { i with name:=t }
    | none=>V
   else match kz w 10000 with
    | some s=>nj slots r ws { i with s:=i.s++[s] }
    | none=>none:=rfl
theorem P.asN(slots:Nat)(w:Bs)(ws:List Bs):vN slots (w::ws)=match ni w with
 | none=>V
 | some sh=>match nj slots sh ws ⟨w,[],V,[]⟩with
  | some (i,[])=>if ((w=[109,97,107,101]\/w=[115,112,108,105,116])/\i.s.length<2)\/(w=nM/\jW i.name≠i.s.length) then V else O i
  | _=>none:=rfl
