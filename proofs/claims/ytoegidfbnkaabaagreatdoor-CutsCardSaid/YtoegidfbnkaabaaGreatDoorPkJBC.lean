/- A part of one proof (KG18, VP1, VP2, VP3, ShX4d, ShX4b, VP4, VP5). -/
import Derived.Test.YtoegidfbnkaabaaGreatDoorPkJBB
import Derived.Lib.AtoiAllCases
import Derived.Lib.ParseIntBTie
import Derived.Shelf.Strings.SlTrimAscii
set_option linter.all false
set_option maxRecDepth 100000
set_option maxHeartbeats 8000000
open Option renaming some → O, none → V
open Go renaming Value → Y, World → Z
open Bool renaming true → A, false → G
open Go.Obj renaming cells → ae
open Go.Ending renaming returned → ah
open Go.Value renaming nilIface → ai, iface → aj, tuple → ak, pointer → aq
open Go.Calls renaming mono → aZJ
open List renaming mem_cons → aZU, mem_cons_self → aZV
open Option renaming map_eq_some_iff → aZ7
open Go.Builtin renaming append_ → a0e
open Go.Lib renaming atoiAll → a1h, trimS → a1T, atoiAll_bounds → a2O
open Go.Proofs.Tryz renaming prog → a9N
namespace Go.Proofs.YtoegidfbnkaabaaGreatDoor
open P
open Go.RowKit Sx
variable{X:Y->Z->Prop}{b base c m mb n pb xb:Nat}{s:Bs}{v:Y}{sX:Nat->Nat}{w w' w0:Z}{xs:List Y}
def Tryz.aQf:(Tryz.prog.info? 211).map (fun i=>(i.zero,i.size,i.bytes))=O (O (aq V),1,8):=zk
def Tryz.aQg:(Tryz.prog.info? 185).map (fun i=>(i.zero,i.size,i.bytes))=O (O (aq V),1,8):=zk
def aQh(c:w.ownsRow base 211 1 v n xs){q:Nat}
  (d:w.heap[b]?=aM #[pp q] 211)
  (p:n<=100000000) (f:base<=w.heap.size) {K:Y->Z->Prop}
  (h:∀ v' w',w'.ownsRow base 211 1 v' (n+1) (xs++[pp q])->w.grownBy w' v.ownBlock->(v'.ownBlock=v.ownBlock\/∀ k,v'.ownBlock=O k->w.heap.size<=k)->K v' w') :
  WR a9N (a0e #[209,209] 209 #[v,cR b 1 m]) w K X:=by
 obtain⟨i,g,a⟩:=aZ7.1 Tryz.aQf;simp only[Prod.mk.injEq] at a;obtain⟨j,l,o⟩:=a;refine Sx.C3 (m:=1) (t:=209) (e:=211) zk g j l o J zo c d J (fun u hu=>?_) zo zo f h;simp only[aZU,List.not_mem_nil,or_false] at hu;subst hu;rfl
def aq6(c:w.ownsRow base 185 1 v n xs){q:Nat}
  (d:w.heap[b]?=aM #[pp q] 185)
  (p:n<=100000000) (f:base<=w.heap.size) {K:Y->Z->Prop}
  (h:∀ v' w',w'.ownsRow base 185 1 v' (n+1) (xs++[pp q])->w.grownBy w' v.ownBlock->(v'.ownBlock=v.ownBlock\/∀ k,v'.ownBlock=O k->w.heap.size<=k)->K v' w') :
  WR a9N (a0e #[192,192] 192 #[v,cR b 1 m]) w K X:=by
 obtain⟨i,g,a⟩:=aZ7.1 Tryz.aQg;simp only[Prod.mk.injEq] at a;obtain⟨j,l,o⟩:=a;refine Sx.C3 (m:=1) (t:=192) (e:=185) zk g j l o J zo c d J (fun u hu=>?_) zo zo f h;simp only[aZU,List.not_mem_nil,or_false] at hu;subst hu;rfl
theorem aQi{α:Type}(f:α->α)(l:List α)(a:α):(l++[a]).modify l.length f=l++[f a]:=by
 have:=WV f l [a] 0;grind
def Bv.aQj{rF:Nat->Y}{l:List Pd}(h:Bv pb w v sX rF l)(hk:∀ (b T:Nat) (cs:Array Y),w.heap[b]?=aM cs T->w'.heap[b]?=aM cs T):Bv pb w' v sX rF l:=
 ⟨Fy h.row yH,h.lo,(by grind [cell]),fun i p a=>let ⟨fV,c,d⟩:=h.cl i p a;⟨fV,(by grind [Fy]),(by grind [rD.agO])⟩,h.ne,h.nc⟩
def aQk{w:Z}{bv:Y}{YO:List Y}{cs:List P.Cl}{qb nv:Nat}{nm:Bs}{av xv Ux:Y}{x:Bd}(hv:fK (fun _=>True) w 79 bv YO)(hc:j9 (fun _=>True) w YO cs)(dx:∀ c∈cs,P.qi c)(hn:cs.length<=40)
  (hq:w.heap[qb]?=aM #[aT nm,av,xv,Ux] 86) (vQ:∃ a c,Ux = .slice a nv c) (gw:lp (fun _=>True) w av []) (q8:dL (fun _=>True) w xv x) (eY:eW nv 2900 x) (QB:iR x<=5800) (mY:nv<=12) (hP:lH w) :
  Calls a9N 41 #[bv,pp qb] w fun e w'=>Ext w w'/\match Cj cs x nv with
   | none=>e = ah (ak #[.string (bs []),.bool G])
   | some t=>e = ah (ak #[.string (bs t),.bool A]):=by
 suffices H:∀ R:Ending->Z->Prop,(∀ e w',(Ext w w'/\match Cj cs x nv with
   | none=>e = ah (ak #[.string (bs []),.bool G])
   | some t=>e = ah (ak #[.string (bs t),.bool A]))->R e w')->Calls a9N 41 #[bv,aq (O ⟨qb,0,V⟩)] w R from H _ yF
 intro R hR;have gL:=hc.len;obtain⟨ba,bc,rfl⟩:=hv.sl;refine aP9 ?_;refine cH @Vs ?_;obtain⟨w0,xM⟩:=cd (((w.alloc (ae #[aT []] 9 (0,0))).alloc (ae #[.bool G] 4)).alloc (.map #[] 0));rw[size_alloc,size_alloc,<- xM];have ox:Ext w w0:=yF;have b0:w0.heap[w.heap.size]?=aM #[aT []] 9:=yH;have b1:w0.heap[w.heap.size+1]?=aM #[.bool G] 4:=yH;have b2:w0.heap[w.heap.size+1+1]?=O (eI (rE 0 [])):=by rw[xM];exact sx (yH)
 clear xM;obtain⟨I,aq7⟩:=cd w.heap.size;obtain⟨L,Px⟩:=cd (w.heap.size+1);obtain⟨mb,KT⟩:=cd (w.heap.size+1+1);rw[<- KT,<- Px,<- aq7];rw[<- aq7] at b0;rw[<- Px] at b1;rw[<- KT] at b2;obtain⟨B,hB⟩:=cd (w.heap.size+3);have aq8:∀ w',Ext w w'->w'.heap[I]?=aM #[aT []] 9->w'.heap[L]?=aM #[.bool G] 4->Cj cs x nv=V ->
   LV a9N (fun wz=>RD a9N (Instr.loadAt 9 (pp I)) wz (fun r=>RD a9N (Instr.loadAt 4 (pp L)) wz (fun r_1=>R (ah (ak #[r,r_1])) wz) NX) NX) R [{ target:=.fn (.func 79) #[pp I,pp L],args:=#[]++#[] }] (.panicking [{ v:=aj 27 (zi 4),recovered:=false }]) w':=by
  intro w' hE' h4 h5 UH;have l4:=bg h4;have l5:=bg h5;refine aQe h4 h5 zo ?_;obtain⟨w2,jR⟩:=cd (bO (bO w' I (ae #[aT []] 9 (0,0))) L (ae #[.bool G] 4));have g1:w2.heap[I]?=aM #[aT []] 9:=yH;have g2:w2.heap[L]?=aM #[.bool G] 4:=yH;have dS:Ext w w2:=yF;rw[<- jR];refine du @g1 @g2 ?_;grind
 refine⟨fun m z w'=>∃ j f qt rF v,z 17=zi ((j:Nat):Int)/\z 6=v/\j<=cs.length/\m=cs.length-j/\Ext w w'/\w'.heap[I]?=aM #[aT []] 9/\w'.heap[L]?=aM #[.bool G] 4/\w'.heap[mb]?=O (eI (rE 0 f)) /\
   Bv B w' v qt rF f/\xz cs []=xz (cs.drop j) f/\(∀ p∈f,p.arity<=4)/\f.length<=j/\(∀ p∈f,p.clauses.length<=j),
  ⟨_,0,[],fun _=>0,fun _=>bV,bV,J,J,Nat.zero_le _,J,ox,b0,b1,b2,⟨⟨J,yH⟩,zg,yH,zg,zg,zg⟩,J,zg,Nat.le_refl _,zg⟩,?_⟩
 intro m z d w3 hI;refine toPr ?_;obtain⟨j,f,qt,rF,v,Q,h6,hj,rfl,eD,g0,g1,g2,hG,heq,kL,tS,aQm⟩:=hI;have lmb:=bg g2;obtain⟨ra,rc,rfl⟩:=gV hG.row;by_cases fw:j<cs.length
 .obtain⟨u,uk,Fe⟩:=j9.Cs j fw hc;obtain⟨cb,cav,cbv,XB,Tq,rfl,-,gS,mF,aq9⟩:=Fe;obtain⟨gg,gcs,e3,e4,e5,e6⟩:=hv.at' (j:=j) zo;simp only[Value.slice.injEq,true_and] at e3;obtain⟨rfl,rfl⟩:=e3;rw[uk] at e6;obtain⟨c,Fg⟩:=cd (cs[j]);rw[<- Fg] at gS mF aq9;have N:P.qi c:=zg;have jW:((j:Nat):Int).toNat=j:=zo;have fM:((j:Nat):Int)<(YO.length:Int):=zo;have e53:=eD.ext _ _ e5;have Kw:=eD.ext _ _ gS;have dC:Ext w3 w3.drew:=yF;obtain⟨di,Ya,aQo⟩:=id mF;have ara:=aQo.E9;obtain⟨aa,ac,rfl⟩:=Ya.sl;have vY:=N.cl.qg;have xn:=N.name;refine dH Q fM @e53 (zA @e6 (zA @jW Kw)) ?_;rw[ara];refine aZJ (afm c.name c.args.length zo zo w3.drew) ?_;rintro e w4 ⟨rfl,rfl⟩;refine bE ?_;have YQ:=dC.ext _ _ g2;obtain⟨kv,YR,vZ,aQp⟩:∃ (kv:Nat) (YR:Bool),(∀ {K:Y->Prop} {X:Y->Z->Prop},K (ak #[zi (kv:Int),.bool YR])->RD a9N (Instr.lookup 210 (.map (O mb)) (aT (P.keyOf c.name c.args.length)) A) w3.drew K X) /\
    ((YR=G/\fL (P.keyOf c.name c.args.length) (rE 0 f) 0=V/\∀ x,rj c.name c.args.length x f=f++[⟨c.name,c.args.length,[x]⟩])\/(YR=A/\kv<f.length/\∀ x,rj c.name c.args.length x f=f.modify kv fun p=>{ p with clauses:=p.clauses++[x] })):=by
   cases hf:fL (P.keyOf c.name c.args.length) (rE 0 f) 0 with
   | none=>
    refine⟨0,G,fun hK=>?_,.inl ⟨J,J,fun x=>?_⟩⟩
    .rw[KQ (k:=9) (e:=3) (z:=zi 0) zk zk zk YQ _ A,hf];grind
    .have:=YN (name:=c.name) (n:=c.args.length) zo x f 0 0 zg;grind
   | some qv=>
    obtain⟨q,v⟩:=qv;have h0:=YN (name:=c.name) (n:=c.args.length) zo default f 0 0 zg;rw[hf] at h0;obtain⟨k,e1,e2,XX,-⟩:=h0;rw[Nat.zero_add] at e1 e2;subst e1 e2;refine⟨q,A,fun hK=>?_,.inr ⟨J,XX,fun x=>?_⟩⟩
    .rw[KQ (k:=9) (e:=3) (z:=zi 0) zk zk zk YQ _ A,hf];grind
    .have:=YN (name:=c.name) (n:=c.args.length) zo x f 0 0 zg;grind
  refine vZ ?_;refine bE ?_;refine⟨fun s E=>∃ l' M S v' k,s 6=v'/\s 11=zi ((k:Nat):Int)/\Ext w E/\E.heap[I]?=aM #[aT []] 9/\E.heap[L]?=aM #[.bool G] 4/\E.heap[mb]?=O (eI (rE 0 l')) /\
    Bv B E v' M S l'/\k<l'.length/\(∀ x,rj c.name c.args.length x f=l'.modify k fun p=>{ p with clauses:=p.clauses++[x] })/\(∀ p∈l',p.arity<=4)/\l'.length<=j+1/\(∀ p∈l',p.clauses.length<=j),?_,?_⟩
  .rcases aQp with⟨rfl,hf,U⟩| ⟨rfl,yQ,U⟩
   .refine cH h6 ?_;rw[xK (k:=9) (e:=3) zk zk YQ _ hf];obtain⟨C,YS⟩:=cd (bO w3.drew mb (eI (rE 0 f++[(P.keyOf c.name c.args.length,Value.int .i64 (f.length:Int))])));rw[<- YS];have hkM:∀ (b T:Nat) (cs:Array Y),w3.heap[b]?=aM cs T->C.heap[b]?=aM cs T:=fun b T cs hx=>by
     rw[YS,iY (fun e=>by rw[e,g2] at hx;cases hx)];exact yH
    have hEM:Ext w C:=yF;have gM:C.heap[mb]?=O (eI (rE 0 (f++[⟨c.name,c.args.length,[]⟩]))):=by
     rw[YS,aq3,Nat.zero_add];exact yH
    have sM:C.heap.size=w3.heap.size:=yH;clear YS;have arc:=hkM _ _ _ Kw;have hGM:=hG.aQj hkM;have hdM:Ext C C.drew:=yF;refine⟨fun w'=>Ext C w',hdM,?_⟩;rw[ju];refine cO (pp cb) (fun w' h=>eR) ?_;refine cO (aT c.name) (fun w' h=>by have g:=h.ext _ _ arc;have:=bg g;exact fa g) ?_;refine cH arc ?_;rw[ara];obtain⟨W,OZ⟩:=cd (C.drew.alloc (ae #[aT c.name,zi (c.args.length:Int),bV] 213));rw[<- OZ];have Kb:Ext C W:=yF;have gB:W.heap[C.heap.size]?=aM #[aT c.name,zi (c.args.length:Int),bV] 213:=yH;have sB:W.heap.size=C.heap.size+1:=yH;clear OZ;obtain⟨wC,hwC⟩:=cd (W.alloc (ae #[pp C.heap.size] 211));have hEC:Ext W wC:=yF;have gC:wC.heap[W.heap.size]?=aM #[pp C.heap.size] 211:=yH;have sC:wC.heap.size=W.heap.size+1:=yH;refine⟨Kb,?_⟩;rw[<- hwC];refine⟨yF,?_⟩;have UI:=hGM.ext (Kb.trans hEC);have YT:Ext w wC:=yF;rw[h6];rw[sB] at gC;refine aQh (base:=B) UI.row gC zo zo fun v' w5 ho l Dx=>?_;have KZ:=l.size;have ud:Ext w w5:=⟨l.os.trans YT.os,l.tape.trans YT.tape,l.output.trans YT.output,zo,fun b o hb _=>by
     have F:=YT.ext _ _ hb;rw[l.block b (bg F) (fun e=>?_)]
     .omega
     .have:=(Ea UI.row e.symm).1;grind⟩
    have qF:∀ {b T:Nat} {cs:Array Y},T≠211->wC.heap[b]?=aM cs T->w5.heap[b]?=aM cs T:=fun hT hx=>Fz UI.row l hT hx;have IP:w5.heap[mb]?=O (eI (rE 0 (f++[⟨c.name,c.args.length,[]⟩]))):=by
     have F:=(Kb.trans hEC).ext _ _ gM;rw[l.block mb (bg F) (fun e=>?_)]
     .omega
     .obtain⟨-,-,cs',g⟩:=Ea UI.row e.symm;rw[F] at g;cases g
    have hGN:=UI.new (nb:=C.heap.size) (n:=c.args.length) (name:=c.name) yH zo (fun i hi=>by
     have:=bg (hGM.cell i f[i] zg);omega) ho l
    refine⟨f++[⟨c.name,c.args.length,[]⟩],_,_,v',f.length,J,J,ud,?_,?_,IP,hGN,zs,fun x=>?_,fun p hp=>?_,zg,fun p hp=>?_⟩
    .exact qF zo ((Kb.trans hEC).ext _ _ yH)
    .exact qF zo (by grind [bB.ext,bB.trans])
    .grind [aQi]
    .grind
    grind
   .refine cH h6 ?_;exact⟨f,qt,rF,_,kv,zg,zg,yF,yH,yH,YQ,hG.ext dC,yQ,U,kL,zo,aQm⟩
  .rintro s E ⟨l',M,S,v',k,s6,s11,j5,q0,q1,q2,pI,yQ,U,aYt,aYu,aYv⟩ dd;obtain⟨p,G3⟩:=cd (l'[k]);have UG:l'[k]?=O p:=zg;obtain⟨fV,iX,jI⟩:=pI.cl k p UG;have ns:=pI.cell k p UG;have y5:Ext E E.drew:=yF;obtain⟨pg,pgc,pgu,lx,aYx,aYy⟩:=SX pI.row (t:=k) yQ;subst lx;have arh:pgu[k]?=O (pp (M k)):=zg;have oR:((k:Nat):Int).toNat=k:=zo;have vz:((k:Nat):Int)<(l'.length:Int):=zo;obtain⟨cla,clc,QI⟩:=gV iX;obtain⟨Cl,ari⟩:=cd (S k);rw[<- ari] at ns iX QI;have aQv:=ns;rw[QI] at aQv;rw[s6,s11];refine⟨fun w'=>w'.heap[pg]?=aM pgu 211/\w'.heap[M k]?=aM #[aT p.name,zi (p.arity:Int),Cl] 213,yH,?_⟩;refine cO (pq pg k) (fun w' h=>by have g:=h.1;have:=bg g;exact FU g vz @oR) ?_;refine cO (pp (M k)) (fun w' h=>by have g:=h.1;have:=bg g;exact lP g arh) ?_;refine cO (pq pg k) (fun w' h=>by have g:=h.1;have:=bg g;exact FU g vz @oR) ?_;refine cO (pp (M k)) (fun w' h=>by have g:=h.1;have:=bg g;exact lP g arh) ?_;rw[ju];refine cO (pq (M k) 2) (fun w' h=>eR) ?_;refine cO Cl (fun w' h=>by have g:=h.2;have:=bg g;rw[QI] at g ⊢;exact fa g) ?_;have arj:=j5.trans y5;have aQw:lp (fun _=>True) E.drew (.slice aa di.length ac) c.args:=lp.mono zg (by grind [bB.ext]) mF;have aQx:dL (fun _=>True) E.drew cbv c.body:=dL.mono zg (by grind [bB.ext]) _ _ aq9;refine aZJ (aqD G (arj.ext _ _ gS) ⟨_,_,J⟩ aQw aQx N.cl.args N.cl.qg N.cl.sz N.cl.body N.bsz N.vs.1) ?_;rintro e w7 ⟨QH,D⟩;have ark:xz cs []=match A8 c.args c.body c.vars.length G with
     | none=>V
     | some x=>xz (cs.drop (j+1)) (rj c.name c.args.length x f):=by
    rw[heq,List.drop_eq_getElem_cons fw,<- Fg];rfl
   have BX:=arj.trans QH;have UJ:=y5.trans QH;cases N1:A8 c.args c.body c.vars.length G with
   | none=>
    rw[N1] at D ark;have D:e=gR (.fault 4):=D;subst D;exact fun fq=>aq8 w7 BX (UJ.ext _ _ q0) (UJ.ext _ _ q1) (by grind [Cj])
   | some co=>
    rw[N1] at D ark;obtain⟨cm,he,CT,uW⟩:=D;subst he;have Fx:=pI.ext UJ;have aQz:=jJ UJ.ext iX;refine⟨(by grind [bB.ext]),?_⟩;rw[QI];refine bE ?_;obtain⟨w8,Lj⟩:=cd (w7.alloc (ae #[pp cm] 185));have vp:Ext w7 w8:=yF;have g8:w8.heap[w7.heap.size]?=aM #[pp cm] 185:=yH;rw[<- Lj];have YU:=UJ.trans vp;have vl:=BX.trans vp;have NT:=Fx.ext vp;have UK:=jJ vp.ext aQz;have sz8:=vl.size;refine⟨(by grind [bB.ext]),?_⟩;rw[<- QI];have jS:p.clauses.length<=j:=zg;have yi:=bg q2;have aYA:=YU.size;refine aq6 (base:=B) UK g8 zo zo fun v9 w9 ho l Fw=>?_;have KZ:=l.size;have I5:∀ {b T:Nat} {cs:Array Y},T≠185->w8.heap[b]?=aM cs T->w9.heap[b]?=aM cs T:=(by grind [Fz]);have YV:=I5 zd (YU.ext _ _ ns);refine⟨(by grind [bB.ext]),?_⟩;have lc9:=bg YV;obtain⟨va9,vc9,arl⟩:=gV ho;rw[QI] at YV;have aQA:=YV;rw[arl];refine du YV Q ?_;rw[<- arl];obtain⟨wF,Fh⟩:=cd (bO w9 (M k) (ae #[aT p.name,zi (p.arity:Int),v9] 213));rw[<- Fh];rw[ari] at UK l Fw;have hGF:=NT.push UG UK (by grind [rD.ext]) (uW.ext vp) ho l Fw;rw[<- Fh] at hGF;have hEF:Ext w wF:=by
     have lJ:Ext w w9:=⟨l.os.trans vl.os,l.tape.trans vl.tape,l.output.trans vl.output,zo,fun b o hb _=>by
      have F:=vl.ext _ _ hb;rw[l.block b (bg F) (fun e=>?_)]
      .omega
      .have:=(Ea UK e.symm).1;grind⟩
     rw[Fh];exact lJ.bO (.inr (by have:=pI.lo k yQ;omega))
    have aYE:∀ {b T:Nat} {cs:Array Y},T≠185->T≠213->E.heap[b]?=aM cs T->wF.heap[b]?=aM cs T:=fun{b T cs} h1 h2 hx=>by
     have wi:=I5 h1 (YU.ext _ _ hx);exact yH
    have hmF:wF.heap[mb]?=O (eI (rE 0 (l'.modify k fun p=>{ p with clauses:=p.clauses++[co] }))):=by
     rw[aq4];have F:=YU.ext _ _ q2;have fh:w9.heap[mb]?=O (eI (rE 0 l')):=by
      rw[l.block mb (bg F) (fun e=>?_)]
      .exact F
      .obtain⟨-,-,cs',g⟩:=Ea UK e.symm;rw[F] at g;cases g
     rw[Fh,iY]
     .omega
     .rintro rfl;rw[aQA] at fh;cases fh
    refine⟨_,?_,j+1,l'.modify k fun p=>{ p with clauses:=p.clauses++[co] },M,_,_,zg,zg,zo,J,hEF,yH,yH,hmF,hGF,?_,fun y hy=>?_,zg,fun y hy=>?_⟩
    .omega
    .grind
    .rcases WX hy with hy | ⟨y0,IF,rfl⟩<;>grind
    .rcases WX hy with hy | ⟨y0,IF,rfl⟩<;>grind
 .have fw:j=cs.length:=zo;subst fw;have fM:¬ (cs.length:Int)<(YO.length:Int):=zo;rw[List.drop_length,xz] at heq;obtain⟨va,vc,rfl⟩:=vQ;have Bc:=eD.ext _ _ hq;have dC:Ext w3 w3.drew:=yF;have si:=eD.trans dC;refine du Q fM ?_;refine⟨fun w'=>w'.heap[qb]?=aM #[aT nm,av,xv,.slice va nv vc] 86,yH,?_⟩;rw[ju];refine cO (pq qb 3) (fun w' h=>eR) ?_;refine cO (.slice va nv vc) (fun w' h=>by have:=bg h;exact fa h) ?_;refine cO (zi (nv:Int)) (fun w' h=>eR) ?_;have Fs:lp (fun _=>True) w3.drew av []:=lp.mono zg (by grind [bB.ext]) gw;have aQC:dL (fun _=>True) w3.drew xv x:=dL.mono zg (by grind [bB.ext]) _ _ q8;refine aZJ (aqD A (si.ext _ _ hq) ⟨_,_,J⟩ Fs aQC fi.nil zs (by simp [fH]) eY QB mY) ?_;rintro e w7 ⟨QH,D⟩;have QJ:=dC.trans QH;have BX:=eD.trans QJ;cases N1:A8 [] x nv A with
  | none=>
   rw[N1] at D;have D:e=gR (.fault 4):=D;subst D;exact fun fq=>aq8 w7 BX (QJ.ext _ _ g0) (QJ.ext _ _ g1) (by grind [Cj])
  | some ask=>
   rw[N1] at D;obtain⟨cm,he,CT,uW⟩:=D;subst he;refine⟨QJ.ext _ _ Bc,?_⟩;have oB:Cj cs x nv=O (yI f ask nv):=by grind [Cj]
   obtain⟨p1,p2,p3,p4⟩:=amK dx hn heq;have Tx:=WT N1 fi.nil (by simp [fH]) eY QB mY;have Bb:=amE N1 fi.nil eY;have hlen:=aHK p1 Tx (show nv<=1000 by omega);have Fx:=hG.ext QJ;have aQD:fK (fun _=>True) w7 211 (.slice ra f.length rc) ((List.range f.length).map fun i=>Value.pointer (O ⟨qt i,0,V⟩)):=Et Fx.row zg;rw[h6];refine aZJ (aP0 aQD zs (fun i p hi=>?_) uW p2 ⟨Tx,Bb⟩ zg zg zo zo (hP.ext BX) zo) ?_
   .have lQ:i<f.length:=by
     grind
    refine⟨qt i,zg,?_⟩;obtain⟨fV,e1,e2⟩:=Fx.cl i p hi;exact⟨rF i,fV,Fx.cell i p hi,(by grind [Et]),by have:=e1.1;omega,e2⟩
   rintro e w8 ⟨rfl,vp⟩;have agV:=QJ.trans vp;have vl:=eD.trans agV;have g08:=agV.ext _ _ g0;have g18:=agV.ext _ _ g1;have l08:=bg g08;have l18:=bg g18;refine du @g08 @g18 ?_;obtain⟨wF,Fh⟩:=cd (bO (bO w8 I (ae #[aT (yI f ask nv)] 9)) L (ae #[.bool A] 4));have f1:wF.heap[I]?=aM #[aT (yI f ask nv)] 9:=yH;have f2:wF.heap[L]?=aM #[.bool A] 4:=yH;have hEF:Ext w wF:=yF;rw[<- Fh];refine aQd ?_;refine du @f1 @f2 ?_;grind
def Bx(w:Z):Prop:=∃ t1 p1 t2 p2,w.cell? ⟨6,0,V⟩=O (aj t1 p1)/\w.cell? ⟨7,0,V⟩=O (aj t2 p2)
theorem Bx.ext{w w':Z}(h:Bx w)(a:Ext w w'):Bx w':=by
 obtain⟨t1,p1,t2,p2,b,c⟩:=h;exact⟨t1,p1,t2,p2,(by grind [LX,bB.ext]),(by grind [LX,bB.ext])⟩
def arp:∀ (l:Bs) (acc n:Nat),(∀ c∈l,P.digit c=A)->(l.foldl (fun v c=>10*v+((c.toNat:Int)-48)) (acc:Int))=(n:Int)->n<9223372036854775809->Go.Lib.parseUint10 acc l = .ok n
 | [],acc,n,_,h,_=>by
  have h:(acc:Int)=(n:Int):=h;have:acc=n:=zo;subst this;rfl
 | c::r,acc,n,b,h,d=>by
  have g:=b c aZV;have i:48<=c.toNat/\c.toNat<=57:=by grind [P.digit]
  have f:(10*(acc:Int)+((c.toNat:Int)-48))=((acc*10+(c.toNat-48):Nat):Int):=zo;rw[List.foldl_cons,f] at h;have j:acc*10+(c.toNat-48)<=n:=by
   have key:∀ (l:Bs) (a:Nat),(∀ c∈l,P.digit c=A)->(a:Int)<=l.foldl (fun v c=>10*v+((c.toNat:Int)-48)) (a:Int):=by
    intro l;induction l with
    | nil=>grind
    | cons x l ih=>
     intro a b;have hx:48<=x.toNat/\x.toNat<=57:=by grind [P.digit,aZV]
     have e:(10*(a:Int)+((x.toNat:Int)-48))=((a*10+(x.toNat-48):Nat):Int):=zo;rw[List.foldl_cons,e];have:=ih (a*10+(x.toNat-48)) zg;omega
   have:=key r (acc*10+(c.toNat-48)) zg;omega
  have ih:=arp r (acc*10+(c.toNat-48)) n zg h d;rw[Go.Lib.parseUint10];grind
def arq(a:n<9223372036854775809):Go.Lib.parseMag (ff n) = .ok n:=by
 unfold Go.Lib.parseMag;rw[bZ (by grind [amL])];exact arp _ 0 n (Pf _ _) (W0 n) a
theorem ars{z:Int}(h:-9223372036854775808<=z/\z<=9223372036854775807):a1h (kO z) = .ok z:=by
 unfold kO;split
 .rename_i b;rw[Go.Lib.atoiAll_minus,arq zo];unfold Go.Lib.signed;grind
 .rename_i b;obtain⟨c,r,a,-⟩:=ade (z.natAbs+1) z.natAbs zo;have d:=Pf (z.natAbs+1) z.natAbs c (by rw[a];exact aZV);have e:48<=c.toNat/\c.toNat<=57:=by grind [P.digit]
  have hm:=arq (n:=z.natAbs) zo;unfold ff at hm ⊢;rw[a] at hm ⊢;rw[Go.Lib.atoiAll_plain c r zo zo,hm];unfold Go.Lib.signless;grind
def UL(h:Below w.heap.size w w'):Ext w w':=⟨h.os,h.tape,h.output,h.size,(by grind [bg,Below.block])⟩
def aQE(s:Bs)(w:Z)(h:s.length<=1000000)(d:Bx w):Calls a9N 100 #[aT s] w fun e w'=>Ext w w'/\∃ v b,e = ah (ak #[zi v,b])/\(-9223372036854775808<=v/\v<=9223372036854775807) /\
  ((b = ai/\a1h s = .ok v)\/((∃ t p,b = aj t p)/\∀ z,a1h s≠.ok z)):=by
 obtain⟨t1,p1,t2,p2,f,g⟩:=d;have i:(bs s).size<=1000000:=by show s.toArray.size<=_;omega
 cases a:a1h s with
 | ok v=>
  refine(Tryz.strconv_Atoi_ok (bs s) zo v a w).mono ?_;rintro e w' ⟨rfl,hw⟩;refine⟨?_,v,_,J,a2O a,zg⟩;rcases hw with rfl | ⟨t,rfl⟩
  .exact yF
  grind [abu]
 | range=>
  refine(Tryz.strconv_Atoi_range (bs s) zo a _ w g zg).mono ?_;rintro e w' ⟨N,rfl,-,-,c⟩;refine⟨UL c,_,_,J,?_,zg⟩;grind [Go.Lib.atoiSat]
 | _=>
  refine(Tryz.strconv_Atoi_syntax (bs s) zo a _ w f zg).mono ?_;rintro e w' ⟨N,rfl,-,-,c⟩;exact⟨UL c,0,_,J,zo,zg⟩
def aQF(s:Bs)(w:Z)(h:s.length<=1000000)(d:Bx w):Calls a9N 135 #[aT s,zi 10,zi 64] w fun e w'=>Ext w w'/\∃ v b,e = ah (ak #[zi v,b])/\(-9223372036854775808<=v/\v<=9223372036854775807) /\
  ((b = ai/\a1h s = .ok v)\/((∃ t p,b = aj t p)/\∀ z,a1h s≠.ok z)):=by
 obtain⟨t1,p1,t2,p2,f,g⟩:=d;have i:(bs s).size<=1000000:=by show s.toArray.size<=_;omega
 have he:=Go.Lib.parseIntB_64 s;cases a:a1h s with
 | ok v=>
  rw[a] at he;refine(Tryz.strconv_ParseInt_10_at64_ok (bs s) zo v he w).mono ?_;rintro e w' ⟨rfl,hw⟩;refine⟨?_,v,_,J,a2O a,zg⟩;rcases hw with rfl | ⟨t,rfl⟩
  .exact yF
  grind [abu]
 | range=>
  rw[a] at he;refine(Tryz.strconv_ParseInt_10_at64_range (bs s) zo he _ w g zg).mono ?_;rintro e w' ⟨N,rfl,-,-,c⟩;refine⟨UL c,_,_,J,?_,zg⟩;grind [Go.Lib.intSat_64,Go.Lib.atoiSat,Lib.intSat_64]
 | _=>
  rw[a] at he;refine(Tryz.strconv_ParseInt_10_at64_syntax (bs s) zo he _ w f zg).mono ?_;rintro e w' ⟨N,rfl,-,-,c⟩;exact⟨UL c,0,_,J,zo,zg⟩
def art{v:Int}(h:a1h s = .ok v):DE s=if kO v=s then O v else none:=by
 by_cases he:kO v=s
 .rw[zip he,<- he,aHT (a2O h)]
 .rw[bZ he];cases a:DE s with
  | none=>rfl
  | some z=>
   obtain⟨b,c⟩:=WO a;grind [ars,absurd]
theorem aru(h:∀ z,a1h s≠.ok z):DE s=none:=by
 cases a:DE s with
 | none=>rfl
 | some z=>
  obtain⟨b,c⟩:=WO a;grind [ars,absurd]
def UM(k:Int)(w:Z):Calls a9N 70 #[zi k] w fun e w'=>Ext w w'/\mN 5 k w w' e:=by
 refine aNw ?_;refine bE ?_;exact⟨yF,w.heap.size,J,yH,Nat.le_refl _⟩
theorem mN.ext{c a:Int}{e:Ending}(h:mN c a w w' e)(d:Ext w0 w):mN c a w0 w' e:=by
 obtain⟨b,f,g,i⟩:=h;exact⟨b,f,g,Nat.le_trans d.size i⟩
def N2(s:Bs)(n:Nat)(k:Int)(w:Z)(q:s.length<=1000000)(F:n<=100000)(r:Bx w)(u:lH w):Calls a9N 73 #[.string (bs s),zi (n:Int),zi k] w fun e w'=>Ext w w'/\match j6 s n with
  | some v=>e = ah (.int .i64 (v:Int))
  | none=>mN 5 k w w' e:=by
 suffices H:∀ R:Ending->Z->Prop,(∀ e w',(Ext w w'/\match j6 s n with
  | some v=>e = ah (.int .i64 (v:Int))
  | none=>mN 5 k w w' e)->R e w')->Calls a9N 73 #[.string (bs s),.int .i64 (n:Int),.int .i64 k] w R from H _ yF
 intro R x;refine aNx ?_;refine(aQE s w q r).mono ?_;rintro e w1 ⟨d,v,I,rfl,i,y⟩;have j:∀ w2,Ext w w2->j6 s n=V->∀ K:Y->Z->Prop,Calls a9N 70 #[zi k] w2 (ends K (PC R)):=fun w2 a hu K=>by
  refine(UM k w2).mono ?_;rintro e w3 ⟨L,B⟩;have C:=B;obtain⟨b,rfl,M,N⟩:=C;exact x _ _ (by grind [bB.trans,mN.ext])
 rcases y with⟨rfl,l⟩| ⟨⟨t,p,rfl⟩,l⟩
 .refine bE ?_;refine⟨fun _ w'=>Ext w w'/\j6 s n=O v.toNat/\0<=v,?_,?_⟩
  .refine⟨fun z w'=>Ext w w'/\∃ b,z 30 = .bool b/\(b=A->j6 s n=V)/\(b=G->j6 s n=O v.toNat/\0<=v),?_,?_⟩
   .refine bE ?_;refine aZJ (Ko v i.1 i.2 w1 (u.ext d)) ?_;rintro e w2 ⟨rfl,a⟩;have m:=art l;have P:=d.trans a;by_cases c:kO v=s
    .rw[zip c] at m;have hu:j6 s n=if 0<=v/\v<n then O v.toNat else none:=by grind [j6]
     rw[c];by_cases f:v<0
     .refine cH f ?_;exact yF
     .by_cases o:v ≥ (n:Int)
      .refine du f o ?_;exact yF
      .refine du f o ?_;exact yF
    .rw[bZ c] at m;have hu:j6 s n=none:=by grind [j6]
     have g:¬ bs (kO v)=bs s:=zg;refine du c g ?_;exact yF
   .rintro z w2 ⟨a,b,h,D,Q⟩ E;rw[h];cases b with
    | true=>
     refine bE ?_;exact j w2 a (D J) _
    | false=>
     refine bE ?_;exact yF
  exact yF
 .have hu:j6 s n=none:=by grind [j6,aru]
  refine bE ?_;refine⟨fun _ _=>False,?_,zg⟩;refine⟨fun z w'=>z 30 = .bool A/\w'=w1,?_,?_⟩
  .exact eR
  .rintro z w2 ⟨h,rfl⟩ E;rw[h];refine bE ?_;exact j w2 d hu _
abbrev Av:Bs:=[33,34,35,36,37,38,39,40,41,42,43,44,45,46,47,48,49,50,51,52,53,54,55,56,57,58,59,60,61,62,63,64,65,66,67,68,69,70,71,72,73,74,75,76,77,78,79,80,81,82,83,84,85,86,87,88,89,90,91,92,93,94,95,96,97,98,99,100,101,102,103,104,105,106,107,108,109,110,111,112,113,114,115,116,117,118,119,120,121,122,123,124,125,126]
theorem YW(x:UInt8):Av.contains x=decide (33<=x/\x<=126):=by
 have h:∀ n:Fin 256,Av.contains (UInt8.ofNat n.val)=decide (33<=UInt8.ofNat n.val/\UInt8.ofNat n.val<=126):=by decide +kernel
 have:=h ⟨x.toNat,x.toNat_lt⟩;simpa using this
theorem agW{α:Type}{p:α->Bool}{c:α}:∀ {l:List α},c∈l->p c=G->c∈l.dropWhile p
 | x::l,h,a=>by
  rw[List.dropWhile_cons];split
  .rename_i hx;rcases aZU.1 h with rfl | h
   .grind
   .exact agW h a
  omega
theorem arv{α:Type}{p:α->Bool}:∀ {l:List α},(∀ c∈l,p c=A)->l.dropWhile p=[]
 | [],_=>rfl
 | x::l,h=>by
  rw[List.dropWhile_cons,zip (h x aZV)];exact arv zg
def aQH(l:Bs):a1T l Av=[]↔l.all (fun c=>decide (33<=c/\c<=126))=true:=by
 unfold a1T Go.Lib.trimLeftS Go.Lib.trimRightS;constructor
 .intro h;rw[List.all_eq_true];intro c d;cases a:decide (33<=c/\c<=126) with
  | true=>rfl
  | false=>
   have b:c∈(l.reverse.dropWhile (Av.contains ·)).reverse:=by
    grind [agW,YW]
   have e:=agW (p:=(Av.contains ·)) b (by rw[YW];exact a);grind
 grind [List.all_eq_true,arv,YW]
def aQI(s:Bs)(w:Z)(c:s.length<=1000000):Calls a9N 99 #[aT s,aT Av] w fun e w'=>e = ah (aT (a1T s Av))/\Ext w w':=by
 have d:(bs s).size<=1000000:=by show s.toArray.size<=_;omega
 refine(Any.strings_Trim_laid Tryz.lays160 zk (bs s) (bs Av) w zo zd (fun j b a=>?_)).mono ?_
 .have hm:=List.mem_of_getElem? a;have:b∈Av:=zo;have f:Av.contains b=true:=zg;grind [YW,UInt8.le_iff_toNat_le]
 .rintro e w' ⟨rfl,a⟩;exact⟨zg,UL a⟩
def agX(s:Bs)(k:Int)(w:Z)(o:s.length<=1000000):Calls a9N 72 #[.string (bs s),zi k] w fun e w'=>Ext w w'/\match px s with
  | some v=>e = ah (.string (bs v))
  | none=>mN 5 k w w' e:=by
 suffices H:∀ R:Ending->Z->Prop,(∀ e w',(Ext w w'/\match px s with
  | some v=>e = ah (.string (bs v))
  | none=>mN 5 k w w' e)->R e w')->Calls a9N 72 #[.string (bs s),.int .i64 k] w R from H _ yF
 intro R p;have q:∀ w2,Ext w w2->px s=V->∀ K:Y->Z->Prop,Calls a9N 70 #[zi k] w2 (ends K (PC R)):=fun w2 m hu K=>by
  refine(UM k w2).mono ?_;rintro e w3 ⟨F,t⟩;have u:=t;obtain⟨b,rfl,I,L⟩:=u;exact p _ _ (by grind [bB.trans,mN.ext])
 refine aNy ?_;refine⟨fun _ w'=>Ext w w'/\px s=O s,?_,?_⟩
 .refine bE ?_;refine⟨fun z w'=>Ext w w'/\∃ b,z 36 = .bool b/\(b=A->px s=V)/\(b=G->px s=O s),?_,?_⟩
  .cases s with
   | nil=>
    refine bE ?_;exact⟨yF,A,J,fun _=>rfl,zg⟩
   | cons c r=>
    have x:px (c::r)=if 10<(c::r).length\/P.digit c=A\/(c::r).all (fun c=>decide (33<=c/\c<=126))=G\/(c=45/\r≠[]) then V else O (c::r):=rfl
    have g:decide (c::r=[])=false:=zs;by_cases M:10<(c::r).length
    .have a:(((c::r).length:Nat):Int) > 10:=zo;refine du g a ?_;exact yF
    .have a:¬ (((c::r).length:Nat):Int) > 10:=zo;have y:∀ h:P.digit c=G,(a1T (c::r) Av≠[]->px (c::r)=V)/\(a1T (c::r) Av=[]->c=45->1<(c::r).length->px (c::r)=V)/\(a1T (c::r) Av=[]->(c≠45\/(c::r).length<=1)->px (c::r)=O (c::r)):=fun h=>by
      have ht:=aQH (c::r);grind
     have d:(c::r).getD 0 0=c:=rfl;by_cases B:P.digit c=A
     .have N:48<=c.toNat/\c.toNat<=57:=by grind [P.digit]
      have f:(48:Int)<=(c.toNat:Int):=zo;have i:(c.toNat:Int)<=57:=zo;refine dH g a d (zA f i) ?_;exact yF
     .have h:P.digit c=false:=zg;obtain⟨Q,S,T⟩:=y h;have C:((48:Int)<=(c.toNat:Int)/\¬ (c.toNat:Int)<=57)\/¬ (48:Int)<=(c.toNat:Int):=by
       grind [P.digit]
      rcases C with⟨f,i⟩| f;all_goals
       first
        | simp (disch:=first|assumption|omega|simp only[zS]<;>omega|decide) only[zB,simprocAttr,kJ,g,a,d,f,i]
        | simp (disch:=first|assumption|omega|simp only[zS]<;>omega|decide) only[zB,simprocAttr,kJ,g,a,d,f]
       refine aZJ (aQI (c::r) w o) ?_;rintro e w2 ⟨rfl,U⟩;by_cases j:a1T (c::r) Av=[]
       .rw[j];by_cases n:c=45
        .have hx:(c.toNat:Int)=45:=by rw[n];rfl
         first
          | (exfalso;omega)
          | (simp (disch:=first|assumption|omega|simp only[zS]<;>omega|decide) only[zB,simprocAttr,kJ,d,hx];exact yF)
        .have hx:¬ (c.toNat:Int)=45:=fun e=>n (UInt8.toNat_inj.1 (by show c.toNat=45;omega));refine du d hx ?_;exact yF
       .have l:decide (a1T (c::r) Av=[])=false:=by simpa using j
        refine du l j ?_;exact yF
  .rintro z w2 ⟨m,b,D,E,W⟩ X;rw[D];cases b with
   | true=>
    refine bE ?_;exact q w2 m (E J) _
   | false=>
    refine bE ?_;exact yF
 exact yF
open Go.Proofs.YtoegidfbnkaabaaGreatDoor.Sx
section
variable{p0 p1 p2 p3 p4 p5 p6 p7:Y}{w:Z}{R:Ending->Z->Prop}
def aQK:=cz w R [p0,p1] (gc [] [] [4,8]) Tryz.func103
def aQL:=cz w R [p0,p1] (gc [(2,[8])] [] [9,16]) Tryz.func136
end
section
variable{p0 p1 p2 p3 p4 p5 p6 p7:Y}{w:Z}{R:Ending->Z->Prop}
def aQM:=cz w R [p0,p1,p2] (gd [(7,[35]),(11,[46])] [(4001,[]),(16001,[]),(26020,[]),(28000,[159]),(29001,[])] [] [(2,[0,1,2,3,0,4,5,6,7,8,9]),(13,[11,0,1,2,3,4,5,6,7,8,9,10,11,12]),(19,[14,0,1,2,3,4,5,6,7,8,9,10,11,12,13,14,15]),(25,[10,0,1,2,3,4,5,6,7,8,9,10,11]),(28,[0,0,1,2,3,4,5,6,7,8,9,10,11,12,13,14,15,16,17,18,19,20,21,22,23,24,25,26,27,28,29,30,31,33,34,35,32,36,37,38])] [] [] [9,14,26,27,28,36,41,47,66,70,71,87,88,96,97,105,106,120,121,157,158,159]) Tryz.func74
end
def aQN(s:Bs)(k:Int)(w:Z)(i:s.length<=1000000)(r:Bx w)(u:lH w):Calls a9N 102 #[.string (bs s),zi k] w fun e w'=>Ext w w'/\match DG s with
  | some t=>∃ cv,e = ah cv/\xO cv (O t)
  | none=>mN 5 k w w' e:=by
 suffices H:∀ R:Ending->Z->Prop,(∀ e w',(Ext w w'/\match DG s with
  | some t=>∃ cv,e = ah cv/\xO cv (O t)
  | none=>mN 5 k w w' e)->R e w')->Calls a9N 102 #[.string (bs s),.int .i64 k] w R from H _ yF
 intro R f;have x:∀ w2,Ext w w2->DE s=V->∀ K:Y->Z->Prop,(∀ v w3,Ext w w3->DG s=O (.atom v)->K (aT v) w3)->Calls a9N 72 #[aT s,zi k] w2 (ends K (PC R)):=fun w2 a hu K y=>by
  refine(agX s k w2 i).mono ?_;rintro e w3 ⟨j,d⟩;have c:DG s=(px s).map .atom:=by grind [DG]
  cases l:px s with
  | some v=>
   rw[l] at d c;subst d;exact y v w3 yF c
  | none=>
   rw[l] at d c;have B:=d;obtain⟨b,rfl,E,F⟩:=B;exact f _ _ (by grind [bB.trans,mN.ext])
 refine aNz ?_;refine⟨fun _ w'=>Ext w w'/\DE s=V,?_,?_⟩
 .refine(aQF s w i r).mono ?_;rintro e w1 ⟨C,v,I,rfl,m,D⟩;rcases D with⟨rfl,n⟩| ⟨⟨t,p,rfl⟩,n⟩
  .refine bE ?_;refine⟨fun z w'=>Ext w w'/\z 19 = .bool (decide (kO v=s)),?_,?_⟩
   .refine bE ?_;refine aZJ (ane v m.1 m.2 w1 (u.ext C)) ?_;rintro e w2 ⟨rfl,a⟩;refine bE ?_;exact yF
   .rintro z w2 ⟨a,g⟩ o;have h:=art n;rw[g];by_cases q:kO v=s
    .rw[zip q] at h;have:decide (kO v=s)=true:=zg;rw[this];refine bE ?_;exact f _ _ ⟨a,by unfold DG;rw[h];exact⟨_,J,J⟩⟩
    .rw[bZ q] at h;have:decide (kO v=s)=false:=zg;rw[this];refine bE ?_;exact yF
  .refine bE ?_;refine⟨fun z w'=>w'=w1/\z 19 = .bool G,?_,?_⟩
   .exact eR
   .rintro z w2 ⟨rfl,g⟩ o;rw[g];refine bE ?_;grind [aru]
 .rintro z w2 ⟨a,hu⟩ o;refine x w2 a hu _ fun v w3 j c=>?_;refine bE ?_;exact f _ _ ⟨j,by rw[c];exact⟨_,J,J⟩⟩
def aQO{sh:Bs}(h:IZ w mb v sh)(x:UInt8)(F:sh.length<=1000000):Calls a9N 103 #[v,.int .u8 (x.toNat:Int)] w fun e w'=>e = ah (.bool (sh.contains x))/\w'=w:=by
 suffices H:∀ R:Ending->Z->Prop,(∀ e w',(e = ah (.bool (sh.contains x))/\w'=w)->R e w')->Calls a9N 103 #[v,.int .u8 (x.toNat:Int)] w R from H _ zg;intro R s;refine aQK ?_;have j:Calls a9N 136 #[v,.int .u8 (x.toNat:Int)] w fun e w'=>w'=w/\∃ i:Int,e = ah (zi i)/\(decide (i ≥ 0)=sh.contains x):=by
  suffices H:∀ R:Ending->Z->Prop,(∀ e w',(w'=w/\∃ i:Int,e = ah (zi i)/\(decide (i ≥ 0)=sh.contains x))->R e w')->Calls a9N 136 #[v,.int .u8 (x.toNat:Int)] w R from H _ zg;intro R s;obtain⟨a,c,hv⟩:∃ a c,v = .slice a sh.length c:=by
   rcases h with⟨k,t⟩| ⟨b,p,-,k,-⟩<;>grind
  subst hv;refine aQL ?_;refine bE ?_;refine⟨fun m z w'=>∃ q,z 8=zi ((q:Nat):Int)/\q<=sh.length/\m=sh.length-q/\w'=w/\∀ y∈sh.take q,y≠x,⟨_,0,J,Nat.zero_le _,J,J,zs⟩,?_⟩;intro m z d w2 j;refine toPr ?_;obtain⟨q,l,I,rfl,rfl,K⟩:=j;by_cases L:q<sh.length
  .obtain⟨b,p,u,n⟩:∃ b z,a=O ⟨b,0,V⟩/\w2.heap[b]?=O (ae (tX sh).toArray 5 z):=by
    rcases h with⟨k,-⟩| ⟨b,p,-,k,-,t⟩<;>grind
   subst u;have g:((q:Nat):Int)<(sh.length:Int):=zo;have r:((q:Nat):Int).toNat=q:=zo;obtain⟨y,C⟩:=cd (sh[q]);have o:(tX sh).toArray[q]?=O (.int .u8 (y.toNat:Int)):=zg;obtain⟨B,D⟩:=cd ((tX sh).toArray);rw[<- D] at n o;by_cases E:y=x
   .have f:(x.toNat:Int)=(y.toNat:Int):=zg;refine dH l g n (zA o (zA @r f)) ?_;grind
   .have f:¬ (x.toNat:Int)=(y.toNat:Int):=(by grind [UInt8.toNat_inj]);refine dH l g n (zA o (zA @r f)) ?_;refine⟨_,?_,q+1,J,zo,J,?_⟩
    .omega
    grind [List.take_succ,List.getElem?_eq_getElem,Option.toList_some,List.mem_singleton]
  .have g:¬ ((q:Nat):Int)<(sh.length:Int):=zo;refine du l g ?_;grind
 refine j.mono ?_;rintro e w2 ⟨rfl,i,rfl,M⟩;refine bE ?_;grind
structure Ll(base xb:Nat)(cv sv:Y)(w:Z)(i:P.In):Prop where
 cell:w.heap[xb]?=aM #[aT i.word,aT i.name,cv,sv] 198
 con:xO cv i.const
 row:w.ownsRow base 3 1 sv i.s.length (um i.s)
abbrev Lm(base xb:Nat)(w w':Z):Prop:=bB (fun b _=>b=xb\/base<=b) w w'
theorem Ll.ext{base xb:Nat}{cv sv:Y}{w w':Z}{i:P.In}(h:Ll base xb cv sv w i)(a:Ext w w'):Ll base xb cv sv w' i:=⟨a.ext _ _ h.cell,h.con,jJ a.ext h.row⟩
def xO.cases{cv:Y}{c:Option Tm}(h:xO cv c):cv = ai\/∃ t u,cv = aj t u:=by
 cases c with
 | none=>exact .inl h
 | some t=>
  cases t with
  | atom s=>exact .inr ⟨_,_,h⟩
  | int s=>exact .inr ⟨_,_,h⟩
  | var i=>exact h.elim
  | comp s l=>exact h.elim
def agZ{cv:Y}{a:Option Addr}{i:P.In}(h:Ll base xb cv (.slice a n c) w i)(E:base<=w.heap.size)(hx:xb<base)(F:i.s.length<=1000000)(s:Nat){K:Y->Z->Prop}
  (u:∀ a' l f w',w'.heap[xb]?=aM #[aT i.word,aT i.name,cv,.slice a n c] 198 ->
   Ll base xb cv (.slice a' l f) (bO w' xb (ae #[aT i.word,aT i.name,cv,.slice a' l f] 198)) { i with s:=i.s++[s] } ->
   Lm base xb w (bO w' xb (ae #[aT i.word,aT i.name,cv,.slice a' l f] 198))->K (.slice a' l f) w') :
  WR a9N (a0e #[45,45] 45 #[.slice a n c,cR w.heap.size 1 1]) (w.alloc (ae #[zi (s:Int)] 3)) K X:=by
 have d:Ext w (w.alloc (ae #[zi (s:Int)] 3)):=yF;obtain⟨w1,x⟩:=cd (w.alloc (ae #[zi (s:Int)] 3));have g1:w1.heap[w.heap.size]?=aM #[zi (s:Int)] 3:=yH;rw[<- x] at d ⊢;have s1:=d.size;have m:=h.ext d;refine ap6 m.row g1 J zo zo fun v' w' p j hv=>?_;obtain⟨a',f,rfl⟩:=gV p;have y:∀ b o,b<base->w1.heap[b]?=O o->w'.heap[b]?=O o:=fun b o H eY=>by
  rw[j.block b (bg eY) (fun e=>?_)]
  .exact yH
  .rcases m.row.2 with⟨k,-⟩| ⟨g,cap,cur,k,q,-⟩
   .rw[k] at e;cases e
   .rw[k] at e;injection e with e;grind
 have t:=y _ _ hx m.cell;have z:=bg t;refine u _ _ _ _ t ⟨yH,h.con,?_⟩ ?_
 .have B:(i.s++[s]).length=i.s.length+1:=zs;have C:um (i.s++[s])=um i.s++[zi (s:Int)]:=zg;show World.ownsRow _ base 3 1 _ (i.s++[s]).length (um (i.s++[s]));rw[B,C];refine⟨p.1,?_⟩;rcases p.2 with r | ⟨g,cap,cur,k,q,I,D⟩
  .exact yH
  .exact .inr ⟨g,cap,cur,k,q,yH,D⟩
 .have L:=j.size;refine bB.bO ⟨j.os.trans d.os,j.tape.trans d.tape,j.output.trans d.output,zo,fun b o eY M=>?_⟩ yH;exact yH
def P.aQP(slots:Nat)(x:UInt8)(r:Bs)(ws:List Bs)(i:P.In):mC slots (x::r) ws i=if x=42 then match xC slots ws with
  | some l=>O ({ i with s:=i.s++l },[])
  | none=>V
 else match ws with
  | []=>V
  | w::ws=>
   if x=115 then match j6 w slots with
    | some s=>mC slots r ws { i with s:=i.s++[s] }
    | none=>V
   else if x=99 then match DG w with
    | some t=>mC slots r ws { i with const:=O t }
    | none=>V
   else if x=110 then match px w with
    | some t=>mC slots r ws { i with name:=t }
    | none=>V
   else match j6 w 10000 with
    | some s=>mC slots r ws { i with s:=i.s++[s] }
    | none=>none:=rfl
theorem P.arw(slots:Nat)(w:Bs)(ws:List Bs):uV slots (w::ws)=match mB w with
 | none=>V
 | some sh=>match mC slots sh ws ⟨w,[],V,[]⟩with
  | some (i,[])=>if ((w=[109,97,107,101]\/w=[115,112,108,105,116])/\i.s.length<2)\/(w=ni/\jG i.name≠i.s.length) then V else O i
  | _=>none:=rfl
