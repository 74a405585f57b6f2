/- A part of one proof (KG18, VP1, VP2, VP3, ShX4d, ShX4b, VP4, VP5). -/
import Derived.Test.YtoegidfbnkaabaaGreatDoorPkKBC
import Derived.Lib.AtoiAllCases
import Derived.Lib.ParseIntBTie
import Derived.Shelf.Strings.SlTrimAscii
set_option linter.all false
set_option maxRecDepth 100000
set_option maxHeartbeats 8000000
open Option renaming some → O, none → V
open Go renaming Value → Y, World → Z
open Bool renaming true → A, false → ae
open Go.Obj renaming cells → ah
open Go.Ending renaming returned → ai
open Go.Value renaming nilIface → aj, iface → ak, tuple → aq, pointer → au
open Go.Calls renaming mono → a0C
open List renaming mem_cons → a0N, mem_cons_self → a0O
open Option renaming map_eq_some_iff → a02
open Go.Builtin renaming append_ → a07
open Go.Lib renaming atoiAll → a2i, trimS → a2V, atoiAll_bounds → a3O
open Go.Proofs.Tryz renaming prog → baJ
namespace Go.Proofs.YtoegidfbnkaabaaGreatDoor
open P
open Go.RowKit Sx
variable{X:Y->Z->Prop}{b base c m mb n pb xb:Nat}{s:Bs}{v:Y}{tS:Nat->Nat}{w w' w0:Z}{xs:List Y}
def Tryz.aRm:(Tryz.prog.info? 211).map (fun i=>(i.zero,i.size,i.bytes))=O (O (au V),1,8):=zk
def Tryz.aRn:(Tryz.prog.info? 185).map (fun i=>(i.zero,i.size,i.bytes))=O (O (au V),1,8):=zk
def aRo(c:w.ownsRow base 211 1 v n xs){q:Nat}
  (d:w.heap[b]?=aP #[pp q] 211)
  (p:n<=100000000) (f:base<=w.heap.size) {K:Y->Z->Prop}
  (h:∀ v' w',w'.ownsRow base 211 1 v' (n+1) (xs++[pp q])->w.grownBy w' v.ownBlock->(v'.ownBlock=v.ownBlock\/∀ k,v'.ownBlock=O k->w.heap.size<=k)->K v' w') :
  WR baJ (a07 #[209,209] 209 #[v,cU b 1 m]) w K X:=by
 obtain⟨i,g,a⟩:=a02.1 Tryz.aRm;simp only[Prod.mk.injEq] at a;obtain⟨j,l,o⟩:=a;refine Sx.Dr (m:=1) (t:=209) (e:=211) zk g j l o J zo c d J (fun u hu=>?_) zo zo f h;simp only[a0N,List.not_mem_nil,or_false] at hu;subst hu;rfl
def ar0(c:w.ownsRow base 185 1 v n xs){q:Nat}
  (d:w.heap[b]?=aP #[pp q] 185)
  (p:n<=100000000) (f:base<=w.heap.size) {K:Y->Z->Prop}
  (h:∀ v' w',w'.ownsRow base 185 1 v' (n+1) (xs++[pp q])->w.grownBy w' v.ownBlock->(v'.ownBlock=v.ownBlock\/∀ k,v'.ownBlock=O k->w.heap.size<=k)->K v' w') :
  WR baJ (a07 #[192,192] 192 #[v,cU b 1 m]) w K X:=by
 obtain⟨i,g,a⟩:=a02.1 Tryz.aRn;simp only[Prod.mk.injEq] at a;obtain⟨j,l,o⟩:=a;refine Sx.Dr (m:=1) (t:=192) (e:=185) zk g j l o J zo c d J (fun u hu=>?_) zo zo f h;simp only[a0N,List.not_mem_nil,or_false] at hu;subst hu;rfl
theorem aRp{α:Type}(f:α->α)(l:List α)(a:α):(l++[a]).modify l.length f=l++[f a]:=by
 have:=Xp f l [a] 0;grind
def BG.aRq{rY:Nat->Y}{l:List Pd}(h:BG pb w v tS rY l)(hk:∀ (b T:Nat) (cs:Array Y),w.heap[b]?=aP cs T->w'.heap[b]?=aP cs T):BG pb w' v tS rY l:=
 ⟨FP h.row yH,h.lo,(by grind [cell]),fun i p a=>let ⟨fX,c,d⟩:=h.cl i p a;⟨fX,(by grind [FP]),(by grind [rW.ahs])⟩,h.ne,h.nc⟩
def aRr{w:Z}{bv:Y}{Ze:List Y}{cs:List P.Cl}{qb nv:Nat}{nm:Bs}{av xv UX:Y}{x:Bd}(hv:fO (fun _=>True) w 79 bv Ze)(hc:kr (fun _=>True) w Ze cs)(dj:∀ c∈cs,P.qE c)(hn:cs.length<=40)
  (hq:w.heap[qb]?=aP #[aW nm,av,xv,UX] 86) (wX:∃ a c,UX = .slice a nv c) (gD:lE (fun _=>True) w av []) (rD:dM (fun _=>True) w xv x) (eW:eY nv 2900 x) (Lx:iZ x<=5800) (nB:nv<=12) (hP:lP w) :
  Calls baJ 41 #[bv,pp qb] w fun e w'=>Ext w w'/\match Ay cs x nv with
   | none=>e = ai (aq #[.string (bs []),.bool ae])
   | some t=>e = ai (aq #[.string (bs t),.bool A]):=by
 suffices H:∀ R:Ending->Z->Prop,(∀ e w',(Ext w w'/\match Ay cs x nv with
   | none=>e = ai (aq #[.string (bs []),.bool ae])
   | some t=>e = ai (aq #[.string (bs t),.bool A]))->R e w')->Calls baJ 41 #[bv,au (O ⟨qb,0,V⟩)] w R from H _ yF
 intro R hR;have fx:=hc.len;obtain⟨ba,bc,rfl⟩:=hv.sl;refine aRg ?_;refine cM @VQ ?_;obtain⟨w0,yj⟩:=ck (((w.alloc (ah #[aW []] 9 (0,0))).alloc (ah #[.bool ae] 4)).alloc (.map #[] 0));rw[size_alloc,size_alloc,<- yj];have oM:Ext w w0:=yF;have b0:w0.heap[w.heap.size]?=aP #[aW []] 9:=yH;have b1:w0.heap[w.heap.size+1]?=aP #[.bool ae] 4:=yH;have b2:w0.heap[w.heap.size+1+1]?=O (eP (rX 0 [])):=by rw[yj];exact tz (yH)
 clear yj;obtain⟨G,ar1⟩:=ck w.heap.size;obtain⟨I,PW⟩:=ck (w.heap.size+1);obtain⟨mb,La⟩:=ck (w.heap.size+1+1);rw[<- La,<- PW,<- ar1];rw[<- ar1] at b0;rw[<- PW] at b1;rw[<- La] at b2;obtain⟨B,hB⟩:=ck (w.heap.size+3);have ar2:∀ w',Ext w w'->w'.heap[G]?=aP #[aW []] 9->w'.heap[I]?=aP #[.bool ae] 4->Ay cs x nv=V ->
   LV baJ (fun wz=>RD baJ (Instr.loadAt 9 (pp G)) wz (fun r=>RD baJ (Instr.loadAt 4 (pp I)) wz (fun r_1=>R (ai (aq #[r,r_1])) wz) NX) NX) R [{ target:=.fn (.func 79) #[pp G,pp I],args:=#[]++#[] }] (.panicking [{ v:=ak 27 (zi 4),recovered:=false }]) w':=by
  intro w' hE' h4 h5 LC;have l4:=bn h4;have l5:=bn h5;refine aRl h4 h5 zo ?_;obtain⟨w2,j3⟩:=ck (bT (bT w' G (ah #[aW []] 9 (0,0))) I (ah #[.bool ae] 4));have g1:w2.heap[G]?=aP #[aW []] 9:=yH;have g2:w2.heap[I]?=aP #[.bool ae] 4:=yH;have dT:Ext w w2:=yF;rw[<- j3];refine dB @g1 @g2 ?_;grind
 refine⟨fun m z w'=>∃ j f qM rY v,z 17=zi ((j:Nat):Int)/\z 6=v/\j<=cs.length/\m=cs.length-j/\Ext w w'/\w'.heap[G]?=aP #[aW []] 9/\w'.heap[I]?=aP #[.bool ae] 4/\w'.heap[mb]?=O (eP (rX 0 f)) /\
   BG B w' v qM rY f/\xX cs []=xX (cs.drop j) f/\(∀ p∈f,p.arity<=4)/\f.length<=j/\(∀ p∈f,p.clauses.length<=j),
  ⟨_,0,[],fun _=>0,fun _=>b9,b9,J,J,Nat.zero_le _,J,oM,b0,b1,b2,⟨⟨J,yH⟩,zg,yH,zg,zg,zg⟩,J,zg,Nat.le_refl _,zg⟩,?_⟩
 intro m z d w3 hI;refine toPr ?_;obtain⟨j,f,qM,rY,v,N,h6,hj,rfl,eK,g0,g1,g2,hG,heq,kU,uA,aRt⟩:=hI;have lmb:=bn g2;obtain⟨ra,rc,rfl⟩:=ij hG.row;by_cases fD:j<cs.length
 .obtain⟨u,uN,Fx⟩:=kr.CN j fD hc;obtain⟨cb,cav,cbv,X4,TP,rfl,-,gX,mX,ar3⟩:=Fx;obtain⟨gg,gcs,e3,e4,e5,e6⟩:=hv.at' (j:=j) zo;simp only[Value.slice.injEq,true_and] at e3;obtain⟨rfl,rfl⟩:=e3;rw[uN] at e6;obtain⟨c,Fz⟩:=ck (cs[j]);rw[<- Fz] at gX mX ar3;have M:P.qE c:=zg;have j8:((j:Nat):Int).toNat=j:=zo;have fE:((j:Nat):Int)<(Ze.length:Int):=zo;have e53:=eK.ext _ _ e5;have KM:=eK.ext _ _ gX;have dE:Ext w3 w3.drew:=yF;obtain⟨dk,YC,aRv⟩:=id mX;have ar4:=aRv.Ft;obtain⟨aa,ac,rfl⟩:=YC.sl;have xf:=M.cl.qC;have xQ:=M.name;refine dL N fE @e53 (zA @e6 (zA @j8 KM)) ?_;rw[ar4];refine a0C (afZ c.name c.args.length zo zo w3.drew) ?_;rintro e w4 ⟨rfl,rfl⟩;refine bF ?_;have Zg:=dE.ext _ _ g2;obtain⟨kv,Zh,xg,aRw⟩:∃ (kv:Nat) (Zh:Bool),(∀ {K:Y->Prop} {X:Y->Z->Prop},K (aq #[zi (kv:Int),.bool Zh])->RD baJ (Instr.lookup 210 (.map (O mb)) (aW (P.keyOf c.name c.args.length)) A) w3.drew K X) /\
    ((Zh=ae/\fP (P.keyOf c.name c.args.length) (rX 0 f) 0=V/\∀ x,rI c.name c.args.length x f=f++[⟨c.name,c.args.length,[x]⟩])\/(Zh=A/\kv<f.length/\∀ x,rI c.name c.args.length x f=f.modify kv fun p=>{ p with clauses:=p.clauses++[x] })):=by
   cases hf:fP (P.keyOf c.name c.args.length) (rX 0 f) 0 with
   | none=>
    refine⟨0,ae,fun hK=>?_,.inl ⟨J,J,fun x=>?_⟩⟩
    .rw[K7 (k:=9) (e:=3) (z:=zi 0) zk zk zk Zg _ A,hf];grind
    .have:=Zd (name:=c.name) (n:=c.args.length) zo x f 0 0 zg;grind
   | some qv=>
    obtain⟨q,v⟩:=qv;have h0:=Zd (name:=c.name) (n:=c.args.length) zo default f 0 0 zg;rw[hf] at h0;obtain⟨k,e1,e2,Ys,-⟩:=h0;rw[Nat.zero_add] at e1 e2;subst e1 e2;refine⟨q,A,fun hK=>?_,.inr ⟨J,Ys,fun x=>?_⟩⟩
    .rw[K7 (k:=9) (e:=3) (z:=zi 0) zk zk zk Zg _ A,hf];grind
    .have:=Zd (name:=c.name) (n:=c.args.length) zo x f 0 0 zg;grind
  refine xg ?_;refine bF ?_;refine⟨fun s E=>∃ l' L Q v' k,s 6=v'/\s 11=zi ((k:Nat):Int)/\Ext w E/\E.heap[G]?=aP #[aW []] 9/\E.heap[I]?=aP #[.bool ae] 4/\E.heap[mb]?=O (eP (rX 0 l')) /\
    BG B E v' L Q l'/\k<l'.length/\(∀ x,rI c.name c.args.length x f=l'.modify k fun p=>{ p with clauses:=p.clauses++[x] })/\(∀ p∈l',p.arity<=4)/\l'.length<=j+1/\(∀ p∈l',p.clauses.length<=j),?_,?_⟩
  .rcases aRw with⟨rfl,hf,S⟩| ⟨rfl,zc,S⟩
   .refine cM h6 ?_;rw[yh (k:=9) (e:=3) zk zk Zg _ hf];obtain⟨C,Zi⟩:=ck (bT w3.drew mb (eP (rX 0 f++[(P.keyOf c.name c.args.length,Value.int .i64 (f.length:Int))])));rw[<- Zi];have hkM:∀ (b T:Nat) (cs:Array Y),w3.heap[b]?=aP cs T->C.heap[b]?=aP cs T:=fun b T cs hx=>by
     rw[Zi,jh (fun e=>by rw[e,g2] at hx;cases hx)];exact yH
    have hEM:Ext w C:=yF;have gM:C.heap[mb]?=O (eP (rX 0 (f++[⟨c.name,c.args.length,[]⟩]))):=by
     rw[Zi,arX,Nat.zero_add];exact yH
    have sM:C.heap.size=w3.heap.size:=yH;clear Zi;have ar6:=hkM _ _ _ KM;have hGM:=hG.aRq hkM;have hdM:Ext C C.drew:=yF;refine⟨fun w'=>Ext C w',hdM,?_⟩;rw[jF];refine cR (pp cb) (fun w' h=>eS) ?_;refine cR (aW c.name) (fun w' h=>by have g:=h.ext _ _ ar6;have:=bn g;exact fj g) ?_;refine cM ar6 ?_;rw[ar4];obtain⟨U,Pl⟩:=ck (C.drew.alloc (ah #[aW c.name,zi (c.args.length:Int),b9] 213));rw[<- Pl];have Ko:Ext C U:=yF;have gB:U.heap[C.heap.size]?=aP #[aW c.name,zi (c.args.length:Int),b9] 213:=yH;have sB:U.heap.size=C.heap.size+1:=yH;clear Pl;obtain⟨wC,hwC⟩:=ck (U.alloc (ah #[pp C.heap.size] 211));have W:Ext U wC:=yF;have gC:wC.heap[U.heap.size]?=aP #[pp C.heap.size] 211:=yH;have sC:wC.heap.size=U.heap.size+1:=yH;refine⟨Ko,?_⟩;rw[<- hwC];refine⟨yF,?_⟩;have U7:=hGM.ext (Ko.trans W);have Zj:Ext w wC:=yF;rw[h6];rw[sB] at gC;refine aRo (base:=B) U7.row gC zo zo fun v' w5 ho l DR=>?_;have Lh:=l.size;have rq:Ext w w5:=⟨l.os.trans Zj.os,l.tape.trans Zj.tape,l.output.trans Zj.output,zo,fun b o hb _=>by
     have F:=Zj.ext _ _ hb;rw[l.block b (bn F) (fun e=>?_)]
     .omega
     .have:=(Ev U7.row e.symm).1;grind⟩
    have qX:∀ {b T:Nat} {cs:Array Y},T≠211->wC.heap[b]?=aP cs T->w5.heap[b]?=aP cs T:=fun hT hx=>FQ U7.row l hT hx;have I1:w5.heap[mb]?=O (eP (rX 0 (f++[⟨c.name,c.args.length,[]⟩]))):=by
     have F:=(Ko.trans W).ext _ _ gM;rw[l.block mb (bn F) (fun e=>?_)]
     .omega
     .obtain⟨-,-,cs',g⟩:=Ev U7.row e.symm;rw[F] at g;cases g
    have hGN:=U7.new (nb:=C.heap.size) (n:=c.args.length) (name:=c.name) yH zo (fun i hi=>by
     have:=bn (hGM.cell i f[i] zg);omega) ho l
    refine⟨f++[⟨c.name,c.args.length,[]⟩],_,_,v',f.length,J,J,rq,?_,?_,I1,hGN,zs,fun x=>?_,fun p hp=>?_,zg,fun p hp=>?_⟩
    .exact qX zo ((Ko.trans W).ext _ _ yH)
    .exact qX zo (by grind [bD.ext,bD.trans])
    .grind [aRp]
    .grind
    grind
   .refine cM h6 ?_;exact⟨f,qM,rY,_,kv,zg,zg,yF,yH,yH,Zg,hG.ext dE,zc,S,kU,zo,aRt⟩
  .rintro s E ⟨l',L,Q,v',k,s6,s11,j4,q0,q1,q2,qf,zc,S,aZm,aZn,aZo⟩ dd;obtain⟨p,Hi⟩:=ck (l'[k]);have U6:l'[k]?=O p:=zg;obtain⟨fX,jg,jP⟩:=qf.cl k p U6;have nH:=qf.cell k p U6;have zw:Ext E E.drew:=yF;obtain⟨pg,pgc,pgu,lH,aZq,aZr⟩:=Tl qf.row (t:=k) zc;subst lH;have asa:pgu[k]?=O (pp (L k)):=zg;have pw:((k:Nat):Int).toNat=k:=zo;have vX:((k:Nat):Int)<(l'.length:Int):=zo;obtain⟨cla,clc,Q6⟩:=ij jg;obtain⟨Cl,asb⟩:=ck (Q k);rw[<- asb] at nH jg Q6;have aRC:=nH;rw[Q6] at aRC;rw[s6,s11];refine⟨fun w'=>w'.heap[pg]?=aP pgu 211/\w'.heap[L k]?=aP #[aW p.name,zi (p.arity:Int),Cl] 213,yH,?_⟩;refine cR (pq pg k) (fun w' h=>by have g:=h.1;have:=bn g;exact JM g vX @pw) ?_;refine cR (pp (L k)) (fun w' h=>by have g:=h.1;have:=bn g;exact lW g asa) ?_;refine cR (pq pg k) (fun w' h=>by have g:=h.1;have:=bn g;exact JM g vX @pw) ?_;refine cR (pp (L k)) (fun w' h=>by have g:=h.1;have:=bn g;exact lW g asa) ?_;rw[jF];refine cR (pq (L k) 2) (fun w' h=>eS) ?_;refine cR Cl (fun w' h=>by have g:=h.2;have:=bn g;rw[Q6] at g ⊢;exact fj g) ?_;have asc:=j4.trans zw;have aRD:lE (fun _=>True) E.drew (.slice aa dk.length ac) c.args:=lE.mono zg (by grind [bD.ext]) mX;have aRE:dM (fun _=>True) E.drew cbv c.body:=dM.mono zg (by grind [bD.ext]) _ _ ar3;refine a0C (arw ae (asc.ext _ _ gX) ⟨_,_,J⟩ aRD aRE M.cl.args M.cl.qC M.cl.sz M.cl.body M.bsz M.vs.1) ?_;rintro e w7 ⟨Q5,D⟩;have asd:xX cs []=match Bo c.args c.body c.vars.length ae with
     | none=>V
     | some x=>xX (cs.drop (j+1)) (rI c.name c.args.length x f):=by
    rw[heq,List.drop_eq_getElem_cons fD,<- Fz];rfl
   have Gx:=asc.trans Q5;have U8:=zw.trans Q5;cases Om:Bo c.args c.body c.vars.length ae with
   | none=>
    rw[Om] at D asd;have D:e=gW (.fault 4):=D;subst D;exact fun fq=>ar2 w7 Gx (U8.ext _ _ q0) (U8.ext _ _ q1) (by grind [Ay])
   | some co=>
    rw[Om] at D asd;obtain⟨cm,he,Dg,tR⟩:=D;subst he;have FO:=qf.ext U8;have aRG:=jQ U8.ext jg;refine⟨(by grind [bD.ext]),?_⟩;rw[Q6];refine bF ?_;obtain⟨w8,LA⟩:=ck (w7.alloc (ah #[pp cm] 185));have vT:Ext w7 w8:=yF;have g8:w8.heap[w7.heap.size]?=aP #[pp cm] 185:=yH;rw[<- LA];have Zk:=U8.trans vT;have ti:=Gx.trans vT;have Of:=FO.ext vT;have U9:=jQ vT.ext aRG;have sz8:=ti.size;refine⟨(by grind [bD.ext]),?_⟩;rw[<- Q6];have jT:p.clauses.length<=j:=zg;have yJ:=bn q2;have aZt:=Zk.size;refine ar0 (base:=B) U9 g8 zo zo fun v9 w9 ho l FN=>?_;have Lh:=l.size;have Jh:∀ {b T:Nat} {cs:Array Y},T≠185->w8.heap[b]?=aP cs T->w9.heap[b]?=aP cs T:=(by grind [FQ]);have Zl:=Jh zd (Zk.ext _ _ nH);refine⟨(by grind [bD.ext]),?_⟩;have lc9:=bn Zl;obtain⟨va9,vc9,ase⟩:=ij ho;rw[Q6] at Zl;have aRH:=Zl;rw[ase];refine dB Zl N ?_;rw[<- ase];obtain⟨wF,FA⟩:=ck (bT w9 (L k) (ah #[aW p.name,zi (p.arity:Int),v9] 213));rw[<- FA];rw[asb] at U9 l FN;have hGF:=Of.push U6 U9 (by grind [rW.ext]) (tR.ext vT) ho l FN;rw[<- FA] at hGF;have hEF:Ext w wF:=by
     have ml:Ext w w9:=⟨l.os.trans ti.os,l.tape.trans ti.tape,l.output.trans ti.output,zo,fun b o hb _=>by
      have F:=ti.ext _ _ hb;rw[l.block b (bn F) (fun e=>?_)]
      .omega
      .have:=(Ev U9 e.symm).1;grind⟩
     rw[FA];exact ml.bT (.inr (by have:=qf.lo k zc;omega))
    have aZx:∀ {b T:Nat} {cs:Array Y},T≠185->T≠213->E.heap[b]?=aP cs T->wF.heap[b]?=aP cs T:=fun{b T cs} h1 h2 hx=>by
     have xk:=Jh h1 (Zk.ext _ _ hx);exact yH
    have hmF:wF.heap[mb]?=O (eP (rX 0 (l'.modify k fun p=>{ p with clauses:=p.clauses++[co] }))):=by
     rw[arY];have F:=Zk.ext _ _ q2;have fm:w9.heap[mb]?=O (eP (rX 0 l')):=by
      rw[l.block mb (bn F) (fun e=>?_)]
      .exact F
      .obtain⟨-,-,cs',g⟩:=Ev U9 e.symm;rw[F] at g;cases g
     rw[FA,jh]
     .omega
     .rintro rfl;rw[aRH] at fm;cases fm
    refine⟨_,?_,j+1,l'.modify k fun p=>{ p with clauses:=p.clauses++[co] },L,_,_,zg,zg,zo,J,hEF,yH,yH,hmF,hGF,?_,fun y hy=>?_,zg,fun y hy=>?_⟩
    .omega
    .grind
    .rcases Xs hy with hy | ⟨y0,IS,rfl⟩<;>grind
    .rcases Xs hy with hy | ⟨y0,IS,rfl⟩<;>grind
 .have fD:j=cs.length:=zo;subst fD;have fE:¬ (cs.length:Int)<(Ze.length:Int):=zo;rw[List.drop_length,xX] at heq;obtain⟨va,vc,rfl⟩:=wX;have xl:=eK.ext _ _ hq;have dE:Ext w3 w3.drew:=yF;have th:=eK.trans dE;refine dB N fE ?_;refine⟨fun w'=>w'.heap[qb]?=aP #[aW nm,av,xv,.slice va nv vc] 86,yH,?_⟩;rw[jF];refine cR (pq qb 3) (fun w' h=>eS) ?_;refine cR (.slice va nv vc) (fun w' h=>by have:=bn h;exact fj h) ?_;refine cR (zi (nv:Int)) (fun w' h=>eS) ?_;have FI:lE (fun _=>True) w3.drew av []:=lE.mono zg (by grind [bD.ext]) gD;have aRJ:dM (fun _=>True) w3.drew xv x:=dM.mono zg (by grind [bD.ext]) _ _ rD;refine a0C (arw A (th.ext _ _ hq) ⟨_,_,J⟩ FI aRJ fg.nil zs (by simp [fL]) eW Lx nB) ?_;rintro e w7 ⟨Q5,D⟩;have Q7:=dE.trans Q5;have Gx:=eK.trans Q7;cases Om:Bo [] x nv A with
  | none=>
   rw[Om] at D;have D:e=gW (.fault 4):=D;subst D;exact fun fq=>ar2 w7 Gx (Q7.ext _ _ g0) (Q7.ext _ _ g1) (by grind [Ay])
  | some ask=>
   rw[Om] at D;obtain⟨cm,he,Dg,tR⟩:=D;subst he;refine⟨Q7.ext _ _ xl,?_⟩;have oP:Ay cs x nv=O (y8 f ask nv):=by grind [Ay]
   obtain⟨p1,p2,p3,p4⟩:=anG dj hn heq;have TV:=Xo Om fg.nil (by simp [fL]) eW Lx nB;have Bt:=anA Om fg.nil eW;have hlen:=aIO p1 TV (show nv<=1000 by omega);have FO:=hG.ext Q7;have aRK:fO (fun _=>True) w7 211 (.slice ra f.length rc) ((List.range f.length).map fun i=>Value.pointer (O ⟨qM i,0,V⟩)):=EO FO.row zg;rw[h6];refine a0C (aQ7 aRK zs (fun i p hi=>?_) tR p2 ⟨TV,Bt⟩ zg zg zo zo (hP.ext Gx) zo) ?_
   .have lX:i<f.length:=by
     grind
    refine⟨qM i,zg,?_⟩;obtain⟨fX,e1,e2⟩:=FO.cl i p hi;exact⟨rY i,fX,FO.cell i p hi,(by grind [EO]),by have:=e1.1;omega,e2⟩
   rintro e w8 ⟨rfl,vT⟩;have ahz:=Q7.trans vT;have ti:=eK.trans ahz;have g08:=ahz.ext _ _ g0;have g18:=ahz.ext _ _ g1;have l08:=bn g08;have l18:=bn g18;refine dB @g08 @g18 ?_;obtain⟨wF,FA⟩:=ck (bT (bT w8 G (ah #[aW (y8 f ask nv)] 9)) I (ah #[.bool A] 4));have f1:wF.heap[G]?=aP #[aW (y8 f ask nv)] 9:=yH;have f2:wF.heap[I]?=aP #[.bool A] 4:=yH;have hEF:Ext w wF:=yF;rw[<- FA];refine aRk ?_;refine dB @f1 @f2 ?_;grind
def BI(w:Z):Prop:=∃ t1 p1 t2 p2,w.cell? ⟨6,0,V⟩=O (ak t1 p1)/\w.cell? ⟨7,0,V⟩=O (ak t2 p2)
theorem BI.ext{w w':Z}(h:BI w)(a:Ext w w'):BI w':=by
 obtain⟨t1,p1,t2,p2,b,c⟩:=h;exact⟨t1,p1,t2,p2,(by grind [Mo,bD.ext]),(by grind [Mo,bD.ext])⟩
def ash:∀ (l:Bs) (acc n:Nat),(∀ c∈l,P.digit c=A)->(l.foldl (fun v c=>10*v+((c.toNat:Int)-48)) (acc:Int))=(n:Int)->n<9223372036854775809->Go.Lib.parseUint10 acc l = .ok n
 | [],acc,n,_,h,_=>by
  have h:(acc:Int)=(n:Int):=h;have:acc=n:=zo;subst this;rfl
 | c::r,acc,n,b,h,d=>by
  have g:=b c a0O;have i:48<=c.toNat/\c.toNat<=57:=by grind [P.digit]
  have f:(10*(acc:Int)+((c.toNat:Int)-48))=((acc*10+(c.toNat-48):Nat):Int):=zo;rw[List.foldl_cons,f] at h;have j:acc*10+(c.toNat-48)<=n:=by
   have key:∀ (l:Bs) (a:Nat),(∀ c∈l,P.digit c=A)->(a:Int)<=l.foldl (fun v c=>10*v+((c.toNat:Int)-48)) (a:Int):=by
    intro l;induction l with
    | nil=>grind
    | cons x l ih=>
     intro a b;have hx:48<=x.toNat/\x.toNat<=57:=by grind [P.digit,a0O]
     have e:(10*(a:Int)+((x.toNat:Int)-48))=((a*10+(x.toNat-48):Nat):Int):=zo;rw[List.foldl_cons,e];have:=ih (a*10+(x.toNat-48)) zg;omega
   have:=key r (acc*10+(c.toNat-48)) zg;omega
  have ih:=ash r (acc*10+(c.toNat-48)) n zg h d;rw[Go.Lib.parseUint10];grind
def asi(a:n<9223372036854775809):Go.Lib.parseMag (gw n) = .ok n:=by
 unfold Go.Lib.parseMag;rw[bO (by grind [anH])];exact ash _ 0 n (PH _ _) (Xv n) a
theorem asj{z:Int}(h:-9223372036854775808<=z/\z<=9223372036854775807):a2i (kX z) = .ok z:=by
 unfold kX;split
 .rename_i b;rw[Go.Lib.atoiAll_minus,asi zo];unfold Go.Lib.signed;grind
 .rename_i b;obtain⟨c,r,a,-⟩:=adP (z.natAbs+1) z.natAbs zo;have d:=PH (z.natAbs+1) z.natAbs c (by rw[a];exact a0O);have e:48<=c.toNat/\c.toNat<=57:=by grind [P.digit]
  have hm:=asi (n:=z.natAbs) zo;unfold gw at hm ⊢;rw[a] at hm ⊢;rw[Go.Lib.atoiAll_plain c r zo zo,hm];unfold Go.Lib.signless;grind
def Va(h:Below w.heap.size w w'):Ext w w':=⟨h.os,h.tape,h.output,h.size,(by grind [bn,Below.block])⟩
def aRL(s:Bs)(w:Z)(h:s.length<=1000000)(d:BI w):Calls baJ 100 #[aW s] w fun e w'=>Ext w w'/\∃ v b,e = ai (aq #[zi v,b])/\(-9223372036854775808<=v/\v<=9223372036854775807) /\
  ((b = aj/\a2i s = .ok v)\/((∃ t p,b = ak t p)/\∀ z,a2i s≠.ok z)):=by
 obtain⟨t1,p1,t2,p2,f,g⟩:=d;have i:(bs s).size<=1000000:=by show s.toArray.size<=_;omega
 cases a:a2i s with
 | ok v=>
  refine(Tryz.strconv_Atoi_ok (bs s) zo v a w).mono ?_;rintro e w' ⟨rfl,hw⟩;refine⟨?_,v,_,J,a3O a,zg⟩;rcases hw with rfl | ⟨t,rfl⟩
  .exact yF
  grind [abT]
 | range=>
  refine(Tryz.strconv_Atoi_range (bs s) zo a _ w g zg).mono ?_;rintro e w' ⟨N,rfl,-,-,c⟩;refine⟨Va c,_,_,J,?_,zg⟩;grind [Go.Lib.atoiSat]
 | _=>
  refine(Tryz.strconv_Atoi_syntax (bs s) zo a _ w f zg).mono ?_;rintro e w' ⟨N,rfl,-,-,c⟩;exact⟨Va c,0,_,J,zo,zg⟩
def aRM(s:Bs)(w:Z)(h:s.length<=1000000)(d:BI w):Calls baJ 135 #[aW s,zi 10,zi 64] w fun e w'=>Ext w w'/\∃ v b,e = ai (aq #[zi v,b])/\(-9223372036854775808<=v/\v<=9223372036854775807) /\
  ((b = aj/\a2i s = .ok v)\/((∃ t p,b = ak t p)/\∀ z,a2i s≠.ok z)):=by
 obtain⟨t1,p1,t2,p2,f,g⟩:=d;have i:(bs s).size<=1000000:=by show s.toArray.size<=_;omega
 have he:=Go.Lib.parseIntB_64 s;cases a:a2i s with
 | ok v=>
  rw[a] at he;refine(Tryz.strconv_ParseInt_10_at64_ok (bs s) zo v he w).mono ?_;rintro e w' ⟨rfl,hw⟩;refine⟨?_,v,_,J,a3O a,zg⟩;rcases hw with rfl | ⟨t,rfl⟩
  .exact yF
  grind [abT]
 | range=>
  rw[a] at he;refine(Tryz.strconv_ParseInt_10_at64_range (bs s) zo he _ w g zg).mono ?_;rintro e w' ⟨N,rfl,-,-,c⟩;refine⟨Va c,_,_,J,?_,zg⟩;grind [Go.Lib.intSat_64,Go.Lib.atoiSat,Lib.intSat_64]
 | _=>
  rw[a] at he;refine(Tryz.strconv_ParseInt_10_at64_syntax (bs s) zo he _ w f zg).mono ?_;rintro e w' ⟨N,rfl,-,-,c⟩;exact⟨Va c,0,_,J,zo,zg⟩
def asl{v:Int}(h:a2i s = .ok v):DX s=if kX v=s then O v else none:=by
 by_cases he:kX v=s
 .rw[zip he,<- he,aIX (a3O h)]
 .rw[bO he];cases a:DX s with
  | none=>rfl
  | some z=>
   obtain⟨b,c⟩:=Xl a;grind [asj,absurd]
theorem asm(h:∀ z,a2i s≠.ok z):DX s=none:=by
 cases a:DX s with
 | none=>rfl
 | some z=>
  obtain⟨b,c⟩:=Xl a;grind [asj,absurd]
def Vb(k:Int)(w:Z):Calls baJ 70 #[zi k] w fun e w'=>Ext w w'/\np 5 k w w' e:=by
 refine aOB ?_;refine bF ?_;exact⟨yF,w.heap.size,J,yH,Nat.le_refl _⟩
theorem np.ext{c a:Int}{e:Ending}(h:np c a w w' e)(d:Ext w0 w):np c a w0 w' e:=by
 obtain⟨b,f,g,i⟩:=h;exact⟨b,f,g,Nat.le_trans d.size i⟩
def On(s:Bs)(n:Nat)(k:Int)(w:Z)(q:s.length<=1000000)(F:n<=100000)(r:BI w)(u:lP w):Calls baJ 73 #[.string (bs s),zi (n:Int),zi k] w fun e w'=>Ext w w'/\match km s n with
  | some v=>e = ai (.int .i64 (v:Int))
  | none=>np 5 k w w' e:=by
 suffices H:∀ R:Ending->Z->Prop,(∀ e w',(Ext w w'/\match km s n with
  | some v=>e = ai (.int .i64 (v:Int))
  | none=>np 5 k w w' e)->R e w')->Calls baJ 73 #[.string (bs s),.int .i64 (n:Int),.int .i64 k] w R from H _ yF
 intro R x;refine aOC ?_;refine(aRL s w q r).mono ?_;rintro e w1 ⟨d,v,G,rfl,i,y⟩;have j:∀ w2,Ext w w2->km s n=V->∀ K:Y->Z->Prop,Calls baJ 70 #[zi k] w2 (ends K (PC R)):=fun w2 a hu K=>by
  refine(Vb k w2).mono ?_;rintro e w3 ⟨I,B⟩;have C:=B;obtain⟨b,rfl,L,M⟩:=C;exact x _ _ (by grind [bD.trans,np.ext])
 rcases y with⟨rfl,l⟩| ⟨⟨t,p,rfl⟩,l⟩
 .refine bF ?_;refine⟨fun _ w'=>Ext w w'/\km s n=O v.toNat/\0<=v,?_,?_⟩
  .refine⟨fun z w'=>Ext w w'/\∃ b,z 30 = .bool b/\(b=A->km s n=V)/\(b=ae->km s n=O v.toNat/\0<=v),?_,?_⟩
   .refine bF ?_;refine a0C (KE v i.1 i.2 w1 (u.ext d)) ?_;rintro e w2 ⟨rfl,a⟩;have m:=asl l;have N:=d.trans a;by_cases c:kX v=s
    .rw[zip c] at m;have hu:km s n=if 0<=v/\v<n then O v.toNat else none:=by grind [km]
     rw[c];by_cases f:v<0
     .refine cM f ?_;exact yF
     .by_cases o:v ≥ (n:Int)
      .refine dB f o ?_;exact yF
      .refine dB f o ?_;exact yF
    .rw[bO c] at m;have hu:km s n=none:=by grind [km]
     have g:¬ bs (kX v)=bs s:=zg;refine dB c g ?_;exact yF
   .rintro z w2 ⟨a,b,h,D,P⟩ E;rw[h];cases b with
    | true=>
     refine bF ?_;exact j w2 a (D J) _
    | false=>
     refine bF ?_;exact yF
  exact yF
 .have hu:km s n=none:=by grind [km,asm]
  refine bF ?_;refine⟨fun _ _=>False,?_,zg⟩;refine⟨fun z w'=>z 30 = .bool A/\w'=w1,?_,?_⟩
  .exact eS
  .rintro z w2 ⟨h,rfl⟩ E;rw[h];refine bF ?_;exact j w2 d hu _
abbrev AK:Bs:=[33,34,35,36,37,38,39,40,41,42,43,44,45,46,47,48,49,50,51,52,53,54,55,56,57,58,59,60,61,62,63,64,65,66,67,68,69,70,71,72,73,74,75,76,77,78,79,80,81,82,83,84,85,86,87,88,89,90,91,92,93,94,95,96,97,98,99,100,101,102,103,104,105,106,107,108,109,110,111,112,113,114,115,116,117,118,119,120,121,122,123,124,125,126]
theorem Zm(x:UInt8):AK.contains x=decide (33<=x/\x<=126):=by
 have h:∀ n:Fin 256,AK.contains (UInt8.ofNat n.val)=decide (33<=UInt8.ofNat n.val/\UInt8.ofNat n.val<=126):=by decide +kernel
 have:=h ⟨x.toNat,x.toNat_lt⟩;simpa using this
theorem ahA{α:Type}{p:α->Bool}{c:α}:∀ {l:List α},c∈l->p c=ae->c∈l.dropWhile p
 | x::l,h,a=>by
  rw[List.dropWhile_cons];split
  .rename_i hx;rcases a0N.1 h with rfl | h
   .grind
   .exact ahA h a
  omega
theorem asn{α:Type}{p:α->Bool}:∀ {l:List α},(∀ c∈l,p c=A)->l.dropWhile p=[]
 | [],_=>rfl
 | x::l,h=>by
  rw[List.dropWhile_cons,zip (h x a0O)];exact asn zg
def aRO(l:Bs):a2V l AK=[]↔l.all (fun c=>decide (33<=c/\c<=126))=true:=by
 unfold a2V Go.Lib.trimLeftS Go.Lib.trimRightS;constructor
 .intro h;rw[List.all_eq_true];intro c d;cases a:decide (33<=c/\c<=126) with
  | true=>rfl
  | false=>
   have b:c∈(l.reverse.dropWhile (AK.contains ·)).reverse:=by
    grind [ahA,Zm]
   have e:=ahA (p:=(AK.contains ·)) b (by rw[Zm];exact a);grind
 grind [List.all_eq_true,asn,Zm]
def aRP(s:Bs)(w:Z)(c:s.length<=1000000):Calls baJ 99 #[aW s,aW AK] w fun e w'=>e = ai (aW (a2V s AK))/\Ext w w':=by
 have d:(bs s).size<=1000000:=by show s.toArray.size<=_;omega
 refine(Any.strings_Trim_laid Tryz.lays160 zk (bs s) (bs AK) w zo zd (fun j b a=>?_)).mono ?_
 .have hm:=List.mem_of_getElem? a;have:b∈AK:=zo;have f:AK.contains b=true:=zg;grind [Zm,UInt8.le_iff_toNat_le]
 .rintro e w' ⟨rfl,a⟩;exact⟨zg,Va a⟩
def ahB(s:Bs)(k:Int)(w:Z)(o:s.length<=1000000):Calls baJ 72 #[.string (bs s),zi k] w fun e w'=>Ext w w'/\match pS s with
  | some v=>e = ai (.string (bs v))
  | none=>np 5 k w w' e:=by
 suffices H:∀ R:Ending->Z->Prop,(∀ e w',(Ext w w'/\match pS s with
  | some v=>e = ai (.string (bs v))
  | none=>np 5 k w w' e)->R e w')->Calls baJ 72 #[.string (bs s),.int .i64 k] w R from H _ yF
 intro R p;have q:∀ w2,Ext w w2->pS s=V->∀ K:Y->Z->Prop,Calls baJ 70 #[zi k] w2 (ends K (PC R)):=fun w2 m hu K=>by
  refine(Vb k w2).mono ?_;rintro e w3 ⟨F,t⟩;have u:=t;obtain⟨b,rfl,G,I⟩:=u;exact p _ _ (by grind [bD.trans,np.ext])
 refine aOD ?_;refine⟨fun _ w'=>Ext w w'/\pS s=O s,?_,?_⟩
 .refine bF ?_;refine⟨fun z w'=>Ext w w'/\∃ b,z 36 = .bool b/\(b=A->pS s=V)/\(b=ae->pS s=O s),?_,?_⟩
  .cases s with
   | nil=>
    refine bF ?_;exact⟨yF,A,J,fun _=>rfl,zg⟩
   | cons c r=>
    have x:pS (c::r)=if 10<(c::r).length\/P.digit c=A\/(c::r).all (fun c=>decide (33<=c/\c<=126))=ae\/(c=45/\r≠[]) then V else O (c::r):=rfl
    have g:decide (c::r=[])=false:=zs;by_cases L:10<(c::r).length
    .have a:(((c::r).length:Nat):Int) > 10:=zo;refine dB g a ?_;exact yF
    .have a:¬ (((c::r).length:Nat):Int) > 10:=zo;have y:∀ h:P.digit c=ae,(a2V (c::r) AK≠[]->pS (c::r)=V)/\(a2V (c::r) AK=[]->c=45->1<(c::r).length->pS (c::r)=V)/\(a2V (c::r) AK=[]->(c≠45\/(c::r).length<=1)->pS (c::r)=O (c::r)):=fun h=>by
      have ht:=aRO (c::r);grind
     have d:(c::r).getD 0 0=c:=rfl;by_cases B:P.digit c=A
     .have M:48<=c.toNat/\c.toNat<=57:=by grind [P.digit]
      have f:(48:Int)<=(c.toNat:Int):=zo;have i:(c.toNat:Int)<=57:=zo;refine dL g a d (zA f i) ?_;exact yF
     .have h:P.digit c=false:=zg;obtain⟨N,Q,S⟩:=y h;have C:((48:Int)<=(c.toNat:Int)/\¬ (c.toNat:Int)<=57)\/¬ (48:Int)<=(c.toNat:Int):=by
       grind [P.digit]
      rcases C with⟨f,i⟩| f;all_goals
       first
        | simp (disch:=first|assumption|omega|simp only[zS]<;>omega|decide) only[zB,simprocAttr,lp,g,a,d,f,i]
        | simp (disch:=first|assumption|omega|simp only[zS]<;>omega|decide) only[zB,simprocAttr,lp,g,a,d,f]
       refine a0C (aRP (c::r) w o) ?_;rintro e w2 ⟨rfl,T⟩;by_cases j:a2V (c::r) AK=[]
       .rw[j];by_cases n:c=45
        .have hx:(c.toNat:Int)=45:=by rw[n];rfl
         first
          | (exfalso;omega)
          | (simp (disch:=first|assumption|omega|simp only[zS]<;>omega|decide) only[zB,simprocAttr,lp,d,hx];exact yF)
        .have hx:¬ (c.toNat:Int)=45:=fun e=>n (UInt8.toNat_inj.1 (by show c.toNat=45;omega));refine dB d hx ?_;exact yF
       .have l:decide (a2V (c::r) AK=[])=false:=by simpa using j
        refine dB l j ?_;exact yF
  .rintro z w2 ⟨m,b,D,E,U⟩ W;rw[D];cases b with
   | true=>
    refine bF ?_;exact q w2 m (E J) _
   | false=>
    refine bF ?_;exact yF
 exact yF
open Go.Proofs.YtoegidfbnkaabaaGreatDoor.Sx
section
variable{p0 p1 p2 p3 p4 p5 p6 p7:Y}{w:Z}{R:Ending->Z->Prop}
def aRR:=cz w R [p0,p1] (gc [] [] [4,8]) Tryz.func103
def aRS:=cz w R [p0,p1] (gc [(2,[8])] [] [9,16]) Tryz.func136
end
section
variable{p0 p1 p2 p3 p4 p5 p6 p7:Y}{w:Z}{R:Ending->Z->Prop}
def aRT:=cz w R [p0,p1,p2] (gd [(7,[35]),(11,[46])] [(4001,[]),(16001,[]),(26020,[]),(28000,[159]),(29001,[])] [] [(2,[0,1,2,3,0,4,5,6,7,8,9]),(13,[11,0,1,2,3,4,5,6,7,8,9,10,11,12]),(19,[14,0,1,2,3,4,5,6,7,8,9,10,11,12,13,14,15]),(25,[10,0,1,2,3,4,5,6,7,8,9,10,11]),(28,[0,0,1,2,3,4,5,6,7,8,9,10,11,12,13,14,15,16,17,18,19,20,21,22,23,24,25,26,27,28,29,30,31,33,34,35,32,36,37,38])] [] [] [9,14,26,27,28,36,41,47,66,70,71,87,88,96,97,105,106,120,121,157,158,159]) Tryz.func74
end
def aRU(s:Bs)(k:Int)(w:Z)(i:s.length<=1000000)(r:BI w)(u:lP w):Calls baJ 102 #[.string (bs s),zi k] w fun e w'=>Ext w w'/\match DY s with
  | some t=>∃ cv,e = ai cv/\ym cv (O t)
  | none=>np 5 k w w' e:=by
 suffices H:∀ R:Ending->Z->Prop,(∀ e w',(Ext w w'/\match DY s with
  | some t=>∃ cv,e = ai cv/\ym cv (O t)
  | none=>np 5 k w w' e)->R e w')->Calls baJ 102 #[.string (bs s),.int .i64 k] w R from H _ yF
 intro R f;have x:∀ w2,Ext w w2->DX s=V->∀ K:Y->Z->Prop,(∀ v w3,Ext w w3->DY s=O (.atom v)->K (aW v) w3)->Calls baJ 72 #[aW s,zi k] w2 (ends K (PC R)):=fun w2 a hu K y=>by
  refine(ahB s k w2 i).mono ?_;rintro e w3 ⟨j,d⟩;have c:DY s=(pS s).map .atom:=by grind [DY]
  cases l:pS s with
  | some v=>
   rw[l] at d c;subst d;exact y v w3 yF c
  | none=>
   rw[l] at d c;have B:=d;obtain⟨b,rfl,E,F⟩:=B;exact f _ _ (by grind [bD.trans,np.ext])
 refine aOE ?_;refine⟨fun _ w'=>Ext w w'/\DX s=V,?_,?_⟩
 .refine(aRM s w i r).mono ?_;rintro e w1 ⟨C,v,G,rfl,m,D⟩;rcases D with⟨rfl,n⟩| ⟨⟨t,p,rfl⟩,n⟩
  .refine bF ?_;refine⟨fun z w'=>Ext w w'/\z 19 = .bool (decide (kX v=s)),?_,?_⟩
   .refine bF ?_;refine a0C (an8 v m.1 m.2 w1 (u.ext C)) ?_;rintro e w2 ⟨rfl,a⟩;refine bF ?_;exact yF
   .rintro z w2 ⟨a,g⟩ o;have h:=asl n;rw[g];by_cases q:kX v=s
    .rw[zip q] at h;have:decide (kX v=s)=true:=zg;rw[this];refine bF ?_;exact f _ _ ⟨a,by unfold DY;rw[h];exact⟨_,J,J⟩⟩
    .rw[bO q] at h;have:decide (kX v=s)=false:=zg;rw[this];refine bF ?_;exact yF
  .refine bF ?_;refine⟨fun z w'=>w'=w1/\z 19 = .bool ae,?_,?_⟩
   .exact eS
   .rintro z w2 ⟨rfl,g⟩ o;rw[g];refine bF ?_;grind [asm]
 .rintro z w2 ⟨a,hu⟩ o;refine x w2 a hu _ fun v w3 j c=>?_;refine bF ?_;exact f _ _ ⟨j,by rw[c];exact⟨_,J,J⟩⟩
def aRV{sh:Bs}(h:Jb w mb v sh)(x:UInt8)(F:sh.length<=1000000):Calls baJ 103 #[v,.int .u8 (x.toNat:Int)] w fun e w'=>e = ai (.bool (sh.contains x))/\w'=w:=by
 suffices H:∀ R:Ending->Z->Prop,(∀ e w',(e = ai (.bool (sh.contains x))/\w'=w)->R e w')->Calls baJ 103 #[v,.int .u8 (x.toNat:Int)] w R from H _ zg;intro R s;refine aRR ?_;have j:Calls baJ 136 #[v,.int .u8 (x.toNat:Int)] w fun e w'=>w'=w/\∃ i:Int,e = ai (zi i)/\(decide (i ≥ 0)=sh.contains x):=by
  suffices H:∀ R:Ending->Z->Prop,(∀ e w',(w'=w/\∃ i:Int,e = ai (zi i)/\(decide (i ≥ 0)=sh.contains x))->R e w')->Calls baJ 136 #[v,.int .u8 (x.toNat:Int)] w R from H _ zg;intro R s;obtain⟨a,c,hv⟩:∃ a c,v = .slice a sh.length c:=by
   rcases h with⟨k,t⟩| ⟨b,p,-,k,-⟩<;>grind
  subst hv;refine aRS ?_;refine bF ?_;refine⟨fun m z w'=>∃ q,z 8=zi ((q:Nat):Int)/\q<=sh.length/\m=sh.length-q/\w'=w/\∀ y∈sh.take q,y≠x,⟨_,0,J,Nat.zero_le _,J,J,zs⟩,?_⟩;intro m z d w2 j;refine toPr ?_;obtain⟨q,l,G,rfl,rfl,I⟩:=j;by_cases K:q<sh.length
  .obtain⟨b,p,u,n⟩:∃ b z,a=O ⟨b,0,V⟩/\w2.heap[b]?=O (ah (uF sh).toArray 5 z):=by
    rcases h with⟨k,-⟩| ⟨b,p,-,k,-,t⟩<;>grind
   subst u;have g:((q:Nat):Int)<(sh.length:Int):=zo;have r:((q:Nat):Int).toNat=q:=zo;obtain⟨y,C⟩:=ck (sh[q]);have o:(uF sh).toArray[q]?=O (.int .u8 (y.toNat:Int)):=zg;obtain⟨B,D⟩:=ck ((uF sh).toArray);rw[<- D] at n o;by_cases E:y=x
   .have f:(x.toNat:Int)=(y.toNat:Int):=zg;refine dL l g n (zA o (zA @r f)) ?_;grind
   .have f:¬ (x.toNat:Int)=(y.toNat:Int):=(by grind [UInt8.toNat_inj]);refine dL l g n (zA o (zA @r f)) ?_;refine⟨_,?_,q+1,J,zo,J,?_⟩
    .omega
    grind [List.take_succ,List.getElem?_eq_getElem,Option.toList_some,List.mem_singleton]
  .have g:¬ ((q:Nat):Int)<(sh.length:Int):=zo;refine dB l g ?_;grind
 refine j.mono ?_;rintro e w2 ⟨rfl,i,rfl,L⟩;refine bF ?_;grind
structure LD(base xb:Nat)(cv sv:Y)(w:Z)(i:P.In):Prop where
 cell:w.heap[xb]?=aP #[aW i.word,aW i.name,cv,sv] 198
 con:ym cv i.const
 row:w.ownsRow base 3 1 sv i.s.length (uO i.s)
abbrev LF(base xb:Nat)(w w':Z):Prop:=bD (fun b _=>b=xb\/base<=b) w w'
theorem LD.ext{base xb:Nat}{cv sv:Y}{w w':Z}{i:P.In}(h:LD base xb cv sv w i)(a:Ext w w'):LD base xb cv sv w' i:=⟨a.ext _ _ h.cell,h.con,jQ a.ext h.row⟩
def ym.cases{cv:Y}{c:Option Tm}(h:ym cv c):cv = aj\/∃ t u,cv = ak t u:=by
 cases c with
 | none=>exact .inl h
 | some t=>
  cases t with
  | atom s=>exact .inr ⟨_,_,h⟩
  | int s=>exact .inr ⟨_,_,h⟩
  | var i=>exact h.elim
  | comp s l=>exact h.elim
def ahD{cv:Y}{a:Option Addr}{i:P.In}(h:LD base xb cv (.slice a n c) w i)(E:base<=w.heap.size)(hx:xb<base)(F:i.s.length<=1000000)(s:Nat){K:Y->Z->Prop}
  (u:∀ a' l f w',w'.heap[xb]?=aP #[aW i.word,aW i.name,cv,.slice a n c] 198 ->
   LD base xb cv (.slice a' l f) (bT w' xb (ah #[aW i.word,aW i.name,cv,.slice a' l f] 198)) { i with s:=i.s++[s] } ->
   LF base xb w (bT w' xb (ah #[aW i.word,aW i.name,cv,.slice a' l f] 198))->K (.slice a' l f) w') :
  WR baJ (a07 #[45,45] 45 #[.slice a n c,cU w.heap.size 1 1]) (w.alloc (ah #[zi (s:Int)] 3)) K X:=by
 have d:Ext w (w.alloc (ah #[zi (s:Int)] 3)):=yF;obtain⟨w1,x⟩:=ck (w.alloc (ah #[zi (s:Int)] 3));have g1:w1.heap[w.heap.size]?=aP #[zi (s:Int)] 3:=yH;rw[<- x] at d ⊢;have s1:=d.size;have m:=h.ext d;refine aqW m.row g1 J zo zo fun v' w' p j hv=>?_;obtain⟨a',f,rfl⟩:=ij p;have y:∀ b o,b<base->w1.heap[b]?=O o->w'.heap[b]?=O o:=fun b o G eW=>by
  rw[j.block b (bn eW) (fun e=>?_)]
  .exact yH
  .rcases m.row.2 with⟨k,-⟩| ⟨g,cap,cur,k,q,-⟩
   .rw[k] at e;cases e
   .rw[k] at e;injection e with e;grind
 have t:=y _ _ hx m.cell;have z:=bn t;refine u _ _ _ _ t ⟨yH,h.con,?_⟩ ?_
 .have B:(i.s++[s]).length=i.s.length+1:=zs;have C:uO (i.s++[s])=uO i.s++[zi (s:Int)]:=zg;show World.ownsRow _ base 3 1 _ (i.s++[s]).length (uO (i.s++[s]));rw[B,C];refine⟨p.1,?_⟩;rcases p.2 with r | ⟨g,cap,cur,k,q,H,D⟩
  .exact yH
  .exact .inr ⟨g,cap,cur,k,q,yH,D⟩
 .have I:=j.size;refine bD.bT ⟨j.os.trans d.os,j.tape.trans d.tape,j.output.trans d.output,zo,fun b o eW L=>?_⟩ yH;exact yH
def P.aRW(slots:Nat)(x:UInt8)(r:Bs)(ws:List Bs)(i:P.In):mV slots (x::r) ws i=if x=42 then match xZ slots ws with
  | some l=>O ({ i with s:=i.s++l },[])
  | none=>V
 else match ws with
  | []=>V
  | w::ws=>
   if x=115 then match km w slots with
    | some s=>mV slots r ws { i with s:=i.s++[s] }
    | none=>V
   else if x=99 then match DY w with
    | some t=>mV slots r ws { i with const:=O t }
    | none=>V
   else if x=110 then match pS w with
    | some t=>mV slots r ws { i with name:=t }
    | none=>V
   else match km w 10000 with
    | some s=>mV slots r ws { i with s:=i.s++[s] }
    | none=>none:=rfl
theorem P.aso(slots:Nat)(w:Bs)(ws:List Bs):vE slots (w::ws)=match mT w with
 | none=>V
 | some sh=>match mV slots sh ws ⟨w,[],V,[]⟩with
  | some (i,[])=>if ((w=[109,97,107,101]\/w=[115,112,108,105,116])/\i.s.length<2)\/(w=nD/\jx i.name≠i.s.length) then V else O i
  | _=>none:=rfl
