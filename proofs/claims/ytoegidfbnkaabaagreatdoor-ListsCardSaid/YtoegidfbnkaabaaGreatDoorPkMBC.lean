/- A part of one proof (KG18, VP1, VP2, VP3, ShX4d, ShX4b, VP4, VP5). -/
import Derived.Test.YtoegidfbnkaabaaGreatDoorPkMBB
import Derived.Lib.AtoiAllCases
import Derived.Lib.ParseIntBTie
import Derived.Shelf.Strings.SlTrimAscii
set_option linter.all false
set_option maxRecDepth 100000
set_option maxHeartbeats 8000000
open Option renaming some → O, none → V
open Go renaming Value → Y, World → Z
open Bool renaming true → G, false → ae
open Go.Obj renaming cells → ah
open Go.Ending renaming returned → ai
open Go.Value renaming nilIface → aj, iface → ak, tuple → aq, pointer → au
open Go.Calls renaming mono → a3L
open List renaming mem_cons_self → a3S, mem_cons → a3T
open Option renaming map_eq_some_iff → a4c
open Go.Builtin renaming append_ → a4e
open Go.Lib renaming atoiAll → a5w, trimS → a6d, atoiAll_bounds → a6Z
open Go.Proofs.Tryz renaming prog → bdX
namespace Go.Proofs.YtoegidfbnkaabaaGreatDoor
open P
open Go.RowKit Sx
variable{X:Y->Z->Prop}{b base c m mb n pb xb:Nat}{s:Bs}{v:Y}{ur:Nat->Nat}{w w' w0:Z}{xs:List Y}
def Tryz.aSO:(Tryz.prog.info? 211).map (fun i=>(i.zero,i.size,i.bytes))=O (O (au V),1,8):=zk
def Tryz.aSP:(Tryz.prog.info? 185).map (fun i=>(i.zero,i.size,i.bytes))=O (O (au V),1,8):=zk
def aSQ(c:w.ownsRow base 211 1 v n xs){q:Nat}
  (d:w.heap[b]?=aO #[pp q] 211)
  (o:n<=100000000) (f:base<=w.heap.size) {K:Y->Z->Prop}
  (h:∀ v' w',w'.ownsRow base 211 1 v' (n+1) (xs++[pp q])->w.grownBy w' v.ownBlock->(v'.ownBlock=v.ownBlock\/∀ k,v'.ownBlock=O k->w.heap.size<=k)->K v' w') :
  WR bdX (a4e #[209,209] 209 #[v,cS b 1 m]) w K X:=by
 obtain⟨i,hi,a⟩:=a4c.1 Tryz.aSO;simp only[Prod.mk.injEq] at a;obtain⟨g,j,l⟩:=a;refine Sx.DY (m:=1) (t:=209) (e:=211) zk hi g j l J zo c d J (fun u hu=>?_) zo zo f h;simp only[a3T,List.not_mem_nil,or_false] at hu;subst hu;rfl
def atv(c:w.ownsRow base 185 1 v n xs){q:Nat}
  (d:w.heap[b]?=aO #[pp q] 185)
  (o:n<=100000000) (f:base<=w.heap.size) {K:Y->Z->Prop}
  (h:∀ v' w',w'.ownsRow base 185 1 v' (n+1) (xs++[pp q])->w.grownBy w' v.ownBlock->(v'.ownBlock=v.ownBlock\/∀ k,v'.ownBlock=O k->w.heap.size<=k)->K v' w') :
  WR bdX (a4e #[192,192] 192 #[v,cS b 1 m]) w K X:=by
 obtain⟨i,hi,a⟩:=a4c.1 Tryz.aSP;simp only[Prod.mk.injEq] at a;obtain⟨g,j,l⟩:=a;refine Sx.DY (m:=1) (t:=192) (e:=185) zk hi g j l J zo c d J (fun u hu=>?_) zo zo f h;simp only[a3T,List.not_mem_nil,or_false] at hu;subst hu;rfl
theorem aSR{α:Type}(f:α->α)(l:List α)(a:α):(l++[a]).modify l.length f=l++[f a]:=by
 have:=YG f l [a] 0;grind
def Cd.aSS{sL:Nat->Y}{l:List Pd}(h:Cd pb w v ur sL l)(hk:∀ (b T:Nat) (cs:Array Y),w.heap[b]?=aO cs T->w'.heap[b]?=aO cs T):Cd pb w' v ur sL l:=
 ⟨GB h.row yH,h.lo,(by grind [cell]),fun i p hi=>let ⟨fX,a,c⟩:=h.cl i p hi;⟨fX,(by grind [GB]),(by grind [sJ.aiQ])⟩,h.ne,h.nc⟩
def aST{w:Z}{bv:Y}{F:List Y}{cs:List P.Cl}{qb nv:Nat}{nm:Bs}{av xv Wj:Y}{x:Bd}(hv:fO (fun _=>True) w 79 bv F)(hc:ky (fun _=>True) w F cs)(dx:∀ c∈cs,P.qT c)(hn:cs.length<=40)
  (hq:w.heap[qb]?=aO #[aW nm,av,xv,Wj] 86) (xm:∃ a c,Wj = .slice a nv c) (gA:lV (fun _=>True) w av []) (rR:dL (fun _=>True) w xv x) (fc:eZ nv 2900 x) (R9:iX x<=5800) (nh:nv<=12) (hP:mj w) :
  Calls bdX 41 #[bv,pp qb] w fun e w'=>Ext w w'/\match A4 cs x nv with
   | none=>e = ai (aq #[.string (bs []),.bool ae])
   | some t=>e = ai (aq #[.string (bs t),.bool G]):=by
 suffices H:∀ R:Ending->Z->Prop,(∀ e w',(Ext w w'/\match A4 cs x nv with
   | none=>e = ai (aq #[.string (bs []),.bool ae])
   | some t=>e = ai (aq #[.string (bs t),.bool G]))->R e w')->Calls bdX 41 #[bv,au (O ⟨qb,0,V⟩)] w R from H _ yF
 intro R hR;have gU:=hc.len;obtain⟨ba,bc,rfl⟩:=hv.sl;refine aSI ?_;refine cJ @Xo ?_;obtain⟨w0,yx⟩:=cj (((w.alloc (ah #[aW []] 9 (0,0))).alloc (ah #[.bool ae] 4)).alloc (.map #[] 0));rw[size_alloc,size_alloc,<- yx];have po:Ext w w0:=yF;have b0:w0.heap[w.heap.size]?=aO #[aW []] 9:=yH;have b1:w0.heap[w.heap.size+1]?=aO #[.bool ae] 4:=yH;have b2:w0.heap[w.heap.size+1+1]?=O (eM (sK 0 [])):=by rw[yx];exact tW (yH)
 clear yx;obtain⟨I,atw⟩:=cj w.heap.size;obtain⟨L,Q7⟩:=cj (w.heap.size+1);obtain⟨mb,Mg⟩:=cj (w.heap.size+1+1);rw[<- Mg,<- Q7,<- atw];rw[<- atw] at b0;rw[<- Q7] at b1;rw[<- Mg] at b2;obtain⟨B,hB⟩:=cj (w.heap.size+3);have atx:∀ w',Ext w w'->w'.heap[I]?=aO #[aW []] 9->w'.heap[L]?=aO #[.bool ae] 4->A4 cs x nv=V ->
   LV bdX (fun wz=>RD bdX (Instr.loadAt 9 (pp I)) wz (fun r=>RD bdX (Instr.loadAt 4 (pp L)) wz (fun r_1=>R (ai (aq #[r,r_1])) wz) NX) NX) R [{ target:=.fn (.func 79) #[pp I,pp L],args:=#[]++#[] }] (.panicking [{ v:=ak 27 (zi 4),recovered:=false }]) w':=by
  intro w' hE' h4 h5 Wv;have l4:=bn h4;have l5:=bn h5;refine aSN h4 h5 zo ?_;obtain⟨w2,j8⟩:=cj (bR (bR w' I (ah #[aW []] 9 (0,0))) L (ah #[.bool ae] 4));have g1:w2.heap[I]?=aO #[aW []] 9:=yH;have g2:w2.heap[L]?=aO #[.bool ae] 4:=yH;have dX:Ext w w2:=yF;rw[<- j8];refine dA @g1 @g2 ?_;grind
 refine⟨fun m z w'=>∃ j f rf sL v,z 17=zi ((j:Nat):Int)/\z 6=v/\j<=cs.length/\m=cs.length-j/\Ext w w'/\w'.heap[I]?=aO #[aW []] 9/\w'.heap[L]?=aO #[.bool ae] 4/\w'.heap[mb]?=O (eM (sK 0 f)) /\
   Cd B w' v rf sL f/\vN cs []=vN (cs.drop j) f/\(∀ p∈f,p.arity<=4)/\f.length<=j/\(∀ p∈f,p.clauses.length<=j),
  ⟨_,0,[],fun _=>0,fun _=>bW,bW,J,J,Nat.zero_le _,J,po,b0,b1,b2,⟨⟨J,yH⟩,zg,yH,zg,zg,zg⟩,J,zg,Nat.le_refl _,zg⟩,?_⟩
 intro m z d w3 hI;refine toPr ?_;obtain⟨j,f,rf,sL,v,h17,h6,hj,rfl,eI,g0,g1,g2,hG,heq,lu,uQ,aSV⟩:=hI;have lmb:=bn g2;obtain⟨ra,rc,rfl⟩:=gZ hG.row;by_cases fm:j<cs.length
 .obtain⟨u,vh,Ge⟩:=ky.Ds j fm hc;obtain⟨cb,cav,cbv,Zh,Vd,rfl,-,gX,nw,aty⟩:=Ge;obtain⟨gg,gcs,e3,e4,e5,e6⟩:=hv.at' (j:=j) zo;simp only[Value.slice.injEq,true_and] at e3;obtain⟨rfl,rfl⟩:=e3;rw[vh] at e6;obtain⟨c,Gg⟩:=cj (cs[j]);rw[<- Gg] at gX nw aty;have ET:P.qT c:=zg;have kf:((j:Nat):Int).toNat=j:=zo;have fH:((j:Nat):Int)<(F.length:Int):=zo;have e53:=eI.ext _ _ e5;have LG:=eI.ext _ _ gX;have dI:Ext w3 w3.drew:=yF;obtain⟨dk,ZR,aSX⟩:=id nw;have atz:=aSX.ER;obtain⟨aa,ac,rfl⟩:=ZR.sl;have xy:=ET.cl.qQ;have yf:=ET.name;refine dG h17 fH @e53 (zA @e6 (zA @kf LG)) ?_;rw[atz];refine a3L (ahp c.name c.args.length zo zo w3.drew) ?_;rintro e w4 ⟨rfl,rfl⟩;refine bG ?_;have M:=dI.ext _ _ g2;obtain⟨kv,N,xz,aSY⟩:∃ (kv:Nat) (N:Bool),(∀ {K:Y->Prop} {X:Y->Z->Prop},K (aq #[zi (kv:Int),.bool N])->RD bdX (Instr.lookup 210 (.map (O mb)) (aW (P.keyOf c.name c.args.length)) G) w3.drew K X) /\
    ((N=ae/\fQ (P.keyOf c.name c.args.length) (sK 0 f) 0=V/\∀ x,rW c.name c.args.length x f=f++[⟨c.name,c.args.length,[x]⟩])\/(N=G/\kv<f.length/\∀ x,rW c.name c.args.length x f=f.modify kv fun p=>{ p with clauses:=p.clauses++[x] })):=by
   cases hf:fQ (P.keyOf c.name c.args.length) (sK 0 f) 0 with
   | none=>
    refine⟨0,ae,fun hK=>?_,.inl ⟨J,J,fun x=>?_⟩⟩
    .rw[Md (k:=9) (e:=3) (z:=zi 0) zk zk zk M _ G,hf];grind
    .have:=aas (name:=c.name) (n:=c.args.length) zo x f 0 0 zg;grind
   | some qv=>
    obtain⟨q,v⟩:=qv;have h0:=aas (name:=c.name) (n:=c.args.length) zo default f 0 0 zg;rw[hf] at h0;obtain⟨k,e1,e2,ZG,-⟩:=h0;rw[Nat.zero_add] at e1 e2;subst e1 e2;refine⟨q,G,fun hK=>?_,.inr ⟨J,ZG,fun x=>?_⟩⟩
    .rw[Md (k:=9) (e:=3) (z:=zi 0) zk zk zk M _ G,hf];grind
    .have:=aas (name:=c.name) (n:=c.args.length) zo x f 0 0 zg;grind
  refine xz ?_;refine bG ?_;refine⟨fun s D=>∃ l' Q aiS v' k,s 6=v'/\s 11=zi ((k:Nat):Int)/\Ext w D/\D.heap[I]?=aO #[aW []] 9/\D.heap[L]?=aO #[.bool ae] 4/\D.heap[mb]?=O (eM (sK 0 l')) /\
    Cd B D v' Q aiS l'/\k<l'.length/\(∀ x,rW c.name c.args.length x f=l'.modify k fun p=>{ p with clauses:=p.clauses++[x] })/\(∀ p∈l',p.arity<=4)/\l'.length<=j+1/\(∀ p∈l',p.clauses.length<=j),?_,?_⟩
  .rcases aSY with⟨rfl,hf,aiT⟩| ⟨rfl,zP,aiT⟩
   .refine cJ h6 ?_;rw[yv (k:=9) (e:=3) zk zk M _ hf];obtain⟨A,S⟩:=cj (bR w3.drew mb (eM (sK 0 f++[(P.keyOf c.name c.args.length,Value.int .i64 (f.length:Int))])));rw[<- S];have hkM:∀ (b T:Nat) (cs:Array Y),w3.heap[b]?=aO cs T->A.heap[b]?=aO cs T:=fun b T cs hx=>by
     rw[S,jg (fun e=>by rw[e,g2] at hx;cases hx)];exact yH
    have hEM:Ext w A:=yF;have gM:A.heap[mb]?=O (eM (sK 0 (f++[⟨c.name,c.args.length,[]⟩]))):=by
     rw[S,atr,Nat.zero_add];exact yH
    have sM:A.heap.size=w3.heap.size:=yH;clear S;have atB:=hkM _ _ _ LG;have hGM:=hG.aSS hkM;have hdM:Ext A A.drew:=yF;refine⟨fun w'=>Ext A w',hdM,?_⟩;rw[jI];refine cQ (pp cb) (fun w' h=>eR) ?_;refine cQ (aW c.name) (fun w' h=>by have g:=h.ext _ _ atB;have:=bn g;exact eV g) ?_;refine cJ atB ?_;rw[atz];obtain⟨wB,QG⟩:=cj (A.drew.alloc (ah #[aW c.name,zi (c.args.length:Int),bW] 213));rw[<- QG];have Lb:Ext A wB:=yF;have gB:wB.heap[A.heap.size]?=aO #[aW c.name,zi (c.args.length:Int),bW] 213:=yH;have sB:wB.heap.size=A.heap.size+1:=yH;clear QG;obtain⟨wC,hwC⟩:=cj (wB.alloc (ah #[pp A.heap.size] 211));have hEC:Ext wB wC:=yF;have gC:wC.heap[wB.heap.size]?=aO #[pp A.heap.size] 211:=yH;have sC:wC.heap.size=wB.heap.size+1:=yH;refine⟨Lb,?_⟩;rw[<- hwC];refine⟨yF,?_⟩;have Ww:=hGM.ext (Lb.trans hEC);have U:Ext w wC:=yF;rw[h6];rw[sB] at gC;refine aSQ (base:=B) Ww.row gC zo zo fun v' w5 ho l Es=>?_;have Mn:=l.size;have uo:Ext w w5:=⟨l.os.trans U.os,l.tape.trans U.tape,l.output.trans U.output,zo,fun b o hb _=>by
     have E:=U.ext _ _ hb;rw[l.block b (bn E) (fun e=>?_)]
     .omega
     .have:=(E9 Ww.row e.symm).1;grind⟩
    have ru:∀ {b T:Nat} {cs:Array Y},T≠211->wC.heap[b]?=aO cs T->w5.heap[b]?=aO cs T:=fun hT hx=>GC Ww.row l hT hx;have JO:w5.heap[mb]?=O (eM (sK 0 (f++[⟨c.name,c.args.length,[]⟩]))):=by
     have E:=(Lb.trans hEC).ext _ _ gM;rw[l.block mb (bn E) (fun e=>?_)]
     .omega
     .obtain⟨-,-,cs',g⟩:=E9 Ww.row e.symm;rw[E] at g;cases g
    have hGN:=Ww.new (nb:=A.heap.size) (n:=c.args.length) (name:=c.name) yH zo (fun i hi=>by
     have:=bn (hGM.cell i f[i] zg);omega) ho l
    refine⟨f++[⟨c.name,c.args.length,[]⟩],_,_,v',f.length,J,J,uo,?_,?_,JO,hGN,zs,fun x=>?_,fun p hp=>?_,zg,fun p hp=>?_⟩
    .exact ru zo ((Lb.trans hEC).ext _ _ yH)
    .exact ru zo (by grind [bD.ext,bD.trans])
    .grind [aSR]
    .grind
    grind
   .refine cJ h6 ?_;exact⟨f,rf,sL,_,kv,zg,zg,yF,yH,yH,M,hG.ext dI,zP,aiT,lu,zo,aSV⟩
  .rintro s D ⟨l',Q,aiS,v',k,s6,s11,kq,q0,q1,q2,qu,zP,aiT,a1Q,a1R,a1S⟩ dd;obtain⟨p,Iq⟩:=cj (l'[k]);have Pn:l'[k]?=O p:=zg;obtain⟨fX,je,jr⟩:=qu.cl k p Pn;have nE:=qu.cell k p Pn;have Ag:Ext D D.drew:=yF;obtain⟨pg,pgc,pgu,lX,a1U,a1V⟩:=UL qu.row (t:=k) zP;subst lX;have atF:pgu[k]?=O (pp (Q k)):=zg;have pP:((k:Nat):Int).toNat=k:=zo;have wO:((k:Nat):Int)<(l'.length:Int):=zo;obtain⟨cla,clc,Sh⟩:=gZ je;obtain⟨Cl,atG⟩:=cj (aiS k);rw[<- atG] at nE je Sh;have aS4:=nE;rw[Sh] at aS4;rw[s6,s11];refine⟨fun w'=>w'.heap[pg]?=aO pgu 211/\w'.heap[Q k]?=aO #[aW p.name,zi (p.arity:Int),Cl] 213,yH,?_⟩;refine cQ (pq pg k) (fun w' h=>by have g:=h.1;have:=bn g;exact KA g wO @pP) ?_;refine cQ (pp (Q k)) (fun w' h=>by have g:=h.1;have:=bn g;exact mv g atF) ?_;refine cQ (pq pg k) (fun w' h=>by have g:=h.1;have:=bn g;exact KA g wO @pP) ?_;refine cQ (pp (Q k)) (fun w' h=>by have g:=h.1;have:=bn g;exact mv g atF) ?_;rw[jI];refine cQ (pq (Q k) 2) (fun w' h=>eR) ?_;refine cQ Cl (fun w' h=>by have g:=h.2;have:=bn g;rw[Sh] at g ⊢;exact eV g) ?_;have atH:=kq.trans Ag;have aS5:lV (fun _=>True) D.drew (.slice aa dk.length ac) c.args:=lV.mono zg (by grind [bD.ext]) nw;have aS6:dL (fun _=>True) D.drew cbv c.body:=dL.mono zg (by grind [bD.ext]) _ _ aty;refine a3L (asZ ae (atH.ext _ _ gX) ⟨_,_,J⟩ aS5 aS6 ET.cl.args ET.cl.qQ ET.cl.sz ET.cl.body ET.bsz ET.vs.1) ?_;rintro e w7 ⟨Sg,C⟩;have atI:vN cs []=match xt c.args c.body c.vars.length ae with
     | none=>V
     | some x=>vN (cs.drop (j+1)) (rW c.name c.args.length x f):=by
    rw[heq,List.drop_eq_getElem_cons fm,<- Gg];rfl
   have Hi:=atH.trans Sg;have Wx:=Ag.trans Sg;cases Pp:xt c.args c.body c.vars.length ae with
   | none=>
    rw[Pp] at C atI;have C:e=gW (.fault 4):=C;subst C;exact fun fq=>atx w7 Hi (Wx.ext _ _ q0) (Wx.ext _ _ q1) (by grind [A4])
   | some co=>
    rw[Pp] at C atI;obtain⟨cm,he,Cn,vR⟩:=C;subst he;have GA:=qu.ext Wx;have aS8:=jK Wx.ext je;refine⟨(by grind [bD.ext]),?_⟩;rw[Sh];refine bG ?_;obtain⟨w8,MG⟩:=cj (w7.alloc (ah #[pp cm] 185));have wq:Ext w7 w8:=yF;have g8:w8.heap[w7.heap.size]?=aO #[pp cm] 185:=yH;rw[<- MG];have W:=Wx.trans wq;have tS:=Hi.trans wq;have Pg:=GA.ext wq;have Wy:=jK wq.ext aS8;have sz8:=tS.size;refine⟨(by grind [bD.ext]),?_⟩;rw[<- Sh];have j3:p.clauses.length<=j:=zg;have yX:=bn q2;have a1X:=W.size;refine atv (base:=B) Wy g8 zo zo fun v9 w9 ho l Gz=>?_;have Mn:=l.size;have J3:∀ {b T:Nat} {cs:Array Y},T≠185->w8.heap[b]?=aO cs T->w9.heap[b]?=aO cs T:=(by grind [GC]);have aaA:=J3 zd (W.ext _ _ nE);refine⟨(by grind [bD.ext]),?_⟩;have lc9:=bn aaA;obtain⟨va9,vc9,atJ⟩:=gZ ho;rw[Sh] at aaA;have aS9:=aaA;rw[atJ];refine dA aaA h17 ?_;rw[<- atJ];obtain⟨wF,Gh⟩:=cj (bR w9 (Q k) (ah #[aW p.name,zi (p.arity:Int),v9] 213));rw[<- Gh];rw[atG] at Wy l Gz;have hGF:=Pg.push Pn Wy (by grind [sJ.ext]) (vR.ext wq) ho l Gz;rw[<- Gh] at hGF;have hEF:Ext w wF:=by
     have mH:Ext w w9:=⟨l.os.trans tS.os,l.tape.trans tS.tape,l.output.trans tS.output,zo,fun b o hb _=>by
      have E:=tS.ext _ _ hb;rw[l.block b (bn E) (fun e=>?_)]
      .omega
      .have:=(E9 Wy e.symm).1;grind⟩
     rw[Gh];exact mH.bR (.inr (by have:=qu.lo k zP;omega))
    have a17:∀ {b T:Nat} {cs:Array Y},T≠185->T≠213->D.heap[b]?=aO cs T->wF.heap[b]?=aO cs T:=fun{b T cs} h1 h2 hx=>by
     have xD:=J3 h1 (W.ext _ _ hx);exact yH
    have hmF:wF.heap[mb]?=O (eM (sK 0 (l'.modify k fun p=>{ p with clauses:=p.clauses++[co] }))):=by
     rw[att];have E:=W.ext _ _ q2;have fh:w9.heap[mb]?=O (eM (sK 0 l')):=by
      rw[l.block mb (bn E) (fun e=>?_)]
      .exact E
      .obtain⟨-,-,cs',g⟩:=E9 Wy e.symm;rw[E] at g;cases g
     rw[Gh,jg]
     .omega
     .rintro rfl;rw[aS9] at fh;cases fh
    refine⟨_,?_,j+1,l'.modify k fun p=>{ p with clauses:=p.clauses++[co] },Q,_,_,zg,zg,zo,J,hEF,yH,yH,hmF,hGF,?_,fun y hy=>?_,zg,fun y hy=>?_⟩
    .omega
    .grind
    .rcases YJ hy with hy | ⟨y0,JE,rfl⟩<;>grind
    .rcases YJ hy with hy | ⟨y0,JE,rfl⟩<;>grind
 .have fm:j=cs.length:=zo;subst fm;have fH:¬ (cs.length:Int)<(F.length:Int):=zo;rw[List.drop_length,vN] at heq;obtain⟨va,vc,rfl⟩:=xm;have zM:=eI.ext _ _ hq;have dI:Ext w3 w3.drew:=yF;have tR:=eI.trans dI;refine dA h17 fH ?_;refine⟨fun w'=>w'.heap[qb]?=aO #[aW nm,av,xv,.slice va nv vc] 86,yH,?_⟩;rw[jI];refine cQ (pq qb 3) (fun w' h=>eR) ?_;refine cQ (.slice va nv vc) (fun w' h=>by have:=bn h;exact eV h) ?_;refine cQ (zi (nv:Int)) (fun w' h=>eR) ?_;have Gr:lV (fun _=>True) w3.drew av []:=lV.mono zg (by grind [bD.ext]) gA;have aTb:dL (fun _=>True) w3.drew xv x:=dL.mono zg (by grind [bD.ext]) _ _ rR;refine a3L (asZ G (tR.ext _ _ hq) ⟨_,_,J⟩ Gr aTb fj.nil zs (by simp [fJ]) fc R9 nh) ?_;rintro e w7 ⟨Sg,C⟩;have Si:=dI.trans Sg;have Hi:=eI.trans Si;cases Pp:xt [] x nv G with
  | none=>
   rw[Pp] at C;have C:e=gW (.fault 4):=C;subst C;exact fun fq=>atx w7 Hi (Si.ext _ _ g0) (Si.ext _ _ g1) (by grind [A4])
  | some ask=>
   rw[Pp] at C;obtain⟨cm,he,Cn,vR⟩:=C;subst he;refine⟨Si.ext _ _ zM,?_⟩;have pw:A4 cs x nv=O (rB f ask nv):=by grind [A4]
   obtain⟨p1,p2,p3,p4⟩:=ao5 dx hn heq;have Vi:=YF Pp fj.nil (by simp [fJ]) fc R9 nh;have BZ:=aoX Pp fj.nil fc;have hlen:=aKj p1 Vi (show nv<=1000 by omega);have GA:=hG.ext Si;have aTc:fO (fun _=>True) w7 211 (.slice ra f.length rc) ((List.range f.length).map fun i=>Value.pointer (O ⟨rf i,0,V⟩)):=Fy GA.row zg;rw[h6];refine a3L (aSz aTc zs (fun i p hi=>?_) vR p2 ⟨Vi,BZ⟩ zg zg zo zo (hP.ext Hi) zo) ?_
   .have mw:i<f.length:=by
     grind
    refine⟨rf i,zg,?_⟩;obtain⟨fX,e1,e2⟩:=GA.cl i p hi;exact⟨sL i,fX,GA.cell i p hi,(by grind [Fy]),by have:=e1.1;omega,e2⟩
   rintro e w8 ⟨rfl,wq⟩;have aiX:=Si.trans wq;have tS:=eI.trans aiX;have g08:=aiX.ext _ _ g0;have g18:=aiX.ext _ _ g1;have l08:=bn g08;have l18:=bn g18;refine dA @g08 @g18 ?_;obtain⟨wF,Gh⟩:=cj (bR (bR w8 I (ah #[aW (rB f ask nv)] 9)) L (ah #[.bool G] 4));have f1:wF.heap[I]?=aO #[aW (rB f ask nv)] 9:=yH;have f2:wF.heap[L]?=aO #[.bool G] 4:=yH;have hEF:Ext w wF:=yF;rw[<- Gh];refine aSM ?_;refine dA @f1 @f2 ?_;grind
def Cf(w:Z):Prop:=∃ t1 p1 t2 p2,w.cell? ⟨6,0,V⟩=O (ak t1 p1)/\w.cell? ⟨7,0,V⟩=O (ak t2 p2)
theorem Cf.ext{w w':Z}(h:Cf w)(a:Ext w w'):Cf w':=by
 obtain⟨t1,p1,t2,p2,b,c⟩:=h;exact⟨t1,p1,t2,p2,(by grind [Ns,bD.ext]),(by grind [Ns,bD.ext])⟩
def atN:∀ (l:Bs) (acc n:Nat),(∀ c∈l,P.digit c=G)->(l.foldl (fun v c=>10*v+((c.toNat:Int)-48)) (acc:Int))=(n:Int)->n<9223372036854775809->Go.Lib.parseUint10 acc l = .ok n
 | [],acc,n,_,h,_=>by
  have h:(acc:Int)=(n:Int):=h;have:acc=n:=zo;subst this;rfl
 | c::r,acc,n,b,h,d=>by
  have g:=b c a3S;have i:48<=c.toNat/\c.toNat<=57:=by grind [P.digit]
  have f:(10*(acc:Int)+((c.toNat:Int)-48))=((acc*10+(c.toNat-48):Nat):Int):=zo;rw[List.foldl_cons,f] at h;have j:acc*10+(c.toNat-48)<=n:=by
   have key:∀ (l:Bs) (a:Nat),(∀ c∈l,P.digit c=G)->(a:Int)<=l.foldl (fun v c=>10*v+((c.toNat:Int)-48)) (a:Int):=by
    intro l;induction l with
    | nil=>grind
    | cons x l ih=>
     intro a b;have hx:48<=x.toNat/\x.toNat<=57:=by grind [P.digit,a3S]
     have e:(10*(a:Int)+((x.toNat:Int)-48))=((a*10+(x.toNat-48):Nat):Int):=zo;rw[List.foldl_cons,e];have:=ih (a*10+(x.toNat-48)) zg;omega
   have:=key r (acc*10+(c.toNat-48)) zg;omega
  have ih:=atN r (acc*10+(c.toNat-48)) n zg h d;rw[Go.Lib.parseUint10];grind
def atO(a:n<9223372036854775809):Go.Lib.parseMag (di n) = .ok n:=by
 unfold Go.Lib.parseMag;rw[bU (by grind [ao6])];exact atN _ 0 n (Lr _ _) (UB n) a
theorem atP{z:Int}(h:-9223372036854775808<=z/\z<=9223372036854775807):a5w (jc z) = .ok z:=by
 unfold jc;split
 .rename_i b;rw[Go.Lib.atoiAll_minus,atO zo];unfold Go.Lib.signed;grind
 .rename_i b;obtain⟨c,r,a,-⟩:=UA (z.natAbs+1) z.natAbs zo;have d:=Lr (z.natAbs+1) z.natAbs c (by rw[a];exact a3S);have e:48<=c.toNat/\c.toNat<=57:=by grind [P.digit]
  have hm:=atO (n:=z.natAbs) zo;unfold di at hm ⊢;rw[a] at hm ⊢;rw[Go.Lib.atoiAll_plain c r zo zo,hm];unfold Go.Lib.signless;grind
def Wz(h:Below w.heap.size w w'):Ext w w':=⟨h.os,h.tape,h.output,h.size,(by grind [bn,Below.block])⟩
def aTd(s:Bs)(w:Z)(h:s.length<=1000000)(d:Cf w):Calls bdX 100 #[aW s] w fun e w'=>Ext w w'/\∃ v b,e = ai (aq #[zi v,b])/\(-9223372036854775808<=v/\v<=9223372036854775807) /\
  ((b = aj/\a5w s = .ok v)\/((∃ t p,b = ak t p)/\∀ z,a5w s≠.ok z)):=by
 obtain⟨t1,p1,t2,p2,f,g⟩:=d;have i:(bs s).size<=1000000:=by show s.toArray.size<=_;omega
 cases a:a5w s with
 | ok v=>
  refine(Tryz.strconv_Atoi_ok (bs s) zo v a w).mono ?_;rintro e w' ⟨rfl,hw⟩;refine⟨?_,v,_,J,a6Z a,zg⟩;rcases hw with rfl | ⟨t,rfl⟩
  .exact yF
  grind [ady]
 | range=>
  refine(Tryz.strconv_Atoi_range (bs s) zo a _ w g zg).mono ?_;rintro e w' ⟨N,rfl,-,-,c⟩;refine⟨Wz c,_,_,J,?_,zg⟩;grind [Go.Lib.atoiSat]
 | _=>
  refine(Tryz.strconv_Atoi_syntax (bs s) zo a _ w f zg).mono ?_;rintro e w' ⟨N,rfl,-,-,c⟩;exact⟨Wz c,0,_,J,zo,zg⟩
def aTe(s:Bs)(w:Z)(h:s.length<=1000000)(d:Cf w):Calls bdX 135 #[aW s,zi 10,zi 64] w fun e w'=>Ext w w'/\∃ v b,e = ai (aq #[zi v,b])/\(-9223372036854775808<=v/\v<=9223372036854775807) /\
  ((b = aj/\a5w s = .ok v)\/((∃ t p,b = ak t p)/\∀ z,a5w s≠.ok z)):=by
 obtain⟨t1,p1,t2,p2,f,g⟩:=d;have i:(bs s).size<=1000000:=by show s.toArray.size<=_;omega
 have he:=Go.Lib.parseIntB_64 s;cases a:a5w s with
 | ok v=>
  rw[a] at he;refine(Tryz.strconv_ParseInt_10_at64_ok (bs s) zo v he w).mono ?_;rintro e w' ⟨rfl,hw⟩;refine⟨?_,v,_,J,a6Z a,zg⟩;rcases hw with rfl | ⟨t,rfl⟩
  .exact yF
  grind [ady]
 | range=>
  rw[a] at he;refine(Tryz.strconv_ParseInt_10_at64_range (bs s) zo he _ w g zg).mono ?_;rintro e w' ⟨N,rfl,-,-,c⟩;refine⟨Wz c,_,_,J,?_,zg⟩;grind [Go.Lib.intSat_64,Go.Lib.atoiSat,Lib.intSat_64]
 | _=>
  rw[a] at he;refine(Tryz.strconv_ParseInt_10_at64_syntax (bs s) zo he _ w f zg).mono ?_;rintro e w' ⟨N,rfl,-,-,c⟩;exact⟨Wz c,0,_,J,zo,zg⟩
def atQ{v:Int}(h:a5w s = .ok v):Ez s=if jc v=s then O v else none:=by
 by_cases he:jc v=s
 .rw[zip he,<- he,aff (a6Z h)]
 .rw[bU he];cases a:Ez s with
  | none=>rfl
  | some z=>
   obtain⟨b,c⟩:=YC a;grind [atP,absurd]
theorem atS(h:∀ z,a5w s≠.ok z):Ez s=none:=by
 cases a:Ez s with
 | none=>rfl
 | some z=>
  obtain⟨b,c⟩:=YC a;grind [atP,absurd]
def WA(k:Int)(w:Z):Calls bdX 70 #[zi k] w fun e w'=>Ext w w'/\nD 5 k w w' e:=by
 refine aP7 ?_;refine bG ?_;exact⟨yF,w.heap.size,J,yH,Nat.le_refl _⟩
theorem nD.ext{c a:Int}{e:Ending}(h:nD c a w w' e)(d:Ext w0 w):nD c a w0 w' e:=by
 obtain⟨b,f,g,i⟩:=h;exact⟨b,f,g,Nat.le_trans d.size i⟩
def Pq(s:Bs)(n:Nat)(k:Int)(w:Z)(o:s.length<=1000000)(D:n<=100000)(q:Cf w)(r:mj w):Calls bdX 73 #[.string (bs s),zi (n:Int),zi k] w fun e w'=>Ext w w'/\match jv s n with
  | some v=>e = ai (.int .i64 (v:Int))
  | none=>nD 5 k w w' e:=by
 suffices H:∀ R:Ending->Z->Prop,(∀ e w',(Ext w w'/\match jv s n with
  | some v=>e = ai (.int .i64 (v:Int))
  | none=>nD 5 k w w' e)->R e w')->Calls bdX 73 #[.string (bs s),.int .i64 (n:Int),.int .i64 k] w R from H _ yF
 intro R u;refine aP8 ?_;refine(aTd s w o q).mono ?_;rintro e w1 ⟨d,v,E,rfl,i,x⟩;have j:∀ w2,Ext w w2->jv s n=V->∀ K:Y->Z->Prop,Calls bdX 70 #[zi k] w2 (ends K (PC R)):=fun w2 a hu K=>by
  refine(WA k w2).mono ?_;rintro e w3 ⟨F,y⟩;have A:=y;obtain⟨b,rfl,I,L⟩:=A;exact u _ _ (by grind [bD.trans,nD.ext])
 rcases x with⟨rfl,l⟩| ⟨⟨t,p,rfl⟩,l⟩
 .refine bG ?_;refine⟨fun _ w'=>Ext w w'/\jv s n=O v.toNat/\0<=v,?_,?_⟩
  .refine⟨fun z w'=>Ext w w'/\∃ b,z 30 = .bool b/\(b=G->jv s n=V)/\(b=ae->jv s n=O v.toNat/\0<=v),?_,?_⟩
   .refine bG ?_;refine a3L (Lw v i.1 i.2 w1 (r.ext d)) ?_;rintro e w2 ⟨rfl,a⟩;have nh:=atQ l;have M:=d.trans a;by_cases c:jc v=s
    .rw[zip c] at nh;have hu:jv s n=if 0<=v/\v<n then O v.toNat else none:=by grind [jv]
     rw[c];by_cases f:v<0
     .refine cJ f ?_;exact yF
     .by_cases m:v ≥ (n:Int)
      .refine dA f m ?_;exact yF
      .refine dA f m ?_;exact yF
    .rw[bU c] at nh;have hu:jv s n=none:=by grind [jv]
     have g:¬ bs (jc v)=bs s:=zg;refine dA c g ?_;exact yF
   .rintro z w2 ⟨a,b,h,B,N⟩ C;rw[h];cases b with
    | true=>
     refine bG ?_;exact j w2 a (B J) _
    | false=>
     refine bG ?_;exact yF
  exact yF
 .have hu:jv s n=none:=by grind [jv,atS]
  refine bG ?_;refine⟨fun _ _=>False,?_,zg⟩;refine⟨fun z w'=>z 30 = .bool G/\w'=w1,?_,?_⟩
  .exact eR
  .rintro z w2 ⟨h,rfl⟩ C;rw[h];refine bG ?_;exact j w2 d hu _
abbrev Bh:Bs:=[33,34,35,36,37,38,39,40,41,42,43,44,45,46,47,48,49,50,51,52,53,54,55,56,57,58,59,60,61,62,63,64,65,66,67,68,69,70,71,72,73,74,75,76,77,78,79,80,81,82,83,84,85,86,87,88,89,90,91,92,93,94,95,96,97,98,99,100,101,102,103,104,105,106,107,108,109,110,111,112,113,114,115,116,117,118,119,120,121,122,123,124,125,126]
theorem aaB(x:UInt8):Bh.contains x=decide (33<=x/\x<=126):=by
 have h:∀ n:Fin 256,Bh.contains (UInt8.ofNat n.val)=decide (33<=UInt8.ofNat n.val/\UInt8.ofNat n.val<=126):=by decide +kernel
 have:=h ⟨x.toNat,x.toNat_lt⟩;simpa using this
theorem aiY{α:Type}{p:α->Bool}{c:α}:∀ {l:List α},c∈l->p c=ae->c∈l.dropWhile p
 | x::l,h,a=>by
  rw[List.dropWhile_cons];split
  .rename_i hx;rcases a3T.1 h with rfl | h
   .grind
   .exact aiY h a
  omega
theorem atT{α:Type}{p:α->Bool}:∀ {l:List α},(∀ c∈l,p c=G)->l.dropWhile p=[]
 | [],_=>rfl
 | x::l,h=>by
  rw[List.dropWhile_cons,zip (h x a3S)];exact atT zg
def aTg(l:Bs):a6d l Bh=[]↔l.all (fun c=>decide (33<=c/\c<=126))=true:=by
 unfold a6d Go.Lib.trimLeftS Go.Lib.trimRightS;constructor
 .intro h;rw[List.all_eq_true];intro c d;cases a:decide (33<=c/\c<=126) with
  | true=>rfl
  | false=>
   have b:c∈(l.reverse.dropWhile (Bh.contains ·)).reverse:=by
    grind [aiY,aaB]
   have e:=aiY (p:=(Bh.contains ·)) b (by rw[aaB];exact a);grind
 grind [List.all_eq_true,atT,aaB]
def aTh(s:Bs)(w:Z)(c:s.length<=1000000):Calls bdX 99 #[aW s,aW Bh] w fun e w'=>e = ai (aW (a6d s Bh))/\Ext w w':=by
 have d:(bs s).size<=1000000:=by show s.toArray.size<=_;omega
 refine(Any.strings_Trim_laid Tryz.lays160 zk (bs s) (bs Bh) w zo zd (fun j b a=>?_)).mono ?_
 .have hm:=List.mem_of_getElem? a;have:b∈Bh:=zo;have f:Bh.contains b=true:=zg;grind [aaB,UInt8.le_iff_toNat_le]
 .rintro e w' ⟨rfl,a⟩;exact⟨zg,Wz a⟩
def aiZ(s:Bs)(k:Int)(w:Z)(o:s.length<=1000000):Calls bdX 72 #[.string (bs s),zi k] w fun e w'=>Ext w w'/\match nI s with
  | some v=>e = ai (.string (bs v))
  | none=>nD 5 k w w' e:=by
 suffices H:∀ R:Ending->Z->Prop,(∀ e w',(Ext w w'/\match nI s with
  | some v=>e = ai (.string (bs v))
  | none=>nD 5 k w w' e)->R e w')->Calls bdX 72 #[.string (bs s),.int .i64 k] w R from H _ yF
 intro R p;have q:∀ w2,Ext w w2->nI s=V->∀ K:Y->Z->Prop,Calls bdX 70 #[zi k] w2 (ends K (PC R)):=fun w2 m hu K=>by
  refine(WA k w2).mono ?_;rintro e w3 ⟨E,t⟩;have u:=t;obtain⟨b,rfl,F,I⟩:=u;exact p _ _ (by grind [bD.trans,nD.ext])
 refine aP9 ?_;refine⟨fun _ w'=>Ext w w'/\nI s=O s,?_,?_⟩
 .refine bG ?_;refine⟨fun z w'=>Ext w w'/\∃ b,z 36 = .bool b/\(b=G->nI s=V)/\(b=ae->nI s=O s),?_,?_⟩
  .cases s with
   | nil=>
    refine bG ?_;exact⟨yF,G,J,fun _=>rfl,zg⟩
   | cons c r=>
    have x:nI (c::r)=if 10<(c::r).length\/P.digit c=G\/(c::r).all (fun c=>decide (33<=c/\c<=126))=ae\/(c=45/\r≠[]) then V else O (c::r):=rfl
    have g:decide (c::r=[])=false:=zs;by_cases L:10<(c::r).length
    .have a:(((c::r).length:Nat):Int) > 10:=zo;refine dA g a ?_;exact yF
    .have a:¬ (((c::r).length:Nat):Int) > 10:=zo;have y:∀ h:P.digit c=ae,(a6d (c::r) Bh≠[]->nI (c::r)=V)/\(a6d (c::r) Bh=[]->c=45->1<(c::r).length->nI (c::r)=V)/\(a6d (c::r) Bh=[]->(c≠45\/(c::r).length<=1)->nI (c::r)=O (c::r)):=fun h=>by
      have ht:=aTg (c::r);grind
     have d:(c::r).getD 0 0=c:=rfl;by_cases A:P.digit c=G
     .have M:48<=c.toNat/\c.toNat<=57:=by grind [P.digit]
      have f:(48:Int)<=(c.toNat:Int):=zo;have i:(c.toNat:Int)<=57:=zo;refine dG g a d (zA f i) ?_;exact yF
     .have h:P.digit c=false:=zg;obtain⟨N,Q,S⟩:=y h;have B:((48:Int)<=(c.toNat:Int)/\¬ (c.toNat:Int)<=57)\/¬ (48:Int)<=(c.toNat:Int):=by
       grind [P.digit]
      rcases B with⟨f,i⟩| f;all_goals
       first
        | simp (disch:=first|assumption|omega|simp only[zS]<;>omega|decide) only[zB,simprocAttr,kN,g,a,d,f,i]
        | simp (disch:=first|assumption|omega|simp only[zS]<;>omega|decide) only[zB,simprocAttr,kN,g,a,d,f]
       refine a3L (aTh (c::r) w o) ?_;rintro e w2 ⟨rfl,T⟩;by_cases j:a6d (c::r) Bh=[]
       .rw[j];by_cases n:c=45
        .have hx:(c.toNat:Int)=45:=by rw[n];rfl
         first
          | (exfalso;omega)
          | (simp (disch:=first|assumption|omega|simp only[zS]<;>omega|decide) only[zB,simprocAttr,kN,d,hx];exact yF)
        .have hx:¬ (c.toNat:Int)=45:=fun e=>n (UInt8.toNat_inj.1 (by show c.toNat=45;omega));refine dA d hx ?_;exact yF
       .have l:decide (a6d (c::r) Bh=[])=false:=by simpa using j
        refine dA l j ?_;exact yF
  .rintro z w2 ⟨m,b,C,D,U⟩ W;rw[C];cases b with
   | true=>
    refine bG ?_;exact q w2 m (D J) _
   | false=>
    refine bG ?_;exact yF
 exact yF
open Go.Proofs.YtoegidfbnkaabaaGreatDoor.Sx
section
variable{p0 p1 p2 p3 p4 p5 p6 p7:Y}{w:Z}{R:Ending->Z->Prop}
def aTj:=cz w R [p0,p1] (gc [] [] [4,8]) Tryz.func103
def aTk:=cz w R [p0,p1] (gc [(2,[8])] [] [9,16]) Tryz.func136
end
section
variable{p0 p1 p2 p3 p4 p5 p6 p7:Y}{w:Z}{R:Ending->Z->Prop}
def aTl:=cz w R [p0,p1,p2] (gd [(7,[35]),(11,[46])] [(4001,[]),(16001,[]),(26020,[]),(28000,[159]),(29001,[])] [] [(2,[0,1,2,3,0,4,5,6,7,8,9]),(13,[11,0,1,2,3,4,5,6,7,8,9,10,11,12]),(19,[14,0,1,2,3,4,5,6,7,8,9,10,11,12,13,14,15]),(25,[10,0,1,2,3,4,5,6,7,8,9,10,11]),(28,[0,0,1,2,3,4,5,6,7,8,9,10,11,12,13,14,15,16,17,18,19,20,21,22,23,24,25,26,27,28,29,30,31,33,34,35,32,36,37,38])] [] [] [9,14,26,27,28,36,41,47,66,70,71,87,88,96,97,105,106,120,121,157,158,159]) Tryz.func74
end
def aTm(s:Bs)(k:Int)(w:Z)(h:s.length<=1000000)(q:Cf w)(r:mj w):Calls bdX 102 #[.string (bs s),zi k] w fun e w'=>Ext w w'/\match BU s with
  | some t=>∃ cv,e = ai cv/\yA cv (O t)
  | none=>nD 5 k w w' e:=by
 suffices H:∀ R:Ending->Z->Prop,(∀ e w',(Ext w w'/\match BU s with
  | some t=>∃ cv,e = ai cv/\yA cv (O t)
  | none=>nD 5 k w w' e)->R e w')->Calls bdX 102 #[.string (bs s),.int .i64 k] w R from H _ yF
 intro R f;have u:∀ w2,Ext w w2->Ez s=V->∀ K:Y->Z->Prop,(∀ v w3,Ext w w3->BU s=O (.atom v)->K (aW v) w3)->Calls bdX 72 #[aW s,zi k] w2 (ends K (PC R)):=fun w2 a hu K x=>by
  refine(aiZ s k w2 h).mono ?_;rintro e w3 ⟨i,d⟩;have c:BU s=(nI s).map .atom:=by grind [BU]
  cases j:nI s with
  | some v=>
   rw[j] at d c;subst d;exact x v w3 yF c
  | none=>
   rw[j] at d c;have y:=d;obtain⟨b,rfl,C,D⟩:=y;exact f _ _ (by grind [bD.trans,nD.ext])
 refine aQa ?_;refine⟨fun _ w'=>Ext w w'/\Ez s=V,?_,?_⟩
 .refine(aTe s w h q).mono ?_;rintro e w1 ⟨A,v,E,rfl,l,B⟩;rcases B with⟨rfl,m⟩| ⟨⟨t,p,rfl⟩,m⟩
  .refine bG ?_;refine⟨fun z w'=>Ext w w'/\z 19 = .bool (decide (jc v=s)),?_,?_⟩
   .refine bG ?_;refine a3L (apE v l.1 l.2 w1 (r.ext A)) ?_;rintro e w2 ⟨rfl,a⟩;refine bG ?_;exact yF
   .rintro z w2 ⟨a,g⟩ n;have nh:=atQ m;rw[g];by_cases o:jc v=s
    .rw[zip o] at nh;have:decide (jc v=s)=true:=zg;rw[this];refine bG ?_;exact f _ _ ⟨a,by unfold BU;rw[nh];exact⟨_,J,J⟩⟩
    .rw[bU o] at nh;have:decide (jc v=s)=false:=zg;rw[this];refine bG ?_;exact yF
  .refine bG ?_;refine⟨fun z w'=>w'=w1/\z 19 = .bool ae,?_,?_⟩
   .exact eR
   .rintro z w2 ⟨rfl,g⟩ n;rw[g];refine bG ?_;grind [atS]
 .rintro z w2 ⟨a,hu⟩ n;refine u w2 a hu _ fun v w3 i c=>?_;refine bG ?_;exact f _ _ ⟨i,by rw[c];exact⟨_,J,J⟩⟩
def aTn{sh:Bs}(h:JY w mb v sh)(x:UInt8)(E:sh.length<=1000000):Calls bdX 103 #[v,.int .u8 (x.toNat:Int)] w fun e w'=>e = ai (.bool (sh.contains x))/\w'=w:=by
 suffices H:∀ R:Ending->Z->Prop,(∀ e w',(e = ai (.bool (sh.contains x))/\w'=w)->R e w')->Calls bdX 103 #[v,.int .u8 (x.toNat:Int)] w R from H _ zg;intro R s;refine aTj ?_;have j:Calls bdX 136 #[v,.int .u8 (x.toNat:Int)] w fun e w'=>w'=w/\∃ i:Int,e = ai (zi i)/\(decide (i ≥ 0)=sh.contains x):=by
  suffices H:∀ R:Ending->Z->Prop,(∀ e w',(w'=w/\∃ i:Int,e = ai (zi i)/\(decide (i ≥ 0)=sh.contains x))->R e w')->Calls bdX 136 #[v,.int .u8 (x.toNat:Int)] w R from H _ zg;intro R s;obtain⟨a,c,hv⟩:∃ a c,v = .slice a sh.length c:=by
   rcases h with⟨k,t⟩| ⟨b,p,-,k,-⟩<;>grind
  subst hv;refine aTk ?_;refine bG ?_;refine⟨fun m z w'=>∃ q,z 8=zi ((q:Nat):Int)/\q<=sh.length/\m=sh.length-q/\w'=w/\∀ y∈sh.take q,y≠x,⟨_,0,J,Nat.zero_le _,J,J,zs⟩,?_⟩;intro m z d w2 j;refine toPr ?_;obtain⟨q,l,F,rfl,rfl,I⟩:=j;by_cases K:q<sh.length
  .obtain⟨b,p,u,n⟩:∃ b z,a=O ⟨b,0,V⟩/\w2.heap[b]?=O (ah (uW sh).toArray 5 z):=by
    rcases h with⟨k,-⟩| ⟨b,p,-,k,-,t⟩<;>grind
   subst u;have g:((q:Nat):Int)<(sh.length:Int):=zo;have r:((q:Nat):Int).toNat=q:=zo;obtain⟨y,A⟩:=cj (sh[q]);have o:(uW sh).toArray[q]?=O (.int .u8 (y.toNat:Int)):=zg;obtain⟨B,C⟩:=cj ((uW sh).toArray);rw[<- C] at n o;by_cases D:y=x
   .have f:(x.toNat:Int)=(y.toNat:Int):=zg;refine dG l g n (zA o (zA @r f)) ?_;grind
   .have f:¬ (x.toNat:Int)=(y.toNat:Int):=(by grind [UInt8.toNat_inj]);refine dG l g n (zA o (zA @r f)) ?_;refine⟨_,?_,q+1,J,zo,J,?_⟩
    .omega
    grind [List.take_succ,List.getElem?_eq_getElem,Option.toList_some,List.mem_singleton]
  .have g:¬ ((q:Nat):Int)<(sh.length:Int):=zo;refine dA l g ?_;grind
 refine j.mono ?_;rintro e w2 ⟨rfl,i,rfl,hi⟩;refine bG ?_;grind
structure MI(base xb:Nat)(cv sv:Y)(w:Z)(i:P.In):Prop where
 cell:w.heap[xb]?=aO #[aW i.word,aW i.name,cv,sv] 198
 con:yA cv i.const
 row:w.ownsRow base 3 1 sv i.s.length (vi i.s)
abbrev MJ(base xb:Nat)(w w':Z):Prop:=bD (fun b _=>b=xb\/base<=b) w w'
theorem MI.ext{base xb:Nat}{cv sv:Y}{w w':Z}{i:P.In}(h:MI base xb cv sv w i)(a:Ext w w'):MI base xb cv sv w' i:=⟨a.ext _ _ h.cell,h.con,jK a.ext h.row⟩
def yA.cases{cv:Y}{c:Option Tm}(h:yA cv c):cv = aj\/∃ t u,cv = ak t u:=by
 cases c with
 | none=>exact .inl h
 | some t=>
  cases t with
  | atom s=>exact .inr ⟨_,_,h⟩
  | int s=>exact .inr ⟨_,_,h⟩
  | var i=>exact h.elim
  | comp s l=>exact h.elim
def ai1{cv:Y}{a:Option Addr}{i:P.In}(h:MI base xb cv (.slice a n c) w i)(D:base<=w.heap.size)(hx:xb<base)(E:i.s.length<=1000000)(s:Nat){K:Y->Z->Prop}
  (u:∀ a' l f w',w'.heap[xb]?=aO #[aW i.word,aW i.name,cv,.slice a n c] 198 ->
   MI base xb cv (.slice a' l f) (bR w' xb (ah #[aW i.word,aW i.name,cv,.slice a' l f] 198)) { i with s:=i.s++[s] } ->
   MJ base xb w (bR w' xb (ah #[aW i.word,aW i.name,cv,.slice a' l f] 198))->K (.slice a' l f) w') :
  WR bdX (a4e #[45,45] 45 #[.slice a n c,cS w.heap.size 1 1]) (w.alloc (ah #[zi (s:Int)] 3)) K X:=by
 have d:Ext w (w.alloc (ah #[zi (s:Int)] 3)):=yF;obtain⟨w1,x⟩:=cj (w.alloc (ah #[zi (s:Int)] 3));have g1:w1.heap[w.heap.size]?=aO #[zi (s:Int)] 3:=yH;rw[<- x] at d ⊢;have s1:=d.size;have m:=h.ext d;refine ahT m.row g1 J zo zo fun v' w' p j hv=>?_;obtain⟨a',f,rfl⟩:=gZ p;have y:∀ b o,b<base->w1.heap[b]?=O o->w'.heap[b]?=O o:=fun b o F fc=>by
  rw[j.block b (bn fc) (fun e=>?_)]
  .exact yH
  .rcases m.row.2 with⟨k,-⟩| ⟨g,cap,cur,k,q,-⟩
   .rw[k] at e;cases e
   .rw[k] at e;injection e with e;grind
 have t:=y _ _ hx m.cell;have z:=bn t;refine u _ _ _ _ t ⟨yH,h.con,?_⟩ ?_
 .have A:(i.s++[s]).length=i.s.length+1:=zs;have B:vi (i.s++[s])=vi i.s++[zi (s:Int)]:=zg;show World.ownsRow _ base 3 1 _ (i.s++[s]).length (vi (i.s++[s]));rw[A,B];refine⟨p.1,?_⟩;rcases p.2 with r | ⟨g,cap,cur,k,q,H,C⟩
  .exact yH
  .exact .inr ⟨g,cap,cur,k,q,yH,C⟩
 .have I:=j.size;refine bD.bR ⟨j.os.trans d.os,j.tape.trans d.tape,j.output.trans d.output,zo,fun b o fc L=>?_⟩ yH;exact yH
def P.aTo(slots:Nat)(x:UInt8)(r:Bs)(ws:List Bs)(i:P.In):kU slots (x::r) ws i=if x=42 then match uT slots ws with
  | some l=>O ({ i with s:=i.s++l },[])
  | none=>V
 else match ws with
  | []=>V
  | w::ws=>
   if x=115 then match jv w slots with
    | some s=>kU slots r ws { i with s:=i.s++[s] }
    | none=>V
   else if x=99 then match BU w with
    | some t=>kU slots r ws { i with const:=O t }
    | none=>V
   else if x=110 then match nI w with
    | some t=>kU slots r ws { i with name:=t }
    | none=>V
   else match jv w 10000 with
    | some s=>kU slots r ws { i with s:=i.s++[s] }
    | none=>none:=rfl
theorem P.atU(slots:Nat)(w:Bs)(ws:List Bs):qi slots (w::ws)=match kT w with
 | none=>V
 | some sh=>match kU slots sh ws ⟨w,[],V,[]⟩with
  | some (i,[])=>if ((w=[109,97,107,101]\/w=[115,112,108,105,116])/\i.s.length<2)\/(w=mD/\jx i.name≠i.s.length) then V else O i
  | _=>none:=rfl
