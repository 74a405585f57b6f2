/- A part of one proof (VT4, VT5, ShX3d, KG16, KG17). -/
import Derived.Test.YtoegidfbnkaabaaGreatDoorPkKBB
set_option linter.all false
set_option maxRecDepth 100000
set_option maxHeartbeats 8000000
open Option renaming some → O, none → V
open Go renaming Value → Y, World → Z
open Bool renaming true → A, false → ae
open Go.Obj renaming cells → ah
open Go.Ending renaming returned → ai
open Go.Value renaming nilIface → aj, iface → ak, tuple → aq, pointer → au
open Go.Calls renaming mono → a0C
open Nat renaming le_trans → a0E, zero_le → a0R
open List renaming getElem?_eq_getElem → a0F, length_append → a0H, drop_eq_getElem_cons → a0I, getElem_mem → a03, range → a09, append_assoc → a1b, length_singleton → a1j, take_length → a1H, modify_succ_cons → a1Q, take_add_one → a2E, flatten_append → a4a
open Go.Value.slice renaming injEq → a0S
open Go.Value renaming string → a0U, pointer → a1l
open Go.Exit renaming thenS → a1i
open UInt8 renaming toNat_inj → a1t
open Go.Proofs.Tryz renaming prog → baI
open Go.Proofs.Tryz
namespace Go.Proofs.YtoegidfbnkaabaaGreatDoor
open P
open Go.RowKit Sx
variable{R:Ending->Z->Prop}{fA b cap e j k mb n o pb told:Nat}{cs iK:Array Y}{o4 o5 tv u vv:Y}{out:Bs}{res:Z->Prop}{w:Z}{xs:List Y}
def P.aQJ(i:P.In)(x:UInt8)(r:Bs)(s:List Nat):uC i (x::r) s=if x=115\/x=112 then gw (s.headD 0)::uC i r s.tail else if x=99 then Cw i.const::uC i r s else if x=110 then i.name::uC i r s else s.map gw++uC i r s:=rfl
def P.arL:∀ (sh:Bs) (q:Nat) (a:q<sh.length),vF (sh.take (q+1))=vF (sh.take q)+(if sh[q]=115\/sh[q]=112 then 1 else 0)
 | x::r,0,_=>by simp [vF]
 | x::r,q+1,a=>by
  have:=P.arL r q zg;simp only[List.take_succ_cons,vF,List.getElem_cons_succ];omega
def P.arM:∀ (sh:Bs) (q:Nat),vF (sh.take q)<=vF sh
 | [],q=>zg
 | x::r,0=>by simp [vF]
 | x::r,q+1=>by have:=P.arM r q;simp only[List.take_succ_cons,vF];omega
theorem arN{w sh:Bs}(h:mT w=O sh):sh.length<=3:=by
 rcases PE h with⟨-,rfl⟩| ⟨-,rfl⟩| ⟨-,rfl⟩| ⟨-,rfl⟩| ⟨-,rfl⟩| ⟨-,rfl⟩| ⟨-,rfl⟩<;>decide
def aQK{a b c d:Y}(f:iK[o]?=O a)(g:iK[o+1]?=O b)(h:iK[o+2]?=O c)(j:iK[o+3]?=O d):(iK.toList.drop o).take 4=[a,b,c,d]:=by
 have e:∀ q,iK[q]?=iK.toList[q]?:=fun q=>by rw[Array.getElem?_toList]
 rw[e] at f g h j;apply List.ext_getElem?;intro i;rw[List.getElem?_take];grind
def arO{wb:Nat}{c:Co}(hc:rW w mb c)(G:qJ w wb out)(CR:∀ i∈c.ins,GN i/\DZ i)(hP:lP w)(hg:4<wb)(hlen:c.ins.length<=30000)(aY0:out.length<=500000000) :
  Calls baI 109 #[pp mb,pp wb] w fun e w'=>e = ai (aq #[])/\qJ w' wb (out++As c)/\jM wb w w':=by
 suffices H:∀ R:Ending->Z->Prop,(∀ e w',(e = ai (aq #[])/\qJ w' wb (out++As c)/\jM wb w w')->R e w')->Calls baI 109 #[pp mb,pp wb] w R from H _ zg;intro R hR;obtain⟨base,vb,iv,vv,gx,sb,cut,k,hM,rj,vX⟩:=hc;have pI:=hM.cell;have lwb:wb<w.heap.size:=by
  obtain⟨_,_,_,E,_⟩:=G;exact yH
 obtain⟨pa,pc,zp⟩:=ij hM.row;have oc:=pI;rw[zp] at oc;have xg:k.ins.length=c.ins.length:=zg;refine aOz ?_;refine dB @ox.eq_1 oc ?_;refine⟨fun m z w'=>∃ j,z 18=zi ((j:Nat):Int)/\j<=c.ins.length/\m=c.ins.length-j/\qJ w' wb (out++((c.ins.take j).map GH).flatten)/\jM wb w w',⟨_,0,J,a0R _,J,zg,bD.refl _ _⟩,?_⟩;intro m z d w3 hI;refine toPr ?_;obtain⟨j,N,hj,rfl,h3,xS⟩:=hI;have QV:=xS.size;by_cases fD:j<c.ins.length
 .have Y5:=hM.bfr xS G.ty;have hP3:lP w3:=hP.bJ fun o ho=>xS.block _ _ ho (by
   rintro (e | ⟨e,-⟩)<;>omega)
  have nu:k.ins[j]?=O c.ins[j]:=zg;obtain⟨i,Uu⟩:=ck (c.ins[j]);rw[<- Uu] at nu;obtain⟨hwi,pM⟩:=CR i (by rw[Uu];exact a03 _);obtain⟨cv,sv,bl,q1,q2,q3,q4,D,Hm⟩:=Y5.ins.at nu;rcases Y5.row.2 with⟨f,E⟩| ⟨ib,aq7,cur,f,E,hib,h4,h5,Q,h7⟩
  .omega
  rw[zp] at f;simp only[a0S,true_and] at f;obtain⟨rfl,rfl⟩:=f;have AZ:∀ o,o<k.ins.length*4->cur[o]?=gx[o]?:=zg;have c0:cur[j*4]?=O (aW i.word):=zg;have c1:cur[j*4+1]?=O (aW i.name):=zg;have c2:cur[j*4+2]?=O cv:=zg;have c3:cur[j*4+3]?=O sv:=zg;have j8:((j:Nat):Int).toNat=j:=zo;have fE:((j:Nat):Int)<(k.ins.length:Int):=zo;have aY1:j*4+4<=cur.size:=zo;refine dL @ox.eq_1 N fE (zA hib (zA @j8 (zA @c0 (zA @c1 (zA @c2 @c3))))) ?_;have jg:cv = aj\/∃ t u,cv = ak t u:=by
   cases qx:i.const with
   | none=>rw[qx] at D;exact .inl D
   | some t=>
    rw[qx] at D;cases t with
    | atom s=>exact .inr ⟨_,_,D⟩
    | int s=>exact .inr ⟨_,_,D⟩
    | var i=>exact D.elim
    | comp s l=>exact D.elim
  obtain⟨I,L,DH⟩:∃ a c,sv = .slice a i.s.length c:=by
   rcases Hm with⟨f,E,-⟩| ⟨b,cap,cs,-,-,f,-⟩<;>grind
  subst DH;have K6:cv.oneCell'=true:=by rcases jg with rfl | ⟨_,_,rfl⟩<;>rfl
  rw[aQK c0 c1 c2 c3];rw[zip (show([a0U (bs i.word),aW i.name,cv,.slice I i.s.length L]:List Y).length=4/\([a0U (bs i.word),aW i.name,cv,.slice I i.s.length L]:List Y).all Value.oneCell'=A from⟨J,by simp [K6];exact⟨J,J,J⟩⟩)];have N1:oV #[a0U (bs []),aW [],aj,b9] 0 (Value.agg [a0U (bs i.word),aW i.name,cv,.slice I i.s.length L].toArray).cells.toList=#[aW i.word,aW i.name,cv,.slice I i.s.length L]:=by
   rcases jg with rfl | ⟨_,_,rfl⟩<;>rfl
  rw[N1];obtain⟨S,jw⟩:=ck (bT (w3.alloc (ah #[aW [],aW [],aj,b9] 198 (0,0))) w3.heap.size (ah #[aW i.word,aW i.name,cv,.slice I i.s.length L] 198));rw[<- jw];have gn:Ext w3 S:=yF;have g4:S.heap[w3.heap.size]?=aP #[aW i.word,aW i.name,cv,.slice I i.s.length L] 198:=yH;clear jw N1;obtain⟨xb,um⟩:=ck w3.heap.size;rw[<- um] at g4 ⊢;have TQ:Ext S S.drew:=yF;refine⟨fun w'=>Ext S w',TQ,?_⟩;refine cR (pp xb) (fun w' hS=>fj @ox.eq_1) ?_;refine cR (aW i.word) (fun w' hS=>by have h9:=hS.ext _ _ g4;have:=bn h9;exact lW @ox.eq_1 h9) ?_;refine a0C (aqN S.drew) ?_;rintro e F ⟨rq,sm,sl,rfl,hsm,U0,ahc⟩;have mZ:Ext S F:=yF;refine⟨mZ,?_⟩;obtain⟨sh,sX⟩:=ck ((mT i.word).getD []);have aQM:∀ {K:Y->Prop} {X:Y->Z->Prop},(∀ v,Jb F sm v sh->K v)->RD baI (Instr.lookup 240 (.map (O sm)) (aW i.word) ae) F K X:=fun hK=>by
   rw[K7 (k:=9) (e:=98) (z:=b9) zk zk zk U0.map i.word ae];have:=U0.find ahc i.word;cases hf:fP i.word sl 0 with
   | none=>
    rw[hf] at this;have this:mT i.word=none:=this;rw[this] at sX;exact hK _ (.inl ⟨sX,J⟩)
   | some p=>
    grind
  refine aQM fun Y6 Q2=>?_;have Bw:=gn.trans mZ;have aQN:sh.length<=3:=by
   grind [mT,arN]
  have ahd:∀ x∈sh,x=115\/x=112\/x=99\/x=110\/x=42:=by
   rw[sX];cases P9:mT i.word with
   | none=>simp
   | some s=>
    rw[Option.getD_some];rcases PE P9 with⟨-,rfl⟩| ⟨-,rfl⟩| ⟨-,rfl⟩| ⟨-,rfl⟩| ⟨-,rfl⟩| ⟨-,rfl⟩| ⟨-,rfl⟩<;>decide
  have aY2:vF sh<=i.s.length:=by rw[sX];exact hwi.wf
  have xP:99∈sh->∃ t,i.const=O t/\er t/\S6 t=true:=by rw[sX];exact hwi.cn
  have xf:=pM.qC;have aY3:=pM.small;have yV:=mZ.ext _ _ g4;have hP5:lP F:=(hP3.ext Bw);have hT:GH i=mS i.word (uC i sh i.s):=by rw[sX];rfl
  obtain⟨Y7,shc,ahe⟩:∃ a c,Y6 = .slice a sh.length c:=by
   rcases Q2 with⟨f,E⟩| ⟨b,zz,-,f,-⟩<;>grind
  subst ahe;refine cM @ox.eq_1 ?_;refine⟨fun m z w'=>∃ q n ls v1,z 27=zi ((q:Nat):Int)/\z 7=zi ((n:Nat):Int)/\z 6=v1/\q<=sh.length/\m=sh.length-q/\Ext F w'/\Dd F.heap.size w' v1 ls/\uC i sh i.s=ls++uC i (sh.drop q) (i.s.drop n)/\n=vF (sh.take q)/\ls.length<=10*q,
   ⟨_,0,0,[],_,J,J,J,a0R _,J,yF,Dd.nil,J,J,a0R _⟩,?_⟩
  intro m z1 d1 w6 hI;refine toPr ?_;obtain⟨q,n,ls,v1,T,h7,Q,hq,rfl,j4,eU,C,hn,GL⟩:=hI;have Ei:=Bw.trans j4;have pN:=j4.ext _ _ yV;have lx6:=bn pN;obtain⟨ra,rc,rfl⟩:=ij eU;have vn:lP w6:=hP5.ext j4;by_cases U1:q<sh.length
  .have yu:((q:Nat):Int).toNat=q:=zo;have Yy:((n:Nat):Int).toNat=n:=zo;have rv:((q:Nat):Int)<(sh.length:Int):=zo;obtain⟨shb,shz,mM,Ho⟩:∃ b z,Y7=O ⟨b,0,V⟩/\F.heap[b]?=O (ah (uF sh).toArray 5 z):=by
    rcases Q2 with⟨f,-⟩| ⟨b,zz,-,f,-,E⟩<;>grind
   subst mM;have U:=j4.ext _ _ Ho;obtain⟨x,YR⟩:=ck (sh[q]);have jJ:(uF sh).toArray[q]?=O (.int .u8 (x.toNat:Int)):=zg;have Oj:sh.drop q=x::sh.drop (q+1):=by grind [a0I]
   have Al:=P.arL sh q U1;have aY4:=P.arM sh (q+1);rw[<- YR] at Al;have Ce:x∈sh:=zg;obtain⟨B,hB⟩:=ck ((uF sh).toArray);rw[<- hB] at U jJ;rw[Oj,P.aQJ] at C;have sJ:=ahd x Ce;by_cases qz:x=115\/x=112
   .rw[zip qz] at Al C;have KF:n<i.s.length:=zo;have hhd:(i.s.drop n).headD 0=i.s[n]:=by grind [a0I]
    have tF:(i.s.drop n).tail=i.s.drop (n+1):=by rw[List.tail_drop]
    rw[hhd,tF] at C;obtain⟨svb,IX,W,ahh,ahi⟩:∃ b cs,I=O ⟨b,0,V⟩/\w3.heap[b]?=aP cs 3/\cs[n]?=O (zi ((i.s[n]:Nat):Int)):=by
     rcases Hm with⟨f,-,-⟩| ⟨b,cap,cs,-,-,f,E,h3,h4,h5⟩
     .exact yH
     .simp only[a0S,true_and] at f;refine⟨b,cs,f.1,E,?_⟩;have:=congrArg (fun l=>l[n]?) h5;grind
    subst W;have aQT:=Ei.ext _ _ ahh;have hni:((n:Nat):Int)<(i.s.length:Int):=zo;have vy:i.s[n]<100000:=(by grind [a03]);have hxI:((x.toNat:Int)=115/\x=115)\/(¬ (x.toNat:Int)=115/\(x.toNat:Int)=112):=by
     rcases qz with rfl | rfl<;>grind
    have aY5:∀ g:Z,g=w6->True:=zg;refine dL @ox.eq_1 T rv (zA U (zA jJ @yu)) ?_;refine⟨fun s oS=>s 32 = .bool A/\oS=w6,?_,?_⟩
    .rcases hxI with⟨e1,-⟩| ⟨e1,e2⟩
     .exact lW @ox.eq_1 @e1
     .exact JM @ox.eq_1 @e1 @e2
    .rintro s g ⟨CF,rfl⟩ dd;refine dL @ox.eq_1 CF pN (zA h7 (zA Q (zA aQT (zA ahi (zA hni @Yy))))) ?_;refine a0C (KE ((i.s[n]:Nat):Int) zo zo g vn) ?_;rintro e M ⟨rfl,ti⟩;rw[<- P.KD];refine dB @ox.eq_1 Q ?_;refine(eU.ext ti).push yF zo fun v9 w9 Ol ml=>?_;refine jt @ox.eq_1 h7 T ?_;refine⟨_,?_,q+1,n+1,ls++[gw i.s[n]],v9,zg,zg,zg,zo,J,ml,Ol,zg,zo,zg⟩;omega
   .rw[bO qz] at Al C;have Q3:¬ (x.toNat:Int)=115:=fun e=>qz (.inl (a1t.1 zg));have ahj:¬ (x.toNat:Int)=112:=fun e=>qz (.inr (a1t.1 zg));refine dL @ox.eq_1 T rv (zA U (zA jJ @yu)) ?_;refine⟨fun s oS=>s 32 = .bool ae/\oS=w6,?_,?_⟩
    .exact JM @ox.eq_1 Q3 ahj
    .rintro s g ⟨CF,rfl⟩ dd;by_cases vG:x=99
     .rw[zip vG] at C;have rD:(x.toNat:Int)=99:=by rw[vG];rfl
      obtain⟨t,ht,NU,htc⟩:=xP (vG ▸ Ce);rw[ht] at D C;refine dL @ox.eq_1 CF rD pN ?_;obtain⟨M,LA⟩:=ck (bT ((g.alloc (ah #[b9,zi 9] 96)).alloc (ah #[au V,b9,au V,.map V] 103)) (g.heap.size+1) (ah #[au V,b9,pp g.heap.size,.map V] 103));rw[<- LA];have vT:Ext g M:=yF;have qS:M.heap[g.heap.size]?=aP #[b9,zi 9] 96:=yH;have qW:M.heap[g.heap.size+1]?=aP #[au V,b9,pp g.heap.size,.map V] 103:=yH;clear LA;rw[size_alloc];refine a0C (aQI D NU qS qW (vn.ext vT) zo zo zo) ?_;rintro e w9 ⟨rfl,ku,nm9,hB9⟩;have eh:Cw (O t)≠[]:=by
       cases t with
       | atom s=>unfold er at NU;exact NU.2
       | int z=>exact fun e=>by have:=aIP z;rw[show kX z=[] from e] at this;grind
       | var _=>exact D.elim
       | comp _ _=>exact D.elim
      have tj:Ext g w9:=⟨ku.os.trans vT.os,ku.tape.trans vT.tape,ku.output.trans vT.output,a0E vT.size ku.size,fun b o G _=>ku.block _ _ (vT.ext _ _ G) (by
       have:=bn G;rintro (h | h | ⟨h,-⟩)<;>omega)⟩
      refine cM @ox.eq_1 ?_;refine a0C (an1 hB9 eh) ?_;rintro e jA ⟨rfl,vp⟩;have aQZ:Ext g jA:=⟨vp.os.trans tj.os,vp.tape.trans tj.tape,vp.output.trans tj.output,a0E tj.size vp.size,fun b o G _=>vp.block _ _ (tj.ext _ _ G) (by
       have:=bn G;rintro (h | ⟨h,-⟩)<;>omega)⟩
      refine dB @ox.eq_1 Q ?_;refine(eU.ext aQZ).push yF zo fun v11 jE aQ0 vQ=>?_;refine jt @ox.eq_1 h7 T ?_;refine⟨_,?_,q+1,n,ls++[Cw (O t)],v11,zg,zg,zg,zo,J,vQ,aQ0,zg,zo,zg⟩;omega
     .rw[bO vG] at C;have U2:¬ (x.toNat:Int)=99:=fun e=>vG (a1t.1 zg);by_cases AE:x=110
      .rw[zip AE] at C;have rD:(x.toNat:Int)=110:=by rw[AE];rfl
       refine dL @ox.eq_1 CF U2 (zA rD (zA pN Q)) ?_;refine eU.push j4 zo fun v9 w9 Ol ml=>?_;refine jt @ox.eq_1 h7 T ?_;refine⟨_,?_,q+1,n,ls++[i.name],v9,zg,zg,zg,zo,J,ml,Ol,zg,zo,zg⟩;omega
      .rw[bO AE] at C;have ahk:¬ (x.toNat:Int)=110:=fun e=>AE (a1t.1 zg);have Q4:x=42:=by
        grind
       have rD:(x.toNat:Int)=42:=by rw[Q4];rfl
       have hnI:((n:Nat):Int)<=(i.s.length:Int):=zo;refine dL @ox.eq_1 CF U2 (zA ahk (zA rD (zA pN h7))) ?_;rw[Yy];obtain⟨sa',iW,hsx⟩:∃ sa',sliced I n i.s.length L 1 = .slice sa' (i.s.length-n) (L-n)/\(n<i.s.length->∃ b cs,sa'=O ⟨b,n,V⟩/\w3.heap[b]?=aP cs 3/\∀ y (hy:y<i.s.length),cs[y]?=O (zi ((i.s[y]:Nat):Int))):=by
        refine⟨_,J,fun xQ=>?_⟩;rcases Hm with⟨f,-,-⟩| ⟨b,cap,cs,-,-,f,E,h3,h4,h5⟩
        .exact yH
        .simp only[a0S,true_and] at f;obtain⟨rfl,rfl⟩:=f;refine⟨b,cs,?_,E,fun y hy=>?_⟩
         .rw[bO zo];simp [Addr.add];omega
         .have:=congrArg (fun l=>l[y]?) h5;grind
       rw[iW];refine dB @ox.eq_1 Q ?_;refine⟨fun m z w'=>∃ p v2,z 73=zi ((p:Nat):Int)/\z 6=v2/\p<=i.s.length-n/\m=i.s.length-n-p/\Ext F w'/\Dd F.heap.size w' v2 (ls++((i.s.drop n).take p).map gw),
        ⟨_,0,_,J,J,a0R _,J,j4,(by show Dd _ _ (.slice _ _ _) _;exact yH)⟩,?_⟩
       intro m z2 d2 M hI;refine toPr ?_;obtain⟨p,v2,h73,h62,hp,rfl,ti,Y8⟩:=hI;by_cases jT:p<i.s.length-n
       .obtain⟨svb,IX,W,ahh,ahi⟩:=hsx zo;subst W;have aQ2:=(Bw.trans ti).ext _ _ ahh;have hnp:n+p<i.s.length:=zo;have vy:i.s[n+p]<100000:=(by grind [a03]);have nH:=ahi (n+p) hnp;have epn:((p:Nat):Int).toNat=p:=zo;have zb:((p:Nat):Int)<(((i.s.length-n:Nat):Nat):Int):=zo;refine dL @ox.eq_1 h73 zb (zA aQ2 (zA nH @epn)) ?_;refine a0C (KE ((i.s[n+p]:Nat):Int) zo zo M (hP5.ext ti)) ?_;rintro e w9 ⟨rfl,ml⟩;rw[<- P.KD];obtain⟨ra2,rc2,rfl⟩:=ij Y8;refine dB @ox.eq_1 h62 ?_;refine(Y8.ext ml).push yF zg fun v10 jA aro C7=>?_;refine dB @ox.eq_1 h73 ?_;refine⟨_,?_,p+1,v10,zg,zg,zo,J,C7,?_⟩
        .omega
        grind [a2E,a0F,a1b]
       .have Hi:p=i.s.length-n:=zo;subst Hi;have zb:¬ (((i.s.length-n:Nat):Nat):Int)<(((i.s.length-n:Nat):Nat):Int):=zo;have e:(i.s.drop n).take (i.s.length-n)=i.s.drop n:=zg;rw[e] at Y8;refine dL @ox.eq_1 h73 zb T ?_;refine⟨_,?_,q+1,n,ls++(i.s.drop n).map gw,v2,zg,zo,zo,zo,J,ti,Y8,zg,zo,zg⟩;omega
  .have Em:q=sh.length:=zo;subst Em;have rv:¬ (sh.length:Int)<(sh.length:Int):=zo;rw[List.drop_length] at C;have C:uC i sh i.s=ls:=by grind [uC]
   refine dL @ox.eq_1 T rv (zA pN Q) ?_;have h6b:=(h3.ext Ei);have tF:(((c.ins.take j).map GH).flatten).length<=60*j:=by
    have key:∀ l:List P.In,(∀ i∈l,DZ i)->((l.map GH).flatten).length<=60*l.length:=by
     intro l;induction l with
     | nil=>grind
     | cons a r ih=>
      intro h;have f:=adI (h a List.mem_cons_self);grind
    grind
   have lX:=adI pM;rw[hT,C] at lX;unfold mS at lX;rw[Y3] at lX;simp only[a0H,List.length_cons,List.length_nil] at lX;refine a0C (Y4 h6b eU.sl zo zg) ?_;rintro e M ⟨rfl,h8,Jl⟩;refine dB @ox.eq_1 N ?_;have aQ5:jM wb w3 M:=(bD.ed Ei).trans Jl;refine⟨_,?_,j+1,zg,zo,J,?_,xS.trans aQ5⟩
   .omega
   grind [a2E,a0F,a4a,a1b]
 .have fD:j=c.ins.length:=zo;subst fD;have fE:¬ (c.ins.length:Int)<(k.ins.length:Int):=zo;rw[a1H] at h3;refine jt @ox.eq_1 N fE ?_;exact hR _ _ ⟨J,h3,xS⟩
def Y9(w:Z)(pb:Nat)(p:Pd):Prop:=∃ a fX,w.heap[pb]?=aP #[aW p.name,zi (p.arity:Int),a] 213/\fO (fun _=>True) w 185 a fX/\fX.length=p.clauses.length /\
 ∀ (j:Nat) (c:Co),p.clauses[j]?=O c->∃ mb,fX[j]?=O (pp mb)/\rW w mb c
theorem Y9.ext{w w':Z}{pb:Nat}{p:Pd}(h:Y9 w pb p)(a:Ext w w'):Y9 w' pb p:=by
 obtain⟨b,fX,c,d,e,f⟩:=h;exact⟨b,fX,a.ext _ _ c,d.mono zg (by grind [bD.ext]),e,(by grind [rW.ext])⟩
def Za{α:Type}(f:α->Bs)(l:List α)(j:Nat):(((l.take j).map f).flatten).length<=((l.map f).flatten).length:=by
 grind [List.take_append_drop,a4a,a0H]
theorem Zb{α:Type}(f:α->Bs){l:List α}(a:j<l.length):((l.take (j+1)).map f).flatten=((l.take j).map f).flatten++f l[j]:=by
 grind [a2E,a0F,a4a]
def sl2{a b:Bs}:fO (fun _=>True) (w.alloc (ah #[aW a,aW b] 9)) 9 (cU w.heap.size 2 2) ([a,b].map fun s=>aW s):=
 .inr ⟨w.heap.size,_,J,trivial,yH,Nat.le_refl _,J⟩
def sl1{a:Bs}:fO (fun _=>True) (w.alloc (ah #[aW a] 9)) 9 (cU w.heap.size 1 1) ([a].map fun s=>aW s):=
 .inr ⟨w.heap.size,_,J,trivial,yH,Nat.le_refl _,J⟩
def aho(f:Bs)(l:List Bs):(mS f l).length=f.length+(yt l).length+1:=by
 grind [mS,Y3,a0H]
def aQ7{l:List Pd}{ask:Co}(I:fO (fun _=>True) w 211 tv xs)(jT:xs.length=l.length)(Zc:∀ (j:Nat) (p:Pd),l[j]?=O p->∃ pb,xs[j]?=O (pp pb)/\Y9 w pb p)(PB:rW w fA ask)
  (dj:∀ p∈l,∀ c∈p.clauses,Aw c/\∀ i∈c.ins,GN i) (IQ:Aw ask/\∀ i∈ask.ins,GN i) (kU:∀ p∈l,p.arity<=1000) (xf:∀ p∈l,p.clauses.length<=1000) (hl:l.length<=1000) (ht:told<=1000) (r:lP w) (hlen:(y8 l ask told).length<=400000000) :
  Calls baI 81 #[tv,pp fA,zi (told:Int)] w fun e w'=>e = ai (aW (y8 l ask told))/\Ext w w':=by
 suffices H:∀ R:Ending->Z->Prop,(∀ e w',(e = ai (aW (y8 l ask told))/\Ext w w')->R e w')->Calls baI 81 #[tv,pp fA,zi (told:Int)] w R from H _ yF;intro R hR;obtain⟨la,lc,rfl⟩:=I.sl;have hgp:4<w.heap.size:=by
  have:=r;unfold lP Lib.TabIs World.var? at this;rw[ad0] at this;simp only[Option.bind_some] at this;rcases Nat.lt_or_ge 4 w.heap.size with h | h
  .exact h
  .rw[Array.getElem?_eq_none h] at this;cases this
 have uA:(y8 l ask told).length=((l.map wZ).flatten).length+(mS [113,117,101,114,121] [gw ask.slots,gw told]).length+(As ask).length:=by grind [y8,a0H]
 refine aOA ?_;refine bF ?_;obtain⟨wb,rK⟩:=ck w.heap.size;obtain⟨w1,jS⟩:=ck (w.alloc (ah #[au V,b9] 100));rw[<- jS,<- rK];have s:Ext w w1:=yF;have hB1:qJ w1 wb []:=⟨au V,b9,.inl J,yH,World.ownsRow_nil _ _ _ _⟩;clear jS;have t:∀ {w'},jM wb w1 w'->Ext w w':=fun{w'} u=>⟨u.os.trans s.os,u.tape.trans s.tape,u.output.trans s.output,a0E s.size u.size,fun b o hb _=>u.block _ _ (s.ext _ _ hb) (by
  have:=bn hb;rintro (h | ⟨h,-⟩)<;>omega)⟩
 have hTb:∀ {w'},jM wb w1 w'->lP w':=(by grind [lP.ext]);have hg:4<wb:=zo;refine⟨fun m z w'=>∃ j,z 14=zi ((j:Nat):Int)/\j<=l.length/\m=l.length-j/\qJ w' wb (((l.take j).map wZ).flatten)/\jM wb w1 w',⟨_,0,J,a0R _,J,zg,bD.refl _ _⟩,?_⟩;intro m z d w3 K;refine toPr ?_;obtain⟨j,L,hj,rfl,M,N⟩:=K;have D:=t N;have hft:=Za wZ l j;by_cases E:j<l.length
 .obtain⟨pb,lH,x⟩:=Zc j l[j] zg;obtain⟨g,cs,e3,e4,e5,e6⟩:=I.at' (j:=j) zo;simp only[a0S,true_and] at e3;obtain⟨rfl,rfl⟩:=e3;rw[lH] at e6;obtain⟨p,Q⟩:=ck (l[j]);rw[<- Q] at x;have S:p∈l:=zg;have j8:((j:Nat):Int).toNat=j:=zo;have T:((j:Nat):Int)<(xs.length:Int):=zo;have g3:=D.ext _ _ e5;obtain⟨U3,fX,q1,q2,q3,q4⟩:=id x;obtain⟨cla,clc,rfl⟩:=q2.sl;have QC:=D.ext _ _ q1;have dE:Ext w3 w3.drew:=yF;have kU:=kU p S;have SL:=xf p S;refine dL L T @g3 (zA @e6 @j8) ?_;refine⟨fun w'=>Ext w3 w',dE,?_⟩;rw[jF];refine cR (pp pb) (fun w' hS=>eS) ?_;refine cR (aW p.name) (fun w' hS=>by have U:=hS.ext _ _ QC;have:=bn U;exact fj U) ?_;refine cM @QC ?_;refine a0C (KE (p.arity:Int) zo zo w3.drew (by grind [lP.ext])) ?_;rintro e W ⟨rfl,X⟩;have gn:=dE.trans X;rw[<- P.KD];refine⟨gn,?_⟩;refine bF ?_;have y:Ext w3 (W.alloc (ah #[aW p.name,aW (gw p.arity)] 9)):=gn.alloc _;have hpt:=Za wZ l (j+1);rw[Zb wZ E,<- Q,a0H] at hpt;have aZc:(wZ p).length=(mS [112,114,101,100] [p.name,gw p.arity]).length+((p.clauses.map fun c=>mS [99,108,97,117,115,101] [gw c.slots]++As c).flatten).length:=by grind [wZ,a0H]
  have aRa:=aho [112,114,101,100] [p.name,gw p.arity];refine a0C (Y4 (M.ext y) sl2 zs zo) ?_;rintro e w5 ⟨rfl,h5,aRb⟩;have SQ:jM wb w1 w5:=N.trans ((bD.ed y).trans aRb);have rq:=t SQ;have q15:=rq.ext _ _ q1;refine cM @q15 ?_;refine⟨fun m z w'=>∃ q,z 34=zi ((q:Nat):Int)/\q<=p.clauses.length/\m=p.clauses.length-q/\qJ w' wb (((l.take j).map wZ).flatten++mS [112,114,101,100] [p.name,gw p.arity]++((p.clauses.take q).map fun c=>mS [99,108,97,117,115,101] [gw c.slots]++As c).flatten)/\jM wb w1 w',
   ⟨_,0,J,a0R _,J,zg,SQ⟩,?_⟩
  intro m z2 d2 F K;refine toPr ?_;obtain⟨q,a,hq,rfl,G,f⟩:=K;have n:=t f;have hfq:=Za (fun c=>mS [99,108,97,117,115,101] [gw c.slots]++As c) p.clauses q;by_cases U1:q<p.clauses.length
  .obtain⟨mb,jg,Cc⟩:=q4 q p.clauses[q] zg;obtain⟨g2,Fo,f3,f4,f5,f6⟩:=q2.at' (j:=q) zo;simp only[a0S,true_and] at f3;obtain⟨rfl,rfl⟩:=f3;rw[jg] at f6;obtain⟨c,Fz⟩:=ck (p.clauses[q]);rw[<- Fz] at Cc;have Dg:c∈p.clauses:=zg;obtain⟨Qe,YG⟩:=dj p S c Dg;have yu:((q:Nat):Int).toNat=q:=zo;have rv:((q:Nat):Int)<(fX.length:Int):=zo;have g6:=n.ext _ _ f5;obtain⟨base,vb,iv,vv,gx,sb,cut,k,hM,rj,vX⟩:=id Cc;have Jj:=(hM.ext n).cell;have I:=Qe.slots;refine dL a rv @g6 (zA @f6 (zA @yu Jj)) ?_;refine a0C (KE (k.slots:Int) zo zo F (r.ext n)) ?_;rintro e w7 ⟨rfl,Q5⟩;rw[<- P.KD,rj];refine bF ?_;have B:Ext F (w7.alloc (ah #[aW (gw c.slots)] 9)):=Q5.alloc _;have hcq:=Za (fun c=>mS [99,108,97,117,115,101] [gw c.slots]++As c) p.clauses (q+1);rw[Zb _ U1,<- Fz,a0H,a0H] at hcq;have aZe:=aho [99,108,97,117,115,101] [gw c.slots];refine a0C (Y4 (G.ext B) sl1 zs zg) ?_;rintro e w8 ⟨rfl,h8,C⟩;have Jl:jM wb w1 w8:=f.trans ((bD.ed B).trans C);have ti:=t Jl;refine bF ?_;refine a0C (arO (Cc.ext ti) h8 (by grind [Aw.ins]) (r.ext ti) hg Qe.len zg) ?_;rintro e w9 ⟨rfl,U,aRd⟩;refine cM a ?_;refine⟨_,?_,q+1,zg,zo,J,?_,Jl.trans aRd⟩
   .omega
   grind [Zb,a1b]
  .have Em:q=p.clauses.length:=zo;subst Em;have rv:¬ (p.clauses.length:Int)<(fX.length:Int):=zo;rw[a1H] at G;refine jt a rv L ?_;refine⟨_,?_,j+1,zg,zo,J,?_,f⟩
   .omega
   .rw[Zb wZ E,<- Q];rw[show wZ p=mS [112,114,101,100] [p.name,gw p.arity]++(p.clauses.map fun c=>mS [99,108,97,117,115,101] [gw c.slots]++As c).flatten from J,<- a1b];omega
 .have E:j=l.length:=zo;subst E;have T:¬ (l.length:Int)<(xs.length:Int):=zo;rw[a1H] at M;obtain⟨base,vb,iv,vv,gx,sb,cut,k,hM,rj,vX⟩:=id PB;have Y5:=(hM.ext D);have hc3:=Y5.cell;have has:=IQ.1.slots;refine jt L T hc3 ?_;refine a0C (KE (k.slots:Int) zo zo w3 (r.ext D)) ?_;rintro e W ⟨rfl,X⟩;refine bF ?_;refine a0C (KE (told:Int) zo zo W (by grind [lP.ext])) ?_;rintro e w5 ⟨rfl,mZ⟩;rw[<- P.KD,<- P.KD,rj];refine bF ?_;have Bw:=X.trans mZ;have Ei:Ext w3 (w5.alloc (ah #[aW (gw ask.slots),aW (gw told)] 9)):=Bw.alloc _;have aRa:=aho [113,117,101,114,121] [gw ask.slots,gw told];refine a0C (Y4 (M.ext Ei) sl2 zs zo) ?_;rintro e F ⟨rfl,G,aRe⟩;have f:jM wb w1 F:=N.trans ((bD.ed Ei).trans aRe);have n:=t f;refine bF ?_;refine a0C (arO (PB.ext n) G (by grind [Aw.ins]) (r.ext n) hg IQ.1.len zg) ?_;rintro e w7 ⟨rfl,h7,aRf⟩;have DK:=f.trans aRf;refine bF ?_;refine a0C (aPo h7 zg) ?_;rintro e w8 ⟨rfl,C⟩;refine bF ?_;exact hR _ _ ⟨J,yF⟩
open Go.Proofs.YtoegidfbnkaabaaGreatDoor.Sx
section
variable{p0 p1 p2 p3 p4 p5 p6 p7:Y}{w:Z}{R:Ending->Z->Prop}
def aRg:=cy w R [p0,p1] (gd [(5,[6,17])] [(12003,[6,11])] [(7,9)] [(12,[14,0,1,2,3,4,5,6,7,8,9,10,11,12,13,14]),(13,[18,0,1,2,3,4,5,6,7,8,9,10,11,12,13,14,15,16,17]),(15,[9,0,1,3,4,5,6,7,2,8,9,10])] [] [] [12,18,36,37,38]) func41
end
def aRh(v4 v5:Y)(w:Z):CallsD baI 79 #[v4,v5] .returning w fun e u' w'=>e = ai (aq #[])/\u' = .returning/\w'=w:=by
 refine callsD_of_wpS func79 J fun An cs hu=>?_;apply wpS_seq;apply wpS_region;simp [wpOpsS,go_sem,recoverD,hu,ntmps79,a1i,apl];apply wpS_seq;apply wpS_region;simp [wpOpsS,go_sem,recoverD,hu,ntmps79,a1i];refine wpS_cond (t:=false) (by simp [Act.eval]) ?_;simp only[Bool.false_eq_true,if_false];refine wpS_of_wp (wp_skip ?_);cases An;simp_all [bodyPostS,results,Tryz.results79]
def aRi(b4 b5:Nat)(o4 o5:Y)(xU:List PanicEntry)(w:Z)(h4:w.heap[b4]?=aP #[o4] 9)(h5:w.heap[b5]?=aP #[o5] 4)(eh:b4≠b5) :
  CallsD baI 79 #[pp b4,pp b5] (.panicking ({ v:=ak 27 (zi 4),recovered:=false }::xU)) w fun e u' w'=>
   e = ai (aq #[])/\u' = .panicking ({ v:=ak 27 (zi 4),recovered:=true }::xU)/\w'=bT (bT w b4 (ah #[aW []] 9 (0,0))) b5 (ah #[.bool ae] 4):=by
 have c4:w.cell? ⟨b4,0,V⟩=O o4:=Ek h4 J;have z4:=jO h4 0;have e1:w.setCell ⟨b4,0,V⟩ (aW [])=bT w b4 (ah #[aW []] 9 (0,0)):=uZ h4 _;obtain⟨w1,jS⟩:=ck (bT w b4 (ah #[aW []] 9 (0,0)));rw[<- jS] at e1;have Iy:w1.heap[b5]?=aP #[o5] 4:=yH;have c5:w1.cell? ⟨b5,0,V⟩=O o5:=Ek Iy J;have z5:=jO Iy 0;have e2:w1.setCell ⟨b5,0,V⟩ (.bool ae)=bT w1 b5 (ah #[.bool ae] 4):=uZ Iy _;have e1':w.setCell ⟨b4,0,V⟩ (.string { data:=#[] })=w1:=e1;refine callsD_of_wpS func79 J fun An cs hu=>?_;apply wpS_seq;apply wpS_region;simp [wpOpsS,go_sem,recoverD,hu,ntmps79,a1i,apm];apply wpS_seq;apply wpS_region;simp [wpOpsS,go_sem,recoverD,hu,ntmps79,a1i];refine wpS_cond (t:=true) (by simp [Act.eval]) ?_;simp only[if_true];apply wpS_region;simp [wpOpsS,go_sem,recoverD,hu,ntmps79,a1i,c4,z4,e1',c5,z5,e2];simp [bodyPostS,results,Tryz.results79,jS]
def aRk(h:res w) :
  LV baI res R [{ target:=.fn (.func 79) #[tv,vv],args:=#[]++#[] }] .returning w:=by
 refine BT zk zs ((aRh tv vv w).mono ?_);rintro e a w' ⟨rfl,rfl,rfl⟩;exact h
def aRl(a:w.heap[pb]?=aP #[o4] 9)
  (b:w.heap[cap]?=aP #[o5] 4) (c:pb≠cap)
  (h:res (bT (bT w pb (ah #[aW []] 9 (0,0))) cap (ah #[.bool ae] 4))) :
  LV baI res R [{ target:=.fn (.func 79) #[pp pb,pp cap],args:=#[]++#[] }]
   (.panicking [{ v:=ak 27 (zi 4),recovered:=false }]) w:=by
 refine BT zk zs ((aRi pb cap o4 o5 [] w a b c).mono ?_);rintro e d w' ⟨rfl,rfl,rfl⟩;exact h
def rX:Nat->List Pd->List (List UInt8×Y)
 | _,[]=>[]
 | i,p::r=>(P.keyOf p.name p.arity,.int .i64 (i:Int))::rX (i+1) r
def arX(p:Pd):∀ (l:List Pd) (i:Nat),rX i (l++[p])=rX i l++[(P.keyOf p.name p.arity,zi ((i+l.length:Nat):Int))]
 | [],i=>rfl
 | q::l,i=>by
  rw[List.cons_append,rX,rX,arX p l (i+1),List.cons_append,List.length_cons,show i+1+l.length=i+(l.length+1) from by omega]
def arY(x:Co):∀ (l:List Pd) (i k:Nat),rX i (l.modify k fun p=>{ p with clauses:=p.clauses++[x] })=rX i l
 | [],i,k=>zg
 | q::l,i,0=>by simp [rX]
 | q::l,i,k+1=>by rw[a1Q,rX,rX,arY x l (i+1) k]
def Zd{name:Bs}{n:Nat}(a:n<80)(x:Co):∀ (l:List Pd) (i j:Nat),(∀ p∈l,p.arity<80)->match fP (P.keyOf name n) (rX i l) j with
  | none=>rI name n x l=l++[⟨name,n,[x]⟩]
  | some (q,v)=>∃ k,q=j+k/\v = .int .i64 ((i+k:Nat):Int)/\k<l.length/\rI name n x l=l.modify k fun p=>{ p with clauses:=p.clauses++[x] }
 | [],i,j,_=>rfl
 | p::l,i,j,h=>by
  have d:=h p List.mem_cons_self;have ih:=Zd (name:=name) a x l (i+1) (j+1) zg;rw[rX,fP];by_cases hk:P.keyOf p.name p.arity=P.keyOf name n
  .rw[zip hk];obtain⟨e,f⟩:=(P.aeR d a).1 hk;exact⟨0,J,J,zs,by rw[rI,zip ⟨e,f⟩];rfl⟩
  .rw[bO hk];have b:¬ (p.name=name/\p.arity=n):=zg;cases c:fP (P.keyOf name n) (rX (i+1) l) (j+1) with
   | none=>
    rw[c] at ih;have ih:rI name n x l=l++[⟨name,n,[x]⟩]:=ih;show rI name n x (p::l)=_;rw[rI,bO b,ih];rfl
   | some g=>
    obtain⟨q,v⟩:=g;rw[c] at ih;obtain⟨k,o,r,s,m⟩:=ih;exact⟨k+1,zo,zg,zg,by rw[rI,bO b,m,a1Q]⟩
structure BG(ba:Nat)(w:Z)(v:Y)(qM:Nat->Nat)(rY:Nat->Y)(l:List Pd):Prop where
 row:w.ownsRow ba 211 1 v l.length ((a09 l.length).map fun i=>a1l (O ⟨qM i,0,V⟩))
 lo:∀ i,i<l.length->ba<=qM i
 cell:∀ (i:Nat) (p:Pd),l[i]?=O p->w.heap[qM i]?=aP #[aW p.name,zi ((p.arity:Nat):Int),rY i] 213
 cl:∀ (i:Nat) (p:Pd),l[i]?=O p->∃ fX:List Y,w.ownsRow ba 185 1 (rY i) p.clauses.length fX/\∀ (k:Nat) (c:Co),p.clauses[k]?=O c->∃ mb,fX[k]?=O (pp mb)/\rW w mb c
 ne:∀ i j,i<l.length->j<l.length->i≠j->qM i≠qM j
 nc:∀ i j,i<l.length->j<l.length->i≠j->∀ b,(rY i).ownBlock=O b->(rY j).ownBlock≠O b
section
variable{ba:Nat}{w w':Z}{v:Y}{qM:Nat->Nat}{rY:Nat->Y}{l:List Pd}
theorem BG.ext(h:BG ba w v qM rY l)(a:Ext w w'):BG ba w' v qM rY l:=
 ⟨jQ a.ext h.row,h.lo,(by grind [bD.ext,cell]),fun i p b=>let ⟨fX,c,d⟩:=h.cl i p b;⟨fX,jQ a.ext c,(by grind [rW.ext])⟩,h.ne,h.nc⟩
theorem rW.ahs{c:Co}(h:rW w mb c)(hk:∀ (b T:Nat) (cs:Array Y),T≠185->T≠213->T≠211->w.heap[b]?=aP cs T->w'.heap[b]?=aP cs T):rW w' mb c:=by
 obtain⟨base,vb,iv,vv,gx,sb,cut,k,h,a⟩:=h;refine⟨base,vb,iv,vv,gx,sb,cut,k,⟨(by grind [fM.cell]),h.lo,⟨h.row.1,?_⟩,h.ins.bJ yH,(by grind [fM.vars]),h.Je,h.sep,h.Jf⟩,a⟩;rcases h.row.2 with e | ⟨b,cap,cur,rfl,a,f,d⟩
 .exact yH
 .exact .inr ⟨b,cap,cur,J,a,yH,d⟩
theorem FP{size:Nat}(h:w.ownsRow ba e size u n xs)(hk:∀ (b:Nat) (cs:Array Y),u.ownBlock=O b->w.heap[b]?=aP cs e->w'.heap[b]?=aP cs e):w'.ownsRow ba e size u n xs:=by
 refine⟨h.1,?_⟩;rcases h.2 with f | ⟨b,cap,cur,rfl,a,c,d⟩
 .exact yH
 .exact .inr ⟨b,cap,cur,J,a,hk b cur J c,d⟩
def Ev{size:Nat}(h:w.ownsRow ba e size u n xs)(a:u.ownBlock=O b):ba<=b/\b<w.heap.size/\∃ cs,w.heap[b]?=aP cs e:=by
 rcases h.2 with⟨c,-⟩| ⟨g,cap,cur,c,d,f,-⟩
 .rw[c] at a;cases a
 .rw[c] at a;injection a with a;exact yH
theorem FQ{size:Nat}(a:w.ownsRow ba e size u n xs)(c:w.grownBy w' u.ownBlock){T:Nat}(g:T≠e)(d:w.heap[b]?=aP cs T):w'.heap[b]?=aP cs T:=by
 rw[c.block b (bn d) (fun f=>?_)]
 .omega
 .obtain⟨-,-,cs',h⟩:=Ev a f.symm;grind
def BG.new(h:BG ba w v qM rY l){nb:Nat}{name:Bs}(t:w.heap[nb]?=aP #[aW name,zi (n:Int),b9] 213)(u:ba<=nb)(x:∀ i,i<l.length->qM i≠nb)
  (y:w'.ownsRow ba 211 1 tv (l.length+1) (((a09 l.length).map fun i=>a1l (O ⟨qM i,0,V⟩))++[pp nb])) (r:w.grownBy w' v.ownBlock) :
  BG ba w' tv (fun i=>if i=l.length then nb else qM i) (fun i=>if i=l.length then b9 else rY i) (l++[⟨name,n,[]⟩]):=by
 have z:∀ {b T:Nat} {cs:Array Y},T≠211->w.heap[b]?=aP cs T->w'.heap[b]?=aP cs T:=fun s c=>FQ h.row r s c;have o:∀ i p,(l++[(⟨name,n,[]⟩:Pd)])[i]?=O p->(i<l.length/\l[i]?=O p)\/(i=l.length/\p=⟨name,n,[]⟩):=zg;refine⟨?_,fun i a=>?_,fun i p a=>?_,fun i p a=>?_,fun i j a m q=>?_,fun i j a m q b c=>?_⟩
 .have e:(a09 (l++[(⟨name,n,[]⟩:Pd)]).length).map (fun i=>a1l (O ⟨(if i=l.length then nb else qM i),0,V⟩))=((a09 l.length).map fun i=>a1l (O ⟨qM i,0,V⟩))++[pp nb]:=by
   rw[a0H,a1j,List.range_succ,List.map_append]
   congr 1
   .refine List.map_congr_left fun i a=>?_;grind
   grind
  grind
 .simp only[a0H,a1j] at a;by_cases d:i=l.length
  .grind
  .simp only[bO d];grind [lo]
 .rcases o i p a with⟨g,f⟩| ⟨g,f⟩
  .simp only[bO (show i≠l.length by omega)];grind [cell]
  exact yH
 .rcases o i p a with⟨g,f⟩| ⟨g,f⟩
  .simp only[bO (show i≠l.length by omega)];obtain⟨fX,g1,g2⟩:=h.cl i p f;exact⟨fX,(by grind [FP]),(by grind [rW.ahs])⟩
  .subst g f;simp only[if_true];exact⟨[],⟨J,yH⟩,zg⟩
 .simp only[a0H,a1j] at a m;by_cases d:i=l.length
  .grind
  .by_cases k:j=l.length
   .grind
   .simp only[bO d,bO k];grind [ne]
 .simp only[a0H,a1j] at a m;by_cases d:i=l.length
  .simp only[zip d] at c;cases c
  .simp only[bO d] at c;by_cases k:j=l.length
   .simp only[zip k];exact fun e=>by cases e
   .simp only[bO k];exact h.nc i j zo zo q b c
def BG.push(h:BG ba w v qM rY l){p:Pd}{c:Co}(hk:l[k]?=O p)(t:w.ownsRow ba 185 1 (rY k) p.clauses.length xs)(I:∀ (k:Nat) (c:Co),p.clauses[k]?=O c->∃ mb,xs[k]?=O (pp mb)/\rW w mb c)
  (K:rW w mb c) (L:w'.ownsRow ba 185 1 tv (p.clauses.length+1) (xs++[pp mb])) (u:w.grownBy w' (rY k).ownBlock) (n:tv.ownBlock=(rY k).ownBlock\/∀ j,tv.ownBlock=O j->w.heap.size<=j) :
  BG ba (bT w' (qM k) (ah #[aW p.name,zi (p.arity:Int),tv] 213)) v qM (fun i=>if i=k then tv else rY i) (l.modify k fun p=>{ p with clauses:=p.clauses++[c] }):=by
 have y:k<l.length:=by
  grind
 have z:∀ {b T:Nat} {cs:Array Y},T≠185->w.heap[b]?=aP cs T->w'.heap[b]?=aP cs T:=(by grind [FQ]);have B:=z zd (h.cell k p hk);have C:=bn B;obtain⟨w2,D⟩:=ck (bT w' (qM k) (ah #[aW p.name,zi (p.arity:Int),tv] 213));rw[<- D];have hu:∀ {b T:Nat} {cs:Array Y},(T≠213\/b≠qM k)->w'.heap[b]?=aP cs T->w2.heap[b]?=aP cs T:=yH;have o:∀ i x,(l.modify k fun p=>{ p with clauses:=p.clauses++[c] })[i]?=O x->(i≠k/\l[i]?=O x)\/(i=k/\x={ p with clauses:=p.clauses++[c] }):=zg;have E:∀ {mb c},rW w mb c->rW w2 mb c:=(by grind [rW.ahs]);refine⟨?_,fun i d=>h.lo i zg,fun i x d=>?_,fun i x d=>?_,(by grind [ne]),fun i j d F M b f=>?_⟩
 .rw[List.length_modify];exact FP h.row yH
 .rcases o i x d with⟨a,g⟩| ⟨a,g⟩
  .simp only[bO a];grind [Nat.lt_or_ge,List.getElem?_eq_none,ne,cell]
  exact yH
 .rcases o i x d with⟨a,g⟩| ⟨a,g⟩
  .simp only[bO a];have G:i<l.length:=by
    grind
   obtain⟨r,g1,g2⟩:=h.cl i x g;refine⟨r,FP g1 fun b cs f hx=>hu zg ?_,zg⟩;rw[u.block b (bn hx) (fun e=>h.nc i k G y a b f e.symm)];exact hx
  .subst a g;simp only[if_true];refine⟨xs++[pp mb],?_,fun q x s=>?_⟩
   .grind [a0H,a1j,FP]
   .have s:(p.clauses++[c])[q]?=O x:=s;have N:xs.length=p.clauses.length:=by have:=t.1;omega
    grind
 .rw[List.length_modify] at d F;have hold:∀ i j,i<l.length->j=k->i≠k->∀ b,(rY i).ownBlock=O b->tv.ownBlock≠O b:=fun i j d _ m b f e=>by
   rcases n with n | n
   .grind [nc]
   .have a:=n b e;obtain⟨r,g1,-⟩:=h.cl i l[i] zg;have:=(Ev g1 f).2.1;omega
  by_cases m:i=k
  .grind
  .simp only[bO m] at f;by_cases H:j=k
   .grind
   .simp only[bO H];grind [nc]
end
