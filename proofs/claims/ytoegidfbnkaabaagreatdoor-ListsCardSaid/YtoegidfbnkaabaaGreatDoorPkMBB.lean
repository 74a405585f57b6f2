/- A part of one proof (VT4, VT5, ShX3d, KG16, KG17). -/
import Derived.Test.YtoegidfbnkaabaaGreatDoorPkMBA
set_option linter.all false
set_option maxRecDepth 100000
set_option maxHeartbeats 8000000
open Option renaming some → O, none → V
open Go renaming Value → Y, World → Z
open Bool renaming true → G, false → ae
open Go.Obj renaming cells → ah
open Go.Ending renaming returned → ai
open Go.Value renaming nilIface → aj, iface → ak, tuple → aq, pointer → au
open Go.Calls renaming mono → a3L
open List renaming length_append → a3M, getElem?_eq_getElem → a3P, drop_eq_getElem_cons → a3U, append_assoc → a36, range → a4g, getElem_mem → a4h, length_singleton → a4v, take_length → a4Q, modify_succ_cons → a44, take_add_one → a5i, flatten_append → a7k
open Nat renaming le_trans → a3Q, zero_le → a33
open Go.Value.slice renaming injEq → a34
open Go.Value renaming string → a4a, pointer → a4x
open Go.Exit renaming thenS → a4t
open UInt8 renaming toNat_inj → a4G
open Go.Proofs.Tryz renaming prog → bdW
open Go.Proofs.Tryz
namespace Go.Proofs.YtoegidfbnkaabaaGreatDoor
open P
open Go.RowKit Sx
variable{R:Ending->Z->Prop}{fw b e j k k' mb n o pb told wb:Nat}{cs iF:Array Y}{o4 o5 tv u vv:Y}{out:Bs}{res:Z->Prop}{w:Z}{xs:List Y}
def P.aSc(i:P.In)(x:UInt8)(r:Bs)(s:List Nat):pM i (x::r) s=if x=115\/x=112 then di (s.headD 0)::pM i r s.tail else if x=99 then Dd i.const::pM i r s else if x=110 then i.name::pM i r s else s.map di++pM i r s:=rfl
def P.atf:∀ (sh:Bs) (q:Nat) (a:q<sh.length),vS (sh.take (q+1))=vS (sh.take q)+(if sh[q]=115\/sh[q]=112 then 1 else 0)
 | x::r,0,_=>by simp [vS]
 | x::r,q+1,a=>by
  have:=P.atf r q zg;simp only[List.take_succ_cons,vS,List.getElem_cons_succ];omega
def P.atg:∀ (sh:Bs) (q:Nat),vS (sh.take q)<=vS sh
 | [],q=>zg
 | x::r,0=>by simp [vS]
 | x::r,q+1=>by have:=P.atg r q;simp only[List.take_succ_cons,vS];omega
theorem ath{w sh:Bs}(h:kT w=O sh):sh.length<=3:=by
 rcases QR h with⟨-,rfl⟩| ⟨-,rfl⟩| ⟨-,rfl⟩| ⟨-,rfl⟩| ⟨-,rfl⟩| ⟨-,rfl⟩| ⟨-,rfl⟩<;>decide
def aSd{a b c d:Y}(f:iF[o]?=O a)(g:iF[o+1]?=O b)(h:iF[o+2]?=O c)(j:iF[o+3]?=O d):(iF.toList.drop o).take 4=[a,b,c,d]:=by
 have e:∀ q,iF[q]?=iF.toList[q]?:=fun q=>by rw[Array.getElem?_toList]
 rw[e] at f g h j;apply List.ext_getElem?;intro i;rw[List.getElem?_take];grind
def ati{c:Co}(hc:sJ w mb c)(I:qZ w wb out)(Du:∀ i∈c.ins,Hw i/\BV i)(hP:mj w)(hg:4<wb)(hlen:c.ins.length<=30000)(a1v:out.length<=500000000) :
  Calls bdW 109 #[pp mb,pp wb] w fun e w'=>e = ai (aq #[])/\qZ w' wb (out++um c)/\jT wb w w':=by
 suffices H:∀ R:Ending->Z->Prop,(∀ e w',(e = ai (aq #[])/\qZ w' wb (out++um c)/\jT wb w w')->R e w')->Calls bdW 109 #[pp mb,pp wb] w R from H _ zg;intro R hR;obtain⟨base,vb,iv,vv,gr,sb,cut,k,hM,rD,wO⟩:=hc;have nX:=hM.cell;have lwb:wb<w.heap.size:=by
  obtain⟨_,_,_,D,_⟩:=I;exact yH
 obtain⟨pa,pc,Ab⟩:=gZ hM.row;have oB:=nX;rw[Ab] at oB;have xz:k.ins.length=c.ins.length:=zg;refine aP5 ?_;refine dA @oP.eq_1 oB ?_;refine⟨fun m z w'=>∃ j,z 18=zi ((j:Nat):Int)/\j<=c.ins.length/\m=c.ins.length-j/\qZ w' wb (out++((c.ins.take j).map BR).flatten)/\jT wb w w',⟨_,0,J,a33 _,J,zg,bD.refl _ _⟩,?_⟩;intro m z d w3 hI;refine toPr ?_;obtain⟨j,Q,hj,rfl,h3,yi⟩:=hI;have R5:=yi.size;by_cases fm:j<c.ins.length
 .have hM3:=hM.bfr yi I.ty;have hP3:mj w3:=hP.bL fun o ho=>yi.block _ _ ho (by
   rintro (e | ⟨e,-⟩)<;>omega)
  have oc:k.ins[j]?=O c.ins[j]:=zg;obtain⟨i,Gs⟩:=cj (c.ins[j]);rw[<- Gs] at oc;obtain⟨hwi,qe⟩:=Du i (by rw[Gs];exact a4h _);obtain⟨cv,sv,bl,q1,q2,q3,q4,C,Iw⟩:=hM3.ins.at oc;rcases hM3.row.2 with⟨f,D⟩| ⟨ib,asD,cur,f,D,hib,h4,h5,S,h7⟩
  .omega
  rw[Ab] at f;simp only[a34,true_and] at f;obtain⟨rfl,rfl⟩:=f;have BB:∀ o,o<k.ins.length*4->cur[o]?=gr[o]?:=zg;have c0:cur[j*4]?=O (aW i.word):=zg;have c1:cur[j*4+1]?=O (aW i.name):=zg;have c2:cur[j*4+2]?=O cv:=zg;have c3:cur[j*4+3]?=O sv:=zg;have kf:((j:Nat):Int).toNat=j:=zo;have fH:((j:Nat):Int)<(k.ins.length:Int):=zo;have a1w:j*4+4<=cur.size:=zo;refine dG @oP.eq_1 Q fH (zA hib (zA @kf (zA @c0 (zA @c1 (zA @c2 @c3))))) ?_;have je:cv = aj\/∃ t u,cv = ak t u:=by
   cases qN:i.const with
   | none=>rw[qN] at C;exact .inl C
   | some t=>
    rw[qN] at C;cases t with
    | atom s=>exact .inr ⟨_,_,C⟩
    | int s=>exact .inr ⟨_,_,C⟩
    | var i=>exact C.elim
    | comp s l=>exact C.elim
  obtain⟨L,M,Ef⟩:∃ a c,sv = .slice a i.s.length c:=by
   rcases Iw with⟨f,D,-⟩| ⟨b,cap,cs,-,-,f,-⟩<;>grind
  subst Ef;have Mc:cv.oneCell'=true:=by rcases je with rfl | ⟨_,_,rfl⟩<;>rfl
  rw[aSd c0 c1 c2 c3];rw[zip (show([a4a (bs i.word),aW i.name,cv,.slice L i.s.length M]:List Y).length=4/\([a4a (bs i.word),aW i.name,cv,.slice L i.s.length M]:List Y).all Value.oneCell'=G from⟨J,by simp [Mc];exact⟨J,J,J⟩⟩)];have O0:pF #[a4a (bs []),aW [],aj,bW] 0 (Value.agg [a4a (bs i.word),aW i.name,cv,.slice L i.s.length M].toArray).cells.toList=#[aW i.word,aW i.name,cv,.slice L i.s.length M]:=by
   rcases je with rfl | ⟨_,_,rfl⟩<;>rfl
  rw[O0];obtain⟨T,jB⟩:=cj (bR (w3.alloc (ah #[aW [],aW [],aj,bW] 198 (0,0))) w3.heap.size (ah #[aW i.word,aW i.name,cv,.slice L i.s.length M] 198));rw[<- jB];have gT:Ext w3 T:=yF;have g4:T.heap[w3.heap.size]?=aO #[aW i.word,aW i.name,cv,.slice L i.s.length M] 198:=yH;clear jB O0;obtain⟨xb,uL⟩:=cj w3.heap.size;rw[<- uL] at g4 ⊢;have Ve:Ext T T.drew:=yF;refine⟨fun w'=>Ext T w',Ve,?_⟩;refine cQ (pp xb) (fun w' hS=>eV @oP.eq_1) ?_;refine cQ (aW i.word) (fun w' hS=>by have h9:=hS.ext _ _ g4;have:=bn h9;exact mv @oP.eq_1 h9) ?_;refine a3L (ase T.drew) ?_;rintro e E ⟨uo,sm,sl,rfl,hsm,Wo,aiA⟩;have rI:Ext T E:=yF;refine⟨rI,?_⟩;obtain⟨sh,tL⟩:=cj ((kT i.word).getD []);have aSf:∀ {K:Y->Prop} {X:Y->Z->Prop},(∀ v,JY E sm v sh->K v)->RD bdW (Instr.lookup 240 (.map (O sm)) (aW i.word) ae) E K X:=fun hK=>by
   rw[Md (k:=9) (e:=98) (z:=bW) zk zk zk Wo.map i.word ae];have:=Wo.find aiA i.word;cases hf:fQ i.word sl 0 with
   | none=>
    rw[hf] at this;have this:kT i.word=none:=this;rw[this] at tL;exact hK _ (.inl ⟨tL,J⟩)
   | some p=>
    grind
  refine aSf fun shv Sc=>?_;have B2:=gT.trans rI;have aSg:sh.length<=3:=by
   grind [kT,ath]
  have aiB:∀ x∈sh,x=115\/x=112\/x=99\/x=110\/x=42:=by
   rw[tL];cases Rk:kT i.word with
   | none=>simp
   | some s=>
    rw[Option.getD_some];rcases QR Rk with⟨-,rfl⟩| ⟨-,rfl⟩| ⟨-,rfl⟩| ⟨-,rfl⟩| ⟨-,rfl⟩| ⟨-,rfl⟩| ⟨-,rfl⟩<;>decide
  have a1x:vS sh<=i.s.length:=by rw[tL];exact hwi.wf
  have ye:99∈sh->∃ t,i.const=O t/\eB t/\Uq t=true:=by rw[tL];exact hwi.cn
  have xy:=qe.qQ;have a1y:=qe.small;have ze:=rI.ext _ _ g4;have hP5:mj E:=(hP3.ext B2);have hT:BR i=ld i.word (pM i sh i.s):=by rw[tL];rfl
  obtain⟨sha,shc,aiC⟩:∃ a c,shv = .slice a sh.length c:=by
   rcases Sc with⟨f,D⟩| ⟨b,zz,-,f,-⟩<;>grind
  subst aiC;refine cJ @oP.eq_1 ?_;refine⟨fun m z w'=>∃ q n ls v1,z 27=zi ((q:Nat):Int)/\z 7=zi ((n:Nat):Int)/\z 6=v1/\q<=sh.length/\m=sh.length-q/\Ext E w'/\DO E.heap.size w' v1 ls/\pM i sh i.s=ls++pM i (sh.drop q) (i.s.drop n)/\n=vS (sh.take q)/\ls.length<=10*q,
   ⟨_,0,0,[],_,J,J,J,a33 _,J,yF,DO.nil,J,J,a33 _⟩,?_⟩
  intro m z1 d1 w6 hI;refine toPr ?_;obtain⟨q,n,ls,v1,U,h7,S,hq,rfl,kq,eT,A,hn,Hv⟩:=hI;have EV:=B2.trans kq;have qf:=kq.ext _ _ ze;have lx6:=bn qf;obtain⟨ra,rc,rfl⟩:=gZ eT;have vI:mj w6:=hP5.ext kq;by_cases Wp:q<sh.length
  .have yK:((q:Nat):Int).toNat=q:=zo;have ZN:((n:Nat):Int).toNat=n:=zo;have rL:((q:Nat):Int)<(sh.length:Int):=zo;obtain⟨shb,shz,mZ,Iz⟩:∃ b z,sha=O ⟨b,0,V⟩/\E.heap[b]?=O (ah (uW sh).toArray 5 z):=by
    rcases Sc with⟨f,-⟩| ⟨b,zz,-,f,-,D⟩<;>grind
   subst mZ;have W:=kq.ext _ _ Iz;obtain⟨x,Z6⟩:=cj (sh[q]);have jM:(uW sh).toArray[q]?=O (.int .u8 (x.toNat:Int)):=zg;have Pl:sh.drop q=x::sh.drop (q+1):=by grind [a3U]
   have AQ:=P.atf sh q Wp;have a1z:=P.atg sh (q+1);rw[<- Z6] at AQ;have CS:x∈sh:=zg;obtain⟨B,hB⟩:=cj ((uW sh).toArray);rw[<- hB] at W jM;rw[Pl,P.aSc] at A;have tl:=aiB x CS;by_cases qP:x=115\/x=112
   .rw[zip qP] at AQ A;have Lx:n<i.s.length:=zo;have hhd:(i.s.drop n).headD 0=i.s[n]:=by grind [a3U]
    have tY:(i.s.drop n).tail=i.s.drop (n+1):=by rw[List.tail_drop]
    rw[hhd,tY] at A;obtain⟨svb,JJ,aiE,aiF,aiG⟩:∃ b cs,L=O ⟨b,0,V⟩/\w3.heap[b]?=aO cs 3/\cs[n]?=O (zi ((i.s[n]:Nat):Int)):=by
     rcases Iw with⟨f,-,-⟩| ⟨b,cap,cs,-,-,f,D,h3,h4,h5⟩
     .exact yH
     .simp only[a34,true_and] at f;refine⟨b,cs,f.1,D,?_⟩;have:=congrArg (fun l=>l[n]?) h5;grind
    subst aiE;have aSm:=EV.ext _ _ aiF;have hni:((n:Nat):Int)<(i.s.length:Int):=zo;have A6:i.s[n]<100000:=(by grind [a4h]);have hxI:((x.toNat:Int)=115/\x=115)\/(¬ (x.toNat:Int)=115/\(x.toNat:Int)=112):=by
     rcases qP with rfl | rfl<;>grind
    have a1A:∀ g:Z,g=w6->True:=zg;refine dG @oP.eq_1 U rL (zA W (zA jM @yK)) ?_;refine⟨fun s pD=>s 32 = .bool G/\pD=w6,?_,?_⟩
    .rcases hxI with⟨e1,-⟩| ⟨e1,e2⟩
     .exact mv @oP.eq_1 @e1
     .exact KA @oP.eq_1 @e1 @e2
    .rintro s g ⟨Dj,rfl⟩ dd;refine dG @oP.eq_1 Dj qf (zA h7 (zA S (zA aSm (zA aiG (zA hni @ZN))))) ?_;refine a3L (Lw ((i.s[n]:Nat):Int) zo zo g vI) ?_;rintro e N ⟨rfl,tS⟩;rw[<- P.Dg];refine dA @oP.eq_1 S ?_;refine(eT.ext tS).push yF zo fun v9 w9 Pm mH=>?_;refine jh @oP.eq_1 h7 U ?_;refine⟨_,?_,q+1,n+1,ls++[di i.s[n]],v9,zg,zg,zg,zo,J,mH,Pm,zg,zo,zg⟩;omega
   .rw[bU qP] at AQ A;have Sd:¬ (x.toNat:Int)=115:=fun e=>qP (.inl (a4G.1 zg));have aiH:¬ (x.toNat:Int)=112:=fun e=>qP (.inr (a4G.1 zg));refine dG @oP.eq_1 U rL (zA W (zA jM @yK)) ?_;refine⟨fun s pD=>s 32 = .bool ae/\pD=w6,?_,?_⟩
    .exact KA @oP.eq_1 Sd aiH
    .rintro s g ⟨Dj,rfl⟩ dd;by_cases vT:x=99
     .rw[zip vT] at A;have rR:(x.toNat:Int)=99:=by rw[vT];rfl
      obtain⟨t,ht,OU,htc⟩:=ye (vT ▸ CS);rw[ht] at C A;refine dG @oP.eq_1 Dj rR qf ?_;obtain⟨N,MG⟩:=cj (bR ((g.alloc (ah #[bW,zi 9] 96)).alloc (ah #[au V,bW,au V,.map V] 103)) (g.heap.size+1) (ah #[au V,bW,pp g.heap.size,.map V] 103));rw[<- MG];have wq:Ext g N:=yF;have qS:N.heap[g.heap.size]?=aO #[bW,zi 9] 96:=yH;have qW:N.heap[g.heap.size+1]?=aO #[au V,bW,pp g.heap.size,.map V] 103:=yH;clear MG;rw[size_alloc];refine a3L (aSb C OU qS qW (vI.ext wq) zo zo zo) ?_;rintro e w9 ⟨rfl,kz,nm9,hB9⟩;have ef:Dd (O t)≠[]:=by
       cases t with
       | atom s=>unfold eB at OU;exact OU.2
       | int z=>exact fun e=>by have:=aKk z;rw[show jc z=[] from e] at this;grind
       | var _=>exact C.elim
       | comp _ _=>exact C.elim
      have tT:Ext g w9:=⟨kz.os.trans wq.os,kz.tape.trans wq.tape,kz.output.trans wq.output,a3Q wq.size kz.size,fun b o I _=>kz.block _ _ (wq.ext _ _ I) (by
       have:=bn I;rintro (h | h | ⟨h,-⟩)<;>omega)⟩
      refine cJ @oP.eq_1 ?_;refine a3L (apx hB9 ef) ?_;rintro e ju ⟨rfl,vK⟩;have aSs:Ext g ju:=⟨vK.os.trans tT.os,vK.tape.trans tT.tape,vK.output.trans tT.output,a3Q tT.size vK.size,fun b o I _=>vK.block _ _ (tT.ext _ _ I) (by
       have:=bn I;rintro (h | ⟨h,-⟩)<;>omega)⟩
      refine dA @oP.eq_1 S ?_;refine(eT.ext aSs).push yF zo fun v11 j4 aSt Ad=>?_;refine jh @oP.eq_1 h7 U ?_;refine⟨_,?_,q+1,n,ls++[Dd (O t)],v11,zg,zg,zg,zo,J,Ad,aSt,zg,zo,zg⟩;omega
     .rw[bU vT] at A;have Wq:¬ (x.toNat:Int)=99:=fun e=>vT (a4G.1 zg);by_cases Ba:x=110
      .rw[zip Ba] at A;have rR:(x.toNat:Int)=110:=by rw[Ba];rfl
       refine dG @oP.eq_1 Dj Wq (zA rR (zA qf S)) ?_;refine eT.push kq zo fun v9 w9 Pm mH=>?_;refine jh @oP.eq_1 h7 U ?_;refine⟨_,?_,q+1,n,ls++[i.name],v9,zg,zg,zg,zo,J,mH,Pm,zg,zo,zg⟩;omega
      .rw[bU Ba] at A;have aiI:¬ (x.toNat:Int)=110:=fun e=>Ba (a4G.1 zg);have Se:x=42:=by
        grind
       have rR:(x.toNat:Int)=42:=by rw[Se];rfl
       have hnI:((n:Nat):Int)<=(i.s.length:Int):=zo;refine dG @oP.eq_1 Dj Wq (zA aiI (zA rR (zA qf h7))) ?_;rw[ZN];obtain⟨sa',iW,hsx⟩:∃ sa',sliced L n i.s.length M 1 = .slice sa' (i.s.length-n) (M-n)/\(n<i.s.length->∃ b cs,sa'=O ⟨b,n,V⟩/\w3.heap[b]?=aO cs 3/\∀ y (hy:y<i.s.length),cs[y]?=O (zi ((i.s[y]:Nat):Int))):=by
        refine⟨_,J,fun yf=>?_⟩;rcases Iw with⟨f,-,-⟩| ⟨b,cap,cs,-,-,f,D,h3,h4,h5⟩
        .exact yH
        .simp only[a34,true_and] at f;obtain⟨rfl,rfl⟩:=f;refine⟨b,cs,?_,D,fun y hy=>?_⟩
         .rw[bU zo];simp [Addr.add];omega
         .have:=congrArg (fun l=>l[y]?) h5;grind
       rw[iW];refine dA @oP.eq_1 S ?_;refine⟨fun m z w'=>∃ p v2,z 73=zi ((p:Nat):Int)/\z 6=v2/\p<=i.s.length-n/\m=i.s.length-n-p/\Ext E w'/\DO E.heap.size w' v2 (ls++((i.s.drop n).take p).map di),
        ⟨_,0,_,J,J,a33 _,J,kq,(by show DO _ _ (.slice _ _ _) _;exact yH)⟩,?_⟩
       intro m z2 d2 N hI;refine toPr ?_;obtain⟨p,v2,h73,Sf,hp,rfl,tS,F⟩:=hI;by_cases j3:p<i.s.length-n
       .obtain⟨svb,JJ,aiE,aiF,aiG⟩:=hsx zo;subst aiE;have aSu:=(B2.trans tS).ext _ _ aiF;have hnp:n+p<i.s.length:=zo;have A6:i.s[n+p]<100000:=(by grind [a4h]);have nE:=aiG (n+p) hnp;have epn:((p:Nat):Int).toNat=p:=zo;have zJ:((p:Nat):Int)<(((i.s.length-n:Nat):Nat):Int):=zo;refine dG @oP.eq_1 h73 zJ (zA aSu (zA nE @epn)) ?_;refine a3L (Lw ((i.s[n+p]:Nat):Int) zo zo N (hP5.ext tS)) ?_;rintro e w9 ⟨rfl,mH⟩;rw[<- P.Dg];obtain⟨ra2,rc2,rfl⟩:=gZ F;refine dA @oP.eq_1 Sf ?_;refine(F.ext mH).push yF zg fun v10 ju asS B9=>?_;refine dA @oP.eq_1 h73 ?_;refine⟨_,?_,p+1,v10,zg,zg,zo,J,B9,?_⟩
        .omega
        grind [a5i,a3P,a36]
       .have Iq:p=i.s.length-n:=zo;subst Iq;have zJ:¬ (((i.s.length-n:Nat):Nat):Int)<(((i.s.length-n:Nat):Nat):Int):=zo;have e:(i.s.drop n).take (i.s.length-n)=i.s.drop n:=zg;rw[e] at F;refine dG @oP.eq_1 h73 zJ U ?_;refine⟨_,?_,q+1,n,ls++(i.s.drop n).map di,v2,zg,zo,zo,zo,J,tS,F,zg,zo,zg⟩;omega
  .have A2:q=sh.length:=zo;subst A2;have rL:¬ (sh.length:Int)<(sh.length:Int):=zo;rw[List.drop_length] at A;have A:pM i sh i.s=ls:=by grind [pM]
   refine dG @oP.eq_1 U rL (zA qf S) ?_;have h6b:=(h3.ext EV);have tY:(((c.ins.take j).map BR).flatten).length<=60*j:=by
    have key:∀ l:List P.In,(∀ i∈l,BV i)->((l.map BR).flatten).length<=60*l.length:=by
     intro l;induction l with
     | nil=>grind
     | cons a r ih=>
      intro h;have f:=YI (h a List.mem_cons_self);grind
    grind
   have mw:=YI qe;rw[hT,A] at mw;unfold ld at mw;rw[aai] at mw;simp only[a3M,List.length_cons,List.length_nil] at mw;refine a3L (aaj h6b eT.sl zo zg) ?_;rintro e N ⟨rfl,h8,J6⟩;refine dA @oP.eq_1 Q ?_;have aSx:jT wb w3 N:=(bD.ea EV).trans J6;refine⟨_,?_,j+1,zg,zo,J,?_,yi.trans aSx⟩
   .omega
   grind [a5i,a3P,a7k,a36]
 .have fm:j=c.ins.length:=zo;subst fm;have fH:¬ (c.ins.length:Int)<(k.ins.length:Int):=zo;rw[a4Q] at h3;refine jh @oP.eq_1 Q fH ?_;exact hR _ _ ⟨J,h3,yi⟩
def PdG(w:Z)(pb:Nat)(p:Pd):Prop:=∃ a fX,w.heap[pb]?=aO #[aW p.name,zi (p.arity:Int),a] 213/\fO (fun _=>True) w 185 a fX/\fX.length=p.clauses.length /\
 ∀ (j:Nat) (c:Co),p.clauses[j]?=O c->∃ mb,fX[j]?=O (pp mb)/\sJ w mb c
theorem PdG.ext{w w':Z}{pb:Nat}{p:Pd}(h:PdG w pb p)(a:Ext w w'):PdG w' pb p:=by
 obtain⟨b,fX,c,d,e,f⟩:=h;exact⟨b,fX,a.ext _ _ c,d.mono zg (by grind [bD.ext]),e,(by grind [sJ.ext])⟩
def aap{α:Type}(f:α->Bs)(l:List α)(j:Nat):(((l.take j).map f).flatten).length<=((l.map f).flatten).length:=by
 grind [List.take_append_drop,a7k,a3M]
theorem aaq{α:Type}(f:α->Bs){l:List α}(a:j<l.length):((l.take (j+1)).map f).flatten=((l.take j).map f).flatten++f l[j]:=by
 grind [a5i,a3P,a7k]
def sl2{a b:Bs}:fO (fun _=>True) (w.alloc (ah #[aW a,aW b] 9)) 9 (cS w.heap.size 2 2) ([a,b].map fun s=>aW s):=
 .inr ⟨w.heap.size,_,J,trivial,yH,Nat.le_refl _,J⟩
def sl1{a:Bs}:fO (fun _=>True) (w.alloc (ah #[aW a] 9)) 9 (cS w.heap.size 1 1) ([a].map fun s=>aW s):=
 .inr ⟨w.heap.size,_,J,trivial,yH,Nat.le_refl _,J⟩
def aiM(f:Bs)(l:List Bs):(ld f l).length=f.length+(yJ l).length+1:=by
 grind [ld,aai,a3M]
def aSz{l:List Pd}{ask:Co}(I:fO (fun _=>True) w 211 tv xs)(j3:xs.length=l.length)(K:∀ (j:Nat) (p:Pd),l[j]?=O p->∃ pb,xs[j]?=O (pp pb)/\PdG w pb p)(QQ:sJ w fw ask)
  (dx:∀ p∈l,∀ c∈p.clauses,AY c/\∀ i∈c.ins,Hw i) (JD:AY ask/\∀ i∈ask.ins,Hw i) (lu:∀ p∈l,p.arity<=1000) (xy:∀ p∈l,p.clauses.length<=1000) (hl:l.length<=1000) (ht:told<=1000) (r:mj w) (hlen:(rB l ask told).length<=400000000) :
  Calls bdW 81 #[tv,pp fw,zi (told:Int)] w fun e w'=>e = ai (aW (rB l ask told))/\Ext w w':=by
 suffices H:∀ R:Ending->Z->Prop,(∀ e w',(e = ai (aW (rB l ask told))/\Ext w w')->R e w')->Calls bdW 81 #[tv,pp fw,zi (told:Int)] w R from H _ yF;intro R hR;obtain⟨la,lc,rfl⟩:=I.sl;have hgp:4<w.heap.size:=by
  have:=r;unfold mj Lib.TabIs World.var? at this;rw[afr] at this;simp only[Option.bind_some] at this;rcases Nat.lt_or_ge 4 w.heap.size with h | h
  .exact h
  .rw[Array.getElem?_eq_none h] at this;cases this
 have uQ:(rB l ask told).length=((l.map tJ).flatten).length+(ld [113,117,101,114,121] [di ask.slots,di told]).length+(um ask).length:=by grind [rB,a3M]
 refine aP6 ?_;refine bG ?_;obtain⟨wb,rZ⟩:=cj w.heap.size;obtain⟨w1,jZ⟩:=cj (w.alloc (ah #[au V,bW] 100));rw[<- jZ,<- rZ];have s:Ext w w1:=yF;have hB1:qZ w1 wb []:=⟨au V,bW,.inl J,yH,World.ownsRow_nil _ _ _ _⟩;clear jZ;have t:∀ {w'},jT wb w1 w'->Ext w w':=fun{w'} u=>⟨u.os.trans s.os,u.tape.trans s.tape,u.output.trans s.output,a3Q s.size u.size,fun b o hb _=>u.block _ _ (s.ext _ _ hb) (by
  have:=bn hb;rintro (h | ⟨h,-⟩)<;>omega)⟩
 have hTb:∀ {w'},jT wb w1 w'->mj w':=(by grind [mj.ext]);have hg:4<wb:=zo;refine⟨fun m z w'=>∃ j,z 14=zi ((j:Nat):Int)/\j<=l.length/\m=l.length-j/\qZ w' wb (((l.take j).map tJ).flatten)/\jT wb w1 w',⟨_,0,J,a33 _,J,zg,bD.refl _ _⟩,?_⟩;intro m z d w3 L;refine toPr ?_;obtain⟨j,M,hj,rfl,N,Q⟩:=L;have C:=t Q;have hft:=aap tJ l j;by_cases D:j<l.length
 .obtain⟨pb,lX,x⟩:=K j l[j] zg;obtain⟨g,cs,e3,e4,e5,e6⟩:=I.at' (j:=j) zo;simp only[a34,true_and] at e3;obtain⟨rfl,rfl⟩:=e3;rw[lX] at e6;obtain⟨p,S⟩:=cj (l[j]);rw[<- S] at x;have T:p∈l:=zg;have kf:((j:Nat):Int).toNat=j:=zo;have U:((j:Nat):Int)<(xs.length:Int):=zo;have g3:=C.ext _ _ e5;obtain⟨Wr,fX,q1,q2,q3,q4⟩:=id x;obtain⟨cla,clc,rfl⟩:=q2.sl;have RN:=C.ext _ _ q1;have dI:Ext w3 w3.drew:=yF;have lu:=lu p T;have Uc:=xy p T;refine dG M U @g3 (zA @e6 @kf) ?_;refine⟨fun w'=>Ext w3 w',dI,?_⟩;rw[jI];refine cQ (pp pb) (fun w' hS=>eR) ?_;refine cQ (aW p.name) (fun w' hS=>by have W:=hS.ext _ _ RN;have:=bn W;exact eV W) ?_;refine cJ @RN ?_;refine a3L (Lw (p.arity:Int) zo zo w3.drew (by grind [mj.ext])) ?_;rintro e X ⟨rfl,uq⟩;have gT:=dI.trans uq;rw[<- P.Dg];refine⟨gT,?_⟩;refine bG ?_;have y:Ext w3 (X.alloc (ah #[aW p.name,aW (di p.arity)] 9)):=gT.alloc _;have hpt:=aap tJ l (j+1);rw[aaq tJ D,<- S,a3M] at hpt;have a1H:(tJ p).length=(ld [112,114,101,100] [p.name,di p.arity]).length+((p.clauses.map fun c=>ld [99,108,97,117,115,101] [di c.slots]++um c).flatten).length:=by grind [tJ,a3M]
  have aSC:=aiM [112,114,101,100] [p.name,di p.arity];refine a3L (aaj (N.ext y) sl2 zs zo) ?_;rintro e w5 ⟨rfl,h5,aSD⟩;have Ug:jT wb w1 w5:=Q.trans ((bD.ea y).trans aSD);have uo:=t Ug;have q15:=uo.ext _ _ q1;refine cJ @q15 ?_;refine⟨fun m z w'=>∃ q,z 34=zi ((q:Nat):Int)/\q<=p.clauses.length/\m=p.clauses.length-q/\qZ w' wb (((l.take j).map tJ).flatten++ld [112,114,101,100] [p.name,di p.arity]++((p.clauses.take q).map fun c=>ld [99,108,97,117,115,101] [di c.slots]++um c).flatten)/\jT wb w1 w',
   ⟨_,0,J,a33 _,J,zg,Ug⟩,?_⟩
  intro m z2 d2 E L;refine toPr ?_;obtain⟨q,a,hq,rfl,F,f⟩:=L;have n:=t f;have hfq:=aap (fun c=>ld [99,108,97,117,115,101] [di c.slots]++um c) p.clauses q;by_cases Wp:q<p.clauses.length
  .obtain⟨mb,je,CN⟩:=q4 q p.clauses[q] zg;obtain⟨g2,F5,f3,f4,f5,f6⟩:=q2.at' (j:=q) zo;simp only[a34,true_and] at f3;obtain⟨rfl,rfl⟩:=f3;rw[je] at f6;obtain⟨c,Gg⟩:=cj (p.clauses[q]);rw[<- Gg] at CN;have Cn:c∈p.clauses:=zg;obtain⟨Rq,ZV⟩:=dx p T c Cn;have yK:((q:Nat):Int).toNat=q:=zo;have rL:((q:Nat):Int)<(fX.length:Int):=zo;have g6:=n.ext _ _ f5;obtain⟨base,vb,iv,vv,gr,sb,cut,k,hM,rD,wO⟩:=id CN;have Iy:=(hM.ext n).cell;have I:=Rq.slots;refine dG a rL @g6 (zA @f6 (zA @yK Iy)) ?_;refine a3L (Lw (k.slots:Int) zo zo E (r.ext n)) ?_;rintro e w7 ⟨rfl,Sg⟩;rw[<- P.Dg,rD];refine bG ?_;have A:Ext E (w7.alloc (ah #[aW (di c.slots)] 9)):=Sg.alloc _;have hcq:=aap (fun c=>ld [99,108,97,117,115,101] [di c.slots]++um c) p.clauses (q+1);rw[aaq _ Wp,<- Gg,a3M,a3M] at hcq;have a1J:=aiM [99,108,97,117,115,101] [di c.slots];refine a3L (aaj (F.ext A) sl1 zs zg) ?_;rintro e w8 ⟨rfl,h8,B⟩;have J6:jT wb w1 w8:=f.trans ((bD.ea A).trans B);have tS:=t J6;refine bG ?_;refine a3L (ati (CN.ext tS) h8 (by grind [AY.ins]) (r.ext tS) hg Rq.len zg) ?_;rintro e w9 ⟨rfl,W,aSF⟩;refine cJ a ?_;refine⟨_,?_,q+1,zg,zo,J,?_,J6.trans aSF⟩
   .omega
   grind [aaq,a36]
  .have A2:q=p.clauses.length:=zo;subst A2;have rL:¬ (p.clauses.length:Int)<(fX.length:Int):=zo;rw[a4Q] at F;refine jh a rL M ?_;refine⟨_,?_,j+1,zg,zo,J,?_,f⟩
   .omega
   .rw[aaq tJ D,<- S];rw[show tJ p=ld [112,114,101,100] [p.name,di p.arity]++(p.clauses.map fun c=>ld [99,108,97,117,115,101] [di c.slots]++um c).flatten from J,<- a36];omega
 .have D:j=l.length:=zo;subst D;have U:¬ (l.length:Int)<(xs.length:Int):=zo;rw[a4Q] at N;obtain⟨base,vb,iv,vv,gr,sb,cut,k,hM,rD,wO⟩:=id QQ;have hM3:=(hM.ext C);have hc3:=hM3.cell;have has:=JD.1.slots;refine jh M U hc3 ?_;refine a3L (Lw (k.slots:Int) zo zo w3 (r.ext C)) ?_;rintro e X ⟨rfl,uq⟩;refine bG ?_;refine a3L (Lw (told:Int) zo zo X (by grind [mj.ext])) ?_;rintro e w5 ⟨rfl,rI⟩;rw[<- P.Dg,<- P.Dg,rD];refine bG ?_;have B2:=uq.trans rI;have EV:Ext w3 (w5.alloc (ah #[aW (di ask.slots),aW (di told)] 9)):=B2.alloc _;have aSC:=aiM [113,117,101,114,121] [di ask.slots,di told];refine a3L (aaj (N.ext EV) sl2 zs zo) ?_;rintro e E ⟨rfl,F,aSG⟩;have f:jT wb w1 E:=Q.trans ((bD.ea EV).trans aSG);have n:=t f;refine bG ?_;refine a3L (ati (QQ.ext n) F (by grind [AY.ins]) (r.ext n) hg JD.1.len zg) ?_;rintro e w7 ⟨rfl,h7,aSH⟩;have Ei:=f.trans aSH;refine bG ?_;refine a3L (aQT h7 zg) ?_;rintro e w8 ⟨rfl,B⟩;refine bG ?_;exact hR _ _ ⟨J,yF⟩
open Go.Proofs.YtoegidfbnkaabaaGreatDoor.Sx
section
variable{p0 p1 p2 p3 p4 p5 p6 p7:Y}{w:Z}{R:Ending->Z->Prop}
def aSI:=cy w R [p0,p1] (gd [(5,[6,17])] [(12003,[6,11])] [(7,9)] [(12,[14,0,1,2,3,4,5,6,7,8,9,10,11,12,13,14]),(13,[18,0,1,2,3,4,5,6,7,8,9,10,11,12,13,14,15,16,17]),(15,[9,0,1,3,4,5,6,7,2,8,9,10])] [] [] [12,18,36,37,38]) func41
end
def aSJ(v4 v5:Y)(w:Z):CallsD bdW 79 #[v4,v5] .returning w fun e u' w'=>e = ai (aq #[])/\u' = .returning/\w'=w:=by
 refine callsD_of_wpS func79 J fun AS cs hu=>?_;apply wpS_seq;apply wpS_region;simp [wpOpsS,go_sem,recoverD,hu,ntmps79,a4t,aqM];apply wpS_seq;apply wpS_region;simp [wpOpsS,go_sem,recoverD,hu,ntmps79,a4t];refine wpS_cond (t:=false) (by simp [Act.eval]) ?_;simp only[Bool.false_eq_true,if_false];refine wpS_of_wp (wp_skip ?_);cases AS;simp_all [bodyPostS,results,Tryz.results79]
def aSK(b4 b5:Nat)(o4 o5:Y)(yj:List PanicEntry)(w:Z)(h4:w.heap[b4]?=aO #[o4] 9)(h5:w.heap[b5]?=aO #[o5] 4)(ef:b4≠b5) :
  CallsD bdW 79 #[pp b4,pp b5] (.panicking ({ v:=ak 27 (zi 4),recovered:=false }::yj)) w fun e u' w'=>
   e = ai (aq #[])/\u' = .panicking ({ v:=ak 27 (zi 4),recovered:=true }::yj)/\w'=bR (bR w b4 (ah #[aW []] 9 (0,0))) b5 (ah #[.bool ae] 4):=by
 have c4:w.cell? ⟨b4,0,V⟩=O o4:=EX h4 J;have z4:=jV h4 0;have e1:w.setCell ⟨b4,0,V⟩ (aW [])=bR w b4 (ah #[aW []] 9 (0,0)):=vz h4 _;obtain⟨w1,jZ⟩:=cj (bR w b4 (ah #[aW []] 9 (0,0)));rw[<- jZ] at e1;have Jo:w1.heap[b5]?=aO #[o5] 4:=yH;have c5:w1.cell? ⟨b5,0,V⟩=O o5:=EX Jo J;have z5:=jV Jo 0;have e2:w1.setCell ⟨b5,0,V⟩ (.bool ae)=bR w1 b5 (ah #[.bool ae] 4):=vz Jo _;have e1':w.setCell ⟨b4,0,V⟩ (.string { data:=#[] })=w1:=e1;refine callsD_of_wpS func79 J fun AS cs hu=>?_;apply wpS_seq;apply wpS_region;simp [wpOpsS,go_sem,recoverD,hu,ntmps79,a4t,aqN];apply wpS_seq;apply wpS_region;simp [wpOpsS,go_sem,recoverD,hu,ntmps79,a4t];refine wpS_cond (t:=true) (by simp [Act.eval]) ?_;simp only[if_true];apply wpS_region;simp [wpOpsS,go_sem,recoverD,hu,ntmps79,a4t,c4,z4,e1',c5,z5,e2];simp [bodyPostS,results,Tryz.results79,jZ]
def aSM(h:res w) :
  LV bdW res R [{ target:=.fn (.func 79) #[tv,vv],args:=#[]++#[] }] .returning w:=by
 refine Cp zk zs ((aSJ tv vv w).mono ?_);rintro e a w' ⟨rfl,rfl,rfl⟩;exact h
def aSN(a:w.heap[pb]?=aO #[o4] 9)
  (b:w.heap[k']?=aO #[o5] 4) (c:pb≠k')
  (h:res (bR (bR w pb (ah #[aW []] 9 (0,0))) k' (ah #[.bool ae] 4))) :
  LV bdW res R [{ target:=.fn (.func 79) #[pp pb,pp k'],args:=#[]++#[] }]
   (.panicking [{ v:=ak 27 (zi 4),recovered:=false }]) w:=by
 refine Cp zk zs ((aSK pb k' o4 o5 [] w a b c).mono ?_);rintro e d w' ⟨rfl,rfl,rfl⟩;exact h
def sK:Nat->List Pd->List (List UInt8×Y)
 | _,[]=>[]
 | i,p::r=>(P.keyOf p.name p.arity,.int .i64 (i:Int))::sK (i+1) r
def atr(p:Pd):∀ (l:List Pd) (i:Nat),sK i (l++[p])=sK i l++[(P.keyOf p.name p.arity,zi ((i+l.length:Nat):Int))]
 | [],i=>rfl
 | q::l,i=>by
  rw[List.cons_append,sK,sK,atr p l (i+1),List.cons_append,List.length_cons,show i+1+l.length=i+(l.length+1) from by omega]
def att(x:Co):∀ (l:List Pd) (i k:Nat),sK i (l.modify k fun p=>{ p with clauses:=p.clauses++[x] })=sK i l
 | [],i,k=>zg
 | q::l,i,0=>by simp [sK]
 | q::l,i,k+1=>by rw[a44,sK,sK,att x l (i+1) k]
def aas{name:Bs}{n:Nat}(a:n<80)(x:Co):∀ (l:List Pd) (i j:Nat),(∀ p∈l,p.arity<80)->match fQ (P.keyOf name n) (sK i l) j with
  | none=>rW name n x l=l++[⟨name,n,[x]⟩]
  | some (q,v)=>∃ k,q=j+k/\v = .int .i64 ((i+k:Nat):Int)/\k<l.length/\rW name n x l=l.modify k fun p=>{ p with clauses:=p.clauses++[x] }
 | [],i,j,_=>rfl
 | p::l,i,j,h=>by
  have d:=h p List.mem_cons_self;have ih:=aas (name:=name) a x l (i+1) (j+1) zg;rw[sK,fQ];by_cases hk:P.keyOf p.name p.arity=P.keyOf name n
  .rw[zip hk];obtain⟨e,f⟩:=(P.age d a).1 hk;exact⟨0,J,J,zs,by rw[rW,zip ⟨e,f⟩];rfl⟩
  .rw[bU hk];have b:¬ (p.name=name/\p.arity=n):=zg;cases c:fQ (P.keyOf name n) (sK (i+1) l) (j+1) with
   | none=>
    rw[c] at ih;have ih:rW name n x l=l++[⟨name,n,[x]⟩]:=ih;show rW name n x (p::l)=_;rw[rW,bU b,ih];rfl
   | some g=>
    obtain⟨q,v⟩:=g;rw[c] at ih;obtain⟨k,o,r,s,m⟩:=ih;exact⟨k+1,zo,zg,zg,by rw[rW,bU b,m,a44]⟩
structure Cd(ba:Nat)(w:Z)(v:Y)(rf:Nat->Nat)(sL:Nat->Y)(l:List Pd):Prop where
 row:w.ownsRow ba 211 1 v l.length ((a4g l.length).map fun i=>a4x (O ⟨rf i,0,V⟩))
 lo:∀ i,i<l.length->ba<=rf i
 cell:∀ (i:Nat) (p:Pd),l[i]?=O p->w.heap[rf i]?=aO #[aW p.name,zi ((p.arity:Nat):Int),sL i] 213
 cl:∀ (i:Nat) (p:Pd),l[i]?=O p->∃ fX:List Y,w.ownsRow ba 185 1 (sL i) p.clauses.length fX/\∀ (k:Nat) (c:Co),p.clauses[k]?=O c->∃ mb,fX[k]?=O (pp mb)/\sJ w mb c
 ne:∀ i j,i<l.length->j<l.length->i≠j->rf i≠rf j
 nc:∀ i j,i<l.length->j<l.length->i≠j->∀ b,(sL i).ownBlock=O b->(sL j).ownBlock≠O b
section
variable{ba:Nat}{w w':Z}{v:Y}{rf:Nat->Nat}{sL:Nat->Y}{l:List Pd}
theorem Cd.ext(h:Cd ba w v rf sL l)(a:Ext w w'):Cd ba w' v rf sL l:=
 ⟨jK a.ext h.row,h.lo,(by grind [bD.ext,cell]),fun i p hi=>let ⟨fX,b,c⟩:=h.cl i p hi;⟨fX,jK a.ext b,(by grind [sJ.ext])⟩,h.ne,h.nc⟩
theorem sJ.aiQ{c:Co}(h:sJ w mb c)(hk:∀ (b T:Nat) (cs:Array Y),T≠185->T≠213->T≠211->w.heap[b]?=aO cs T->w'.heap[b]?=aO cs T):sJ w' mb c:=by
 obtain⟨base,vb,iv,vv,gr,sb,cut,k,h,a⟩:=h;refine⟨base,vb,iv,vv,gr,sb,cut,k,⟨(by grind [fL.cell]),h.lo,⟨h.row.1,?_⟩,h.ins.bL yH,(by grind [fL.vars]),h.J0,h.sep,h.J1⟩,a⟩;rcases h.row.2 with e | ⟨b,cap,cur,rfl,a,f,d⟩
 .exact yH
 .exact .inr ⟨b,cap,cur,J,a,yH,d⟩
theorem GB{size:Nat}(h:w.ownsRow ba e size u n xs)(hk:∀ (b:Nat) (cs:Array Y),u.ownBlock=O b->w.heap[b]?=aO cs e->w'.heap[b]?=aO cs e):w'.ownsRow ba e size u n xs:=by
 refine⟨h.1,?_⟩;rcases h.2 with f | ⟨b,cap,cur,rfl,a,c,d⟩
 .exact yH
 .exact .inr ⟨b,cap,cur,J,a,hk b cur J c,d⟩
def E9{size:Nat}(h:w.ownsRow ba e size u n xs)(a:u.ownBlock=O b):ba<=b/\b<w.heap.size/\∃ cs,w.heap[b]?=aO cs e:=by
 rcases h.2 with⟨c,-⟩| ⟨g,cap,cur,c,d,f,-⟩
 .rw[c] at a;cases a
 .rw[c] at a;injection a with a;exact yH
theorem GC{size:Nat}(a:w.ownsRow ba e size u n xs)(c:w.grownBy w' u.ownBlock){T:Nat}(g:T≠e)(d:w.heap[b]?=aO cs T):w'.heap[b]?=aO cs T:=by
 rw[c.block b (bn d) (fun f=>?_)]
 .omega
 .obtain⟨-,-,cs',h⟩:=E9 a f.symm;grind
def Cd.new(h:Cd ba w v rf sL l){nb:Nat}{name:Bs}(s:w.heap[nb]?=aO #[aW name,zi (n:Int),bW] 213)(t:ba<=nb)(u:∀ i,i<l.length->rf i≠nb)
  (x:w'.ownsRow ba 211 1 tv (l.length+1) (((a4g l.length).map fun i=>a4x (O ⟨rf i,0,V⟩))++[pp nb])) (q:w.grownBy w' v.ownBlock) :
  Cd ba w' tv (fun i=>if i=l.length then nb else rf i) (fun i=>if i=l.length then bW else sL i) (l++[⟨name,n,[]⟩]):=by
 have y:∀ {b T:Nat} {cs:Array Y},T≠211->w.heap[b]?=aO cs T->w'.heap[b]?=aO cs T:=fun r a=>GC h.row q r a;have m:∀ i p,(l++[(⟨name,n,[]⟩:Pd)])[i]?=O p->(i<l.length/\l[i]?=O p)\/(i=l.length/\p=⟨name,n,[]⟩):=zg;refine⟨?_,fun i hi=>?_,fun i p hi=>?_,fun i p hi=>?_,fun i j hi k o=>?_,fun i j hi k o b a=>?_⟩
 .have e:(a4g (l++[(⟨name,n,[]⟩:Pd)]).length).map (fun i=>a4x (O ⟨(if i=l.length then nb else rf i),0,V⟩))=((a4g l.length).map fun i=>a4x (O ⟨rf i,0,V⟩))++[pp nb]:=by
   rw[a3M,a4v,List.range_succ,List.map_append]
   congr 1
   .refine List.map_congr_left fun i hi=>?_;grind
   grind
  grind
 .simp only[a3M,a4v] at hi;by_cases c:i=l.length
  .grind
  .simp only[bU c];grind [lo]
 .rcases m i p hi with⟨f,d⟩| ⟨f,d⟩
  .simp only[bU (show i≠l.length by omega)];grind [cell]
  exact yH
 .rcases m i p hi with⟨f,d⟩| ⟨f,d⟩
  .simp only[bU (show i≠l.length by omega)];obtain⟨fX,g1,g2⟩:=h.cl i p d;exact⟨fX,(by grind [GB]),(by grind [sJ.aiQ])⟩
  .subst f d;simp only[if_true];exact⟨[],⟨J,yH⟩,zg⟩
 .simp only[a3M,a4v] at hi k;by_cases c:i=l.length
  .grind
  .by_cases g:j=l.length
   .grind
   .simp only[bU c,bU g];grind [ne]
 .simp only[a3M,a4v] at hi k;by_cases c:i=l.length
  .simp only[zip c] at a;cases a
  .simp only[bU c] at a;by_cases g:j=l.length
   .simp only[zip g];exact fun e=>by cases e
   .simp only[bU g];exact h.nc i j zo zo o b a
def Cd.push(h:Cd ba w v rf sL l){p:Pd}{c:Co}(hk:l[k]?=O p)(s:w.ownsRow ba 185 1 (sL k) p.clauses.length xs)(H:∀ (k:Nat) (c:Co),p.clauses[k]?=O c->∃ mb,xs[k]?=O (pp mb)/\sJ w mb c)
  (I:sJ w mb c) (K:w'.ownsRow ba 185 1 tv (p.clauses.length+1) (xs++[pp mb])) (t:w.grownBy w' (sL k).ownBlock) (m:tv.ownBlock=(sL k).ownBlock\/∀ j,tv.ownBlock=O j->w.heap.size<=j) :
  Cd ba (bR w' (rf k) (ah #[aW p.name,zi (p.arity:Int),tv] 213)) v rf (fun i=>if i=k then tv else sL i) (l.modify k fun p=>{ p with clauses:=p.clauses++[c] }):=by
 have u:k<l.length:=by
  grind
 have y:∀ {b T:Nat} {cs:Array Y},T≠185->w.heap[b]?=aO cs T->w'.heap[b]?=aO cs T:=(by grind [GC]);have z:=y zd (h.cell k p hk);have A:=bn z;obtain⟨w2,B⟩:=cj (bR w' (rf k) (ah #[aW p.name,zi (p.arity:Int),tv] 213));rw[<- B];have hu:∀ {b T:Nat} {cs:Array Y},(T≠213\/b≠rf k)->w'.heap[b]?=aO cs T->w2.heap[b]?=aO cs T:=yH;have n:∀ i x,(l.modify k fun p=>{ p with clauses:=p.clauses++[c] })[i]?=O x->(i≠k/\l[i]?=O x)\/(i=k/\x={ p with clauses:=p.clauses++[c] }):=zg;have C:∀ {mb c},sJ w mb c->sJ w2 mb c:=(by grind [sJ.aiQ]);refine⟨?_,fun i hi=>h.lo i zg,fun i x hi=>?_,fun i x hi=>?_,(by grind [ne]),fun i j hi D L b d=>?_⟩
 .rw[List.length_modify];exact GB h.row yH
 .rcases n i x hi with⟨a,f⟩| ⟨a,f⟩
  .simp only[bU a];grind [Nat.lt_or_ge,List.getElem?_eq_none,ne,cell]
  exact yH
 .rcases n i x hi with⟨a,f⟩| ⟨a,f⟩
  .simp only[bU a];have E:i<l.length:=by
    grind
   obtain⟨o,g1,g2⟩:=h.cl i x f;refine⟨o,GB g1 fun b cs d hx=>hu zg ?_,zg⟩;rw[t.block b (bn hx) (fun e=>h.nc i k E u a b d e.symm)];exact hx
  .subst a f;simp only[if_true];refine⟨xs++[pp mb],?_,fun q x r=>?_⟩
   .grind [a3M,a4v,GB]
   .have r:(p.clauses++[c])[q]?=O x:=r;have M:xs.length=p.clauses.length:=by have:=s.1;omega
    grind
 .rw[List.length_modify] at hi D;have hold:∀ i j,i<l.length->j=k->i≠k->∀ b,(sL i).ownBlock=O b->tv.ownBlock≠O b:=fun i j hi _ g b d e=>by
   rcases m with m | m
   .grind [nc]
   .have a:=m b e;obtain⟨o,g1,-⟩:=h.cl i l[i] zg;have:=(E9 g1 d).2.1;omega
  by_cases g:i=k
  .grind
  .simp only[bU g] at d;by_cases F:j=k
   .grind
   .simp only[bU F];grind [nc]
end
