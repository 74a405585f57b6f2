/- A part of one proof (VT4, VT5, ShX3d, KG16, KG17). -/
import Derived.Test.YtoegidfbnkaabaaGreatDoorPkJBA
set_option linter.all false
set_option maxRecDepth 100000
set_option maxHeartbeats 8000000
open Option renaming some → O, none → V
open Go renaming Value → Y, World → Z
open Bool renaming true → A, false → G
open Go.Obj renaming cells → ae
open Go.Ending renaming returned → ah
open Go.Value renaming nilIface → ai, iface → aj, tuple → ak, pointer → aq
open Go.Calls renaming mono → aZJ
open Nat renaming le_trans → aZL, zero_le → aZY
open List renaming getElem?_eq_getElem → aZM, length_append → aZO, drop_eq_getElem_cons → aZP, range → aZ9, getElem_mem → a0a, append_assoc → a0d, length_singleton → a0p, take_length → a0L, modify_succ_cons → a0U, take_add_one → a1D, flatten_append → a3e
open Go.Value.slice renaming injEq → aZZ
open Go.Value renaming string → aZ1, pointer → a0s
open Go.Exit renaming thenS → a0o
open UInt8 renaming toNat_inj → a0z
open Go.Proofs.Tryz renaming prog → a9M
open Go.Proofs.Tryz
namespace Go.Proofs.YtoegidfbnkaabaaGreatDoor
open P
open Go.RowKit Sx
variable{R:Ending->Z->Prop}{fm b cap e j k mb n o pb told wb:Nat}{cs iB:Array Y}{o4 o5 tv u vv:Y}{out:Bs}{res:Z->Prop}{w:Z}{xs:List Y}
def P.aPD(i:P.In)(x:UInt8)(r:Bs)(s:List Nat):tU i (x::r) s=if x=115\/x=112 then ff (s.headD 0)::tU i r s.tail else if x=99 then Cf i.const::tU i r s else if x=110 then i.name::tU i r s else s.map ff++tU i r s:=rfl
def P.aqR:∀ (sh:Bs) (q:Nat) (a:q<sh.length),uX (sh.take (q+1))=uX (sh.take q)+(if sh[q]=115\/sh[q]=112 then 1 else 0)
 | x::r,0,_=>by simp [uX]
 | x::r,q+1,a=>by
  have:=P.aqR r q zg;simp only[List.take_succ_cons,uX,List.getElem_cons_succ];omega
def P.aqS:∀ (sh:Bs) (q:Nat),uX (sh.take q)<=uX sh
 | [],q=>zg
 | x::r,0=>by simp [uX]
 | x::r,q+1=>by have:=P.aqS r q;simp only[List.take_succ_cons,uX];omega
theorem aqT{w sh:Bs}(h:mB w=O sh):sh.length<=3:=by
 rcases Pb h with⟨-,rfl⟩| ⟨-,rfl⟩| ⟨-,rfl⟩| ⟨-,rfl⟩| ⟨-,rfl⟩| ⟨-,rfl⟩| ⟨-,rfl⟩<;>decide
def aPE{a b c d:Y}(f:iB[o]?=O a)(g:iB[o+1]?=O b)(h:iB[o+2]?=O c)(j:iB[o+3]?=O d):(iB.toList.drop o).take 4=[a,b,c,d]:=by
 have e:∀ q,iB[q]?=iB.toList[q]?:=fun q=>by rw[Array.getElem?_toList]
 rw[e] at f g h j;apply List.ext_getElem?;intro i;rw[List.getElem?_take];grind
def aqU{c:Co}(hc:rD w mb c)(I:qp w wb out)(Cu:∀ i∈c.ins,Gu i/\DH i)(hP:lH w)(hg:4<wb)(hlen:c.ins.length<=30000)(aX7:out.length<=500000000) :
  Calls a9M 109 #[pp mb,pp wb] w fun e w'=>e = ah (ak #[])/\qp w' wb (out++Ag c)/\jE wb w w':=by
 suffices H:∀ R:Ending->Z->Prop,(∀ e w',(e = ah (ak #[])/\qp w' wb (out++Ag c)/\jE wb w w')->R e w')->Calls a9M 109 #[pp mb,pp wb] w R from H _ zg;intro R hR;obtain⟨base,vb,iv,vv,gj,sb,cut,k,hM,qI,vz⟩:=hc;have mO:=hM.cell;have lwb:wb<w.heap.size:=by
  obtain⟨_,_,_,E,_⟩:=I;exact yH
 obtain⟨pa,pc,yX⟩:=gV hM.row;have nO:=mO;rw[yX] at nO;have vZ:k.ins.length=c.ins.length:=zg;refine aNu ?_;refine du @n9.eq_1 nO ?_;refine⟨fun m z w'=>∃ j,z 18=zi ((j:Nat):Int)/\j<=c.ins.length/\m=c.ins.length-j/\qp w' wb (out++((c.ins.take j).map Gp).flatten)/\jE wb w w',⟨_,0,J,aZY _,J,zg,bB.refl _ _⟩,?_⟩;intro m z d w3 hI;refine toPr ?_;obtain⟨j,Q,hj,rfl,h3,xr⟩:=hI;have Qu:=xr.size;by_cases fw:j<c.ins.length
 .have YE:=hM.bfr xr I.ty;have hP3:lH w3:=hP.bH fun o ho=>xr.block _ _ ho (by
   rintro (e | ⟨e,-⟩)<;>omega)
  have nA:k.ins[j]?=O c.ins[j]:=zg;obtain⟨i,NL⟩:=cd (c.ins[j]);rw[<- NL] at nA;obtain⟨hwi,pk⟩:=Cu i (by rw[NL];exact a0a _);obtain⟨cv,sv,bl,q1,q2,q3,q4,D,G7⟩:=YE.ins.at nA;rcases YE.row.2 with⟨f,E⟩| ⟨ib,aqh,cur,f,E,hib,h4,h5,S,h7⟩
  .omega
  rw[yX] at f;simp only[aZZ,true_and] at f;obtain⟨rfl,rfl⟩:=f;have AO:∀ o,o<k.ins.length*4->cur[o]?=gj[o]?:=zg;have c0:cur[j*4]?=O (aT i.word):=zg;have c1:cur[j*4+1]?=O (aT i.name):=zg;have c2:cur[j*4+2]?=O cv:=zg;have c3:cur[j*4+3]?=O sv:=zg;have jW:((j:Nat):Int).toNat=j:=zo;have fM:((j:Nat):Int)<(k.ins.length:Int):=zo;have aX8:j*4+4<=cur.size:=zo;refine dH @n9.eq_1 Q fM (zA hib (zA @jW (zA @c0 (zA @c1 (zA @c2 @c3))))) ?_;have iX:cv = ai\/∃ t u,cv = aj t u:=by
   cases qd:i.const with
   | none=>rw[qd] at D;exact .inl D
   | some t=>
    rw[qd] at D;cases t with
    | atom s=>exact .inr ⟨_,_,D⟩
    | int s=>exact .inr ⟨_,_,D⟩
    | var i=>exact D.elim
    | comp s l=>exact D.elim
  obtain⟨L,M,Dk⟩:∃ a c,sv = .slice a i.s.length c:=by
   rcases G7 with⟨f,E,-⟩| ⟨b,cap,cs,-,-,f,-⟩<;>grind
  subst Dk;have KP:cv.oneCell'=true:=by rcases iX with rfl | ⟨_,_,rfl⟩<;>rfl
  rw[aPE c0 c1 c2 c3];rw[zip (show([aZ1 (bs i.word),aT i.name,cv,.slice L i.s.length M]:List Y).length=4/\([aZ1 (bs i.word),aT i.name,cv,.slice L i.s.length M]:List Y).all Value.oneCell'=A from⟨J,by simp [KP];exact⟨J,J,J⟩⟩)];have NB:oF #[aZ1 (bs []),aT [],ai,bV] 0 (Value.agg [aZ1 (bs i.word),aT i.name,cv,.slice L i.s.length M].toArray).cells.toList=#[aT i.word,aT i.name,cv,.slice L i.s.length M]:=by
   rcases iX with rfl | ⟨_,_,rfl⟩<;>rfl
  rw[NB];obtain⟨T,jl⟩:=cd (bO (w3.alloc (ae #[aT [],aT [],ai,bV] 198 (0,0))) w3.heap.size (ae #[aT i.word,aT i.name,cv,.slice L i.s.length M] 198));rw[<- jl];have gW:Ext w3 T:=yF;have g4:T.heap[w3.heap.size]?=aM #[aT i.word,aT i.name,cv,.slice L i.s.length M] 198:=yH;clear jl NB;obtain⟨xb,tM⟩:=cd w3.heap.size;rw[<- tM] at g4 ⊢;have Tt:Ext T T.drew:=yF;refine⟨fun w'=>Ext T w',Tt,?_⟩;refine cO (pp xb) (fun w' hS=>fa @n9.eq_1) ?_;refine cO (aT i.word) (fun w' hS=>by have h9:=hS.ext _ _ g4;have:=bg h9;exact lP @n9.eq_1 h9) ?_;refine aZJ (apU T.drew) ?_;rintro e F ⟨ud,sm,sl,rfl,hsm,UA,agy⟩;have qO:Ext T F:=yF;refine⟨qO,?_⟩;obtain⟨sh,rZ⟩:=cd ((mB i.word).getD []);have aPG:∀ {K:Y->Prop} {X:Y->Z->Prop},(∀ v,IZ F sm v sh->K v)->RD a9M (Instr.lookup 240 (.map (O sm)) (aT i.word) G) F K X:=fun hK=>by
   rw[KQ (k:=9) (e:=98) (z:=bV) zk zk zk UA.map i.word G];have:=UA.find agy i.word;cases hf:fL i.word sl 0 with
   | none=>
    rw[hf] at this;have this:mB i.word=none:=this;rw[this] at rZ;exact hK _ (.inl ⟨rZ,J⟩)
   | some p=>
    grind
  refine aPG fun YF QE=>?_;have Bg:=gW.trans qO;have aPH:sh.length<=3:=by
   grind [mB,aqT]
  have agz:∀ x∈sh,x=115\/x=112\/x=99\/x=110\/x=42:=by
   rw[rZ];cases PK:mB i.word with
   | none=>simp
   | some s=>
    rw[Option.getD_some];rcases Pb PK with⟨-,rfl⟩| ⟨-,rfl⟩| ⟨-,rfl⟩| ⟨-,rfl⟩| ⟨-,rfl⟩| ⟨-,rfl⟩| ⟨-,rfl⟩<;>decide
  have aX9:uX sh<=i.s.length:=by rw[rZ];exact hwi.wf
  have xm:99∈sh->∃ t,i.const=O t/\er t/\SF t=true:=by rw[rZ];exact hwi.cn
  have vY:=pk.qg;have aYa:=pk.small;have yu:=qO.ext _ _ g4;have hP5:lH F:=(hP3.ext Bg);have hT:Gp i=mz i.word (tU i sh i.s):=by rw[rZ];rfl
  obtain⟨YG,shc,agA⟩:∃ a c,YF = .slice a sh.length c:=by
   rcases QE with⟨f,E⟩| ⟨b,zz,-,f,-⟩<;>grind
  subst agA;refine cH @n9.eq_1 ?_;refine⟨fun m z w'=>∃ q n ls v1,z 27=zi ((q:Nat):Int)/\z 7=zi ((n:Nat):Int)/\z 6=v1/\q<=sh.length/\m=sh.length-q/\Ext F w'/\CO F.heap.size w' v1 ls/\tU i sh i.s=ls++tU i (sh.drop q) (i.s.drop n)/\n=uX (sh.take q)/\ls.length<=10*q,
   ⟨_,0,0,[],_,J,J,J,aZY _,J,yF,CO.nil,J,J,aZY _⟩,?_⟩
  intro m z1 d1 w6 hI;refine toPr ?_;obtain⟨q,n,ls,v1,U,h7,S,hq,rfl,j5,eP,C,hn,Gt⟩:=hI;have DY:=Bg.trans j5;have po:=j5.ext _ _ yu;have lx6:=bg po;obtain⟨ra,rc,rfl⟩:=gV eP;have uK:lH w6:=hP5.ext j5;by_cases UB:q<sh.length
  .have xW:((q:Nat):Int).toNat=q:=zo;have X5:((n:Nat):Int).toNat=n:=zo;have qR:((q:Nat):Int)<(sh.length:Int):=zo;obtain⟨shb,shz,mn,G9⟩:∃ b z,YG=O ⟨b,0,V⟩/\F.heap[b]?=O (ae (tX sh).toArray 5 z):=by
    rcases QE with⟨f,-⟩| ⟨b,zz,-,f,-,E⟩<;>grind
   subst mn;have W:=j5.ext _ _ G9;obtain⟨x,Yp⟩:=cd (sh[q]);have jy:(tX sh).toArray[q]?=O (.int .u8 (x.toNat:Int)):=zg;have NZ:sh.drop q=x::sh.drop (q+1):=by grind [aZP]
   have zZ:=P.aqR sh q UB;have aYb:=P.aqS sh (q+1);rw[<- Yp] at zZ;have BW:x∈sh:=zg;obtain⟨B,hB⟩:=cd ((tX sh).toArray);rw[<- hB] at W jy;rw[NZ,P.aPD] at C;have p8:=agz x BW;by_cases qf:x=115\/x=112
   .rw[zip qf] at zZ C;have Kp:n<i.s.length:=zo;have hhd:(i.s.drop n).headD 0=i.s[n]:=by grind [aZP]
    have sI:(i.s.drop n).tail=i.s.drop (n+1):=by rw[List.tail_drop]
    rw[hhd,sI] at C;obtain⟨svb,IK,agC,agD,agE⟩:∃ b cs,L=O ⟨b,0,V⟩/\w3.heap[b]?=aM cs 3/\cs[n]?=O (zi ((i.s[n]:Nat):Int)):=by
     rcases G7 with⟨f,-,-⟩| ⟨b,cap,cs,-,-,f,E,h3,h4,h5⟩
     .exact yH
     .simp only[aZZ,true_and] at f;refine⟨b,cs,f.1,E,?_⟩;have:=congrArg (fun l=>l[n]?) h5;grind
    subst agC;have aPN:=DY.ext _ _ agD;have hni:((n:Nat):Int)<(i.s.length:Int):=zo;have Am:i.s[n]<100000:=(by grind [a0a]);have hxI:((x.toNat:Int)=115/\x=115)\/(¬ (x.toNat:Int)=115/\(x.toNat:Int)=112):=by
     rcases qf with rfl | rfl<;>grind
    have aYc:∀ g:Z,g=w6->True:=zg;refine dH @n9.eq_1 U qR (zA W (zA jy @xW)) ?_;refine⟨fun s oE=>s 32 = .bool A/\oE=w6,?_,?_⟩
    .rcases hxI with⟨e1,-⟩| ⟨e1,e2⟩
     .exact lP @n9.eq_1 @e1
     .exact FU @n9.eq_1 @e1 @e2
    .rintro s g ⟨Ck,rfl⟩ dd;refine dH @n9.eq_1 Ck po (zA h7 (zA S (zA aPN (zA agE (zA hni @X5))))) ?_;refine aZJ (Ko ((i.s[n]:Nat):Int) zo zo g uK) ?_;rintro e N ⟨rfl,vl⟩;rw[<- P.Kn];refine du @n9.eq_1 S ?_;refine(eP.ext vl).push yF zo fun v9 w9 N0 lJ=>?_;refine iZ @n9.eq_1 h7 U ?_;refine⟨_,?_,q+1,n+1,ls++[ff i.s[n]],v9,zg,zg,zg,zo,J,lJ,N0,zg,zo,zg⟩;omega
   .rw[bZ qf] at zZ C;have QF:¬ (x.toNat:Int)=115:=fun e=>qf (.inl (a0z.1 zg));have agF:¬ (x.toNat:Int)=112:=fun e=>qf (.inr (a0z.1 zg));refine dH @n9.eq_1 U qR (zA W (zA jy @xW)) ?_;refine⟨fun s oE=>s 32 = .bool G/\oE=w6,?_,?_⟩
    .exact FU @n9.eq_1 QF agF
    .rintro s g ⟨Ck,rfl⟩ dd;by_cases uY:x=99
     .rw[zip uY] at C;have q8:(x.toNat:Int)=99:=by rw[uY];rfl
      obtain⟨t,ht,Nt,htc⟩:=xm (uY ▸ BW);rw[ht] at D C;refine dH @n9.eq_1 Ck q8 po ?_;obtain⟨N,Lj⟩:=cd (bO ((g.alloc (ae #[bV,zi 9] 96)).alloc (ae #[aq V,bV,aq V,.map V] 103)) (g.heap.size+1) (ae #[aq V,bV,pp g.heap.size,.map V] 103));rw[<- Lj];have vp:Ext g N:=yF;have qS:N.heap[g.heap.size]?=aM #[bV,zi 9] 96:=yH;have qW:N.heap[g.heap.size+1]?=aM #[aq V,bV,pp g.heap.size,.map V] 103:=yH;clear Lj;rw[size_alloc];refine aZJ (aPC D Nt qS qW (uK.ext vp) zo zo zo) ?_;rintro e w9 ⟨rfl,ke,nm9,YH⟩;have ed:Cf (O t)≠[]:=by
       cases t with
       | atom s=>unfold er at Nt;exact Nt.2
       | int z=>exact fun e=>by have:=aHL z;rw[show kO z=[] from e] at this;grind
       | var _=>exact D.elim
       | comp _ _=>exact D.elim
      have sk:Ext g w9:=⟨ke.os.trans vp.os,ke.tape.trans vp.tape,ke.output.trans vp.output,aZL vp.size ke.size,fun b o I _=>ke.block _ _ (vp.ext _ _ I) (by
       have:=bg I;rintro (h | h | ⟨h,-⟩)<;>omega)⟩
      refine cH @n9.eq_1 ?_;refine aZJ (am6 YH ed) ?_;rintro e jg ⟨rfl,uM⟩;have aPS:Ext g jg:=⟨uM.os.trans sk.os,uM.tape.trans sk.tape,uM.output.trans sk.output,aZL sk.size uM.size,fun b o I _=>uM.block _ _ (sk.ext _ _ I) (by
       have:=bg I;rintro (h | ⟨h,-⟩)<;>omega)⟩
      refine du @n9.eq_1 S ?_;refine(eP.ext aPS).push yF zo fun v11 jc aPT sZ=>?_;refine iZ @n9.eq_1 h7 U ?_;refine⟨_,?_,q+1,n,ls++[Cf (O t)],v11,zg,zg,zg,zo,J,sZ,aPT,zg,zo,zg⟩;omega
     .rw[bZ uY] at C;have UC:¬ (x.toNat:Int)=99:=fun e=>uY (a0z.1 zg);by_cases Ap:x=110
      .rw[zip Ap] at C;have q8:(x.toNat:Int)=110:=by rw[Ap];rfl
       refine dH @n9.eq_1 Ck UC (zA q8 (zA po S)) ?_;refine eP.push j5 zo fun v9 w9 N0 lJ=>?_;refine iZ @n9.eq_1 h7 U ?_;refine⟨_,?_,q+1,n,ls++[i.name],v9,zg,zg,zg,zo,J,lJ,N0,zg,zo,zg⟩;omega
      .rw[bZ Ap] at C;have agG:¬ (x.toNat:Int)=110:=fun e=>Ap (a0z.1 zg);have QG:x=42:=by
        grind
       have q8:(x.toNat:Int)=42:=by rw[QG];rfl
       have hnI:((n:Nat):Int)<=(i.s.length:Int):=zo;refine dH @n9.eq_1 Ck UC (zA agG (zA q8 (zA po h7))) ?_;rw[X5];obtain⟨sa',iH,hsx⟩:∃ sa',sliced L n i.s.length M 1 = .slice sa' (i.s.length-n) (M-n)/\(n<i.s.length->∃ b cs,sa'=O ⟨b,n,V⟩/\w3.heap[b]?=aM cs 3/\∀ y (hy:y<i.s.length),cs[y]?=O (zi ((i.s[y]:Nat):Int))):=by
        refine⟨_,J,fun xn=>?_⟩;rcases G7 with⟨f,-,-⟩| ⟨b,cap,cs,-,-,f,E,h3,h4,h5⟩
        .exact yH
        .simp only[aZZ,true_and] at f;obtain⟨rfl,rfl⟩:=f;refine⟨b,cs,?_,E,fun y hy=>?_⟩
         .rw[bZ zo];simp [Addr.add];omega
         .have:=congrArg (fun l=>l[y]?) h5;grind
       rw[iH];refine du @n9.eq_1 S ?_;refine⟨fun m z w'=>∃ p v2,z 73=zi ((p:Nat):Int)/\z 6=v2/\p<=i.s.length-n/\m=i.s.length-n-p/\Ext F w'/\CO F.heap.size w' v2 (ls++((i.s.drop n).take p).map ff),
        ⟨_,0,_,J,J,aZY _,J,j5,(by show CO _ _ (.slice _ _ _) _;exact yH)⟩,?_⟩
       intro m z2 d2 N hI;refine toPr ?_;obtain⟨p,v2,h73,h62,hp,rfl,vl,YI⟩:=hI;by_cases jS:p<i.s.length-n
       .obtain⟨svb,IK,agC,agD,agE⟩:=hsx zo;subst agC;have aPV:=(Bg.trans vl).ext _ _ agD;have hnp:n+p<i.s.length:=zo;have Am:i.s[n+p]<100000:=(by grind [a0a]);have ns:=agE (n+p) hnp;have epn:((p:Nat):Int).toNat=p:=zo;have yP:((p:Nat):Int)<(((i.s.length-n:Nat):Nat):Int):=zo;refine dH @n9.eq_1 h73 yP (zA aPV (zA ns @epn)) ?_;refine aZJ (Ko ((i.s[n+p]:Nat):Int) zo zo N (hP5.ext vl)) ?_;rintro e w9 ⟨rfl,lJ⟩;rw[<- P.Kn];obtain⟨ra2,rc2,rfl⟩:=gV YI;refine du @n9.eq_1 h62 ?_;refine(YI.ext lJ).push yF zg fun v10 jg aqw Bp=>?_;refine du @n9.eq_1 h73 ?_;refine⟨_,?_,p+1,v10,zg,zg,zo,J,Bp,?_⟩
        .omega
        grind [a1D,aZM,a0d]
       .have G3:p=i.s.length-n:=zo;subst G3;have yP:¬ (((i.s.length-n:Nat):Nat):Int)<(((i.s.length-n:Nat):Nat):Int):=zo;have e:(i.s.drop n).take (i.s.length-n)=i.s.drop n:=zg;rw[e] at YI;refine dH @n9.eq_1 h73 yP U ?_;refine⟨_,?_,q+1,n,ls++(i.s.drop n).map ff,v2,zg,zo,zo,zo,J,vl,YI,zg,zo,zg⟩;omega
  .have D4:q=sh.length:=zo;subst D4;have qR:¬ (sh.length:Int)<(sh.length:Int):=zo;rw[List.drop_length] at C;have C:tU i sh i.s=ls:=by grind [tU]
   refine dH @n9.eq_1 U qR (zA po S) ?_;have h6b:=(h3.ext DY);have sI:(((c.ins.take j).map Gp).flatten).length<=60*j:=by
    have key:∀ l:List P.In,(∀ i∈l,DH i)->((l.map Gp).flatten).length<=60*l.length:=by
     intro l;induction l with
     | nil=>grind
     | cons a r ih=>
      intro h;have f:=ac5 (h a List.mem_cons_self);grind
    grind
   have lQ:=ac5 pk;rw[hT,C] at lQ;unfold mz at lQ;rw[YC] at lQ;simp only[aZO,List.length_cons,List.length_nil] at lQ;refine aZJ (YD h6b eP.sl zo zg) ?_;rintro e N ⟨rfl,h8,I9⟩;refine du @n9.eq_1 Q ?_;have aPY:jE wb w3 N:=(bB.dZ DY).trans I9;refine⟨_,?_,j+1,zg,zo,J,?_,xr.trans aPY⟩
   .omega
   grind [a1D,aZM,a3e,a0d]
 .have fw:j=c.ins.length:=zo;subst fw;have fM:¬ (c.ins.length:Int)<(k.ins.length:Int):=zo;rw[a0L] at h3;refine iZ @n9.eq_1 Q fM ?_;exact hR _ _ ⟨J,h3,xr⟩
def YJ(w:Z)(pb:Nat)(p:Pd):Prop:=∃ a fV,w.heap[pb]?=aM #[aT p.name,zi (p.arity:Int),a] 213/\fK (fun _=>True) w 185 a fV/\fV.length=p.clauses.length /\
 ∀ (j:Nat) (c:Co),p.clauses[j]?=O c->∃ mb,fV[j]?=O (pp mb)/\rD w mb c
theorem YJ.ext{w w':Z}{pb:Nat}{p:Pd}(h:YJ w pb p)(a:Ext w w'):YJ w' pb p:=by
 obtain⟨b,fV,c,d,e,f⟩:=h;exact⟨b,fV,a.ext _ _ c,d.mono zg (by grind [bB.ext]),e,(by grind [rD.ext])⟩
def YK{α:Type}(f:α->Bs)(l:List α)(j:Nat):(((l.take j).map f).flatten).length<=((l.map f).flatten).length:=by
 grind [List.take_append_drop,a3e,aZO]
theorem YL{α:Type}(f:α->Bs){l:List α}(a:j<l.length):((l.take (j+1)).map f).flatten=((l.take j).map f).flatten++f l[j]:=by
 grind [a1D,aZM,a3e]
def sl2{a b:Bs}:fK (fun _=>True) (w.alloc (ae #[aT a,aT b] 9)) 9 (cR w.heap.size 2 2) ([a,b].map fun s=>aT s):=
 .inr ⟨w.heap.size,_,J,trivial,yH,Nat.le_refl _,J⟩
def sl1{a:Bs}:fK (fun _=>True) (w.alloc (ae #[aT a] 9)) 9 (cR w.heap.size 1 1) ([a].map fun s=>aT s):=
 .inr ⟨w.heap.size,_,J,trivial,yH,Nat.le_refl _,J⟩
def agK(f:Bs)(l:List Bs):(mz f l).length=f.length+(xV l).length+1:=by
 grind [mz,YC,aZO]
def aP0{l:List Pd}{ask:Co}(K:fK (fun _=>True) w 211 tv xs)(jS:xs.length=l.length)(YM:∀ (j:Nat) (p:Pd),l[j]?=O p->∃ pb,xs[j]?=O (pp pb)/\YJ w pb p)(O9:rD w fm ask)
  (dx:∀ p∈l,∀ c∈p.clauses,Aj c/\∀ i∈c.ins,Gu i) (IE:Aj ask/\∀ i∈ask.ins,Gu i) (kL:∀ p∈l,p.arity<=1000) (vY:∀ p∈l,p.clauses.length<=1000) (hl:l.length<=1000) (ht:told<=1000) (r:lH w) (hlen:(yI l ask told).length<=400000000) :
  Calls a9M 81 #[tv,pp fm,zi (told:Int)] w fun e w'=>e = ah (aT (yI l ask told))/\Ext w w':=by
 suffices H:∀ R:Ending->Z->Prop,(∀ e w',(e = ah (aT (yI l ask told))/\Ext w w')->R e w')->Calls a9M 81 #[tv,pp fm,zi (told:Int)] w R from H _ yF;intro R hR;obtain⟨la,lc,rfl⟩:=K.sl;have hgp:4<w.heap.size:=by
  have:=r;unfold lH Lib.TabIs World.var? at this;rw[adn] at this;simp only[Option.bind_some] at this;rcases Nat.lt_or_ge 4 w.heap.size with h | h
  .exact h
  .rw[Array.getElem?_eq_none h] at this;cases this
 have tS:(yI l ask told).length=((l.map vV).flatten).length+(mz [113,117,101,114,121] [ff ask.slots,ff told]).length+(Ag ask).length:=by grind [yI,aZO]
 refine aNv ?_;refine bE ?_;obtain⟨wb,rm⟩:=cd w.heap.size;obtain⟨w1,jK⟩:=cd (w.alloc (ae #[aq V,bV] 100));rw[<- jK,<- rm];have s:Ext w w1:=yF;have hB1:qp w1 wb []:=⟨aq V,bV,.inl J,yH,World.ownsRow_nil _ _ _ _⟩;clear jK;have t:∀ {w'},jE wb w1 w'->Ext w w':=fun{w'} u=>⟨u.os.trans s.os,u.tape.trans s.tape,u.output.trans s.output,aZL s.size u.size,fun b o hb _=>u.block _ _ (s.ext _ _ hb) (by
  have:=bg hb;rintro (h | ⟨h,-⟩)<;>omega)⟩
 have hTb:∀ {w'},jE wb w1 w'->lH w':=(by grind [lH.ext]);have hg:4<wb:=zo;refine⟨fun m z w'=>∃ j,z 14=zi ((j:Nat):Int)/\j<=l.length/\m=l.length-j/\qp w' wb (((l.take j).map vV).flatten)/\jE wb w1 w',⟨_,0,J,aZY _,J,zg,bB.refl _ _⟩,?_⟩;intro m z d w3 L;refine toPr ?_;obtain⟨j,M,hj,rfl,N,Q⟩:=L;have D:=t Q;have hft:=YK vV l j;by_cases E:j<l.length
 .obtain⟨pb,lx,x⟩:=YM j l[j] zg;obtain⟨g,cs,e3,e4,e5,e6⟩:=K.at' (j:=j) zo;simp only[aZZ,true_and] at e3;obtain⟨rfl,rfl⟩:=e3;rw[lx] at e6;obtain⟨p,S⟩:=cd (l[j]);rw[<- S] at x;have T:p∈l:=zg;have jW:((j:Nat):Int).toNat=j:=zo;have U:((j:Nat):Int)<(xs.length:Int):=zo;have g3:=D.ext _ _ e5;obtain⟨UD,fV,q1,q2,q3,q4⟩:=id x;obtain⟨cla,clc,rfl⟩:=q2.sl;have Qc:=D.ext _ _ q1;have dC:Ext w3 w3.drew:=yF;have kL:=kL p T;have Ia:=vY p T;refine dH M U @g3 (zA @e6 @jW) ?_;refine⟨fun w'=>Ext w3 w',dC,?_⟩;rw[ju];refine cO (pp pb) (fun w' hS=>eR) ?_;refine cO (aT p.name) (fun w' hS=>by have W:=hS.ext _ _ Qc;have:=bg W;exact fa W) ?_;refine cH @Qc ?_;refine aZJ (Ko (p.arity:Int) zo zo w3.drew (by grind [lH.ext])) ?_;rintro e X ⟨rfl,sY⟩;have gW:=dC.trans sY;rw[<- P.Kn];refine⟨gW,?_⟩;refine bE ?_;have y:Ext w3 (X.alloc (ae #[aT p.name,aT (ff p.arity)] 9)):=gW.alloc _;have hpt:=YK vV l (j+1);rw[YL vV E,<- S,aZO] at hpt;have aYj:(vV p).length=(mz [112,114,101,100] [p.name,ff p.arity]).length+((p.clauses.map fun c=>mz [99,108,97,117,115,101] [ff c.slots]++Ag c).flatten).length:=by grind [vV,aZO]
  have aP3:=agK [112,114,101,100] [p.name,ff p.arity];refine aZJ (YD (N.ext y) sl2 zs zo) ?_;rintro e w5 ⟨rfl,h5,aP4⟩;have Sq:jE wb w1 w5:=Q.trans ((bB.dZ y).trans aP4);have ud:=t Sq;have q15:=ud.ext _ _ q1;refine cH @q15 ?_;refine⟨fun m z w'=>∃ q,z 34=zi ((q:Nat):Int)/\q<=p.clauses.length/\m=p.clauses.length-q/\qp w' wb (((l.take j).map vV).flatten++mz [112,114,101,100] [p.name,ff p.arity]++((p.clauses.take q).map fun c=>mz [99,108,97,117,115,101] [ff c.slots]++Ag c).flatten)/\jE wb w1 w',
   ⟨_,0,J,aZY _,J,zg,Sq⟩,?_⟩
  intro m z2 d2 F L;refine toPr ?_;obtain⟨q,a,hq,rfl,I,f⟩:=L;have n:=t f;have hfq:=YK (fun c=>mz [99,108,97,117,115,101] [ff c.slots]++Ag c) p.clauses q;by_cases UB:q<p.clauses.length
  .obtain⟨mb,iX,BU⟩:=q4 q p.clauses[q] zg;obtain⟨g2,E5,f3,f4,f5,f6⟩:=q2.at' (j:=q) zo;simp only[aZZ,true_and] at f3;obtain⟨rfl,rfl⟩:=f3;rw[iX] at f6;obtain⟨c,Fg⟩:=cd (p.clauses[q]);rw[<- Fg] at BU;have CT:c∈p.clauses:=zg;obtain⟨PQ,Ye⟩:=dx p T c CT;have xW:((q:Nat):Int).toNat=q:=zo;have qR:((q:Nat):Int)<(fV.length:Int):=zo;have g6:=n.ext _ _ f5;obtain⟨base,vb,iv,vv,gj,sb,cut,k,hM,qI,vz⟩:=id BU;have I7:=(hM.ext n).cell;have K:=PQ.slots;refine dH a qR @g6 (zA @f6 (zA @xW I7)) ?_;refine aZJ (Ko (k.slots:Int) zo zo F (r.ext n)) ?_;rintro e w7 ⟨rfl,QH⟩;rw[<- P.Kn,qI];refine bE ?_;have B:Ext F (w7.alloc (ae #[aT (ff c.slots)] 9)):=QH.alloc _;have hcq:=YK (fun c=>mz [99,108,97,117,115,101] [ff c.slots]++Ag c) p.clauses (q+1);rw[YL _ UB,<- Fg,aZO,aZO] at hcq;have aYl:=agK [99,108,97,117,115,101] [ff c.slots];refine aZJ (YD (I.ext B) sl1 zs zg) ?_;rintro e w8 ⟨rfl,h8,C⟩;have I9:jE wb w1 w8:=f.trans ((bB.dZ B).trans C);have vl:=t I9;refine bE ?_;refine aZJ (aqU (BU.ext vl) h8 (by grind [Aj.ins]) (r.ext vl) hg PQ.len zg) ?_;rintro e w9 ⟨rfl,W,aP6⟩;refine cH a ?_;refine⟨_,?_,q+1,zg,zo,J,?_,I9.trans aP6⟩
   .omega
   grind [YL,a0d]
  .have D4:q=p.clauses.length:=zo;subst D4;have qR:¬ (p.clauses.length:Int)<(fV.length:Int):=zo;rw[a0L] at I;refine iZ a qR M ?_;refine⟨_,?_,j+1,zg,zo,J,?_,f⟩
   .omega
   .rw[YL vV E,<- S];rw[show vV p=mz [112,114,101,100] [p.name,ff p.arity]++(p.clauses.map fun c=>mz [99,108,97,117,115,101] [ff c.slots]++Ag c).flatten from J,<- a0d];omega
 .have E:j=l.length:=zo;subst E;have U:¬ (l.length:Int)<(xs.length:Int):=zo;rw[a0L] at N;obtain⟨base,vb,iv,vv,gj,sb,cut,k,hM,qI,vz⟩:=id O9;have YE:=(hM.ext D);have hc3:=YE.cell;have has:=IE.1.slots;refine iZ M U hc3 ?_;refine aZJ (Ko (k.slots:Int) zo zo w3 (r.ext D)) ?_;rintro e X ⟨rfl,sY⟩;refine bE ?_;refine aZJ (Ko (told:Int) zo zo X (by grind [lH.ext])) ?_;rintro e w5 ⟨rfl,qO⟩;rw[<- P.Kn,<- P.Kn,qI];refine bE ?_;have Bg:=sY.trans qO;have DY:Ext w3 (w5.alloc (ae #[aT (ff ask.slots),aT (ff told)] 9)):=Bg.alloc _;have aP3:=agK [113,117,101,114,121] [ff ask.slots,ff told];refine aZJ (YD (N.ext DY) sl2 zs zo) ?_;rintro e F ⟨rfl,I,aP7⟩;have f:jE wb w1 F:=Q.trans ((bB.dZ DY).trans aP7);have n:=t f;refine bE ?_;refine aZJ (aqU (O9.ext n) I (by grind [Aj.ins]) (r.ext n) hg IE.1.len zg) ?_;rintro e w7 ⟨rfl,h7,aP8⟩;have Dq:=f.trans aP8;refine bE ?_;refine aZJ (aOj h7 zg) ?_;rintro e w8 ⟨rfl,C⟩;refine bE ?_;exact hR _ _ ⟨J,yF⟩
open Go.Proofs.YtoegidfbnkaabaaGreatDoor.Sx
section
variable{p0 p1 p2 p3 p4 p5 p6 p7:Y}{w:Z}{R:Ending->Z->Prop}
def aP9:=cy w R [p0,p1] (gd [(5,[6,17])] [(12003,[6,11])] [(7,9)] [(12,[14,0,1,2,3,4,5,6,7,8,9,10,11,12,13,14]),(13,[18,0,1,2,3,4,5,6,7,8,9,10,11,12,13,14,15,16,17]),(15,[9,0,1,3,4,5,6,7,2,8,9,10])] [] [] [12,18,36,37,38]) func41
end
def aQa(v4 v5:Y)(w:Z):CallsD a9M 79 #[v4,v5] .returning w fun e u' w'=>e = ah (ak #[])/\u' = .returning/\w'=w:=by
 refine callsD_of_wpS func79 J fun Ab cs hu=>?_;apply wpS_seq;apply wpS_region;simp [wpOpsS,go_sem,recoverD,hu,ntmps79,a0o,aop];apply wpS_seq;apply wpS_region;simp [wpOpsS,go_sem,recoverD,hu,ntmps79,a0o];refine wpS_cond (t:=false) (by simp [Act.eval]) ?_;simp only[Bool.false_eq_true,if_false];refine wpS_of_wp (wp_skip ?_);cases Ab;simp_all [bodyPostS,results,Tryz.results79]
def aQb(b4 b5:Nat)(o4 o5:Y)(xt:List PanicEntry)(w:Z)(h4:w.heap[b4]?=aM #[o4] 9)(h5:w.heap[b5]?=aM #[o5] 4)(ed:b4≠b5) :
  CallsD a9M 79 #[pp b4,pp b5] (.panicking ({ v:=aj 27 (zi 4),recovered:=false }::xt)) w fun e u' w'=>
   e = ah (ak #[])/\u' = .panicking ({ v:=aj 27 (zi 4),recovered:=true }::xt)/\w'=bO (bO w b4 (ae #[aT []] 9 (0,0))) b5 (ae #[.bool G] 4):=by
 have c4:w.cell? ⟨b4,0,V⟩=O o4:=D0 h4 J;have z4:=jH h4 0;have e1:w.setCell ⟨b4,0,V⟩ (aT [])=bO w b4 (ae #[aT []] 9 (0,0)):=uD h4 _;obtain⟨w1,jK⟩:=cd (bO w b4 (ae #[aT []] 9 (0,0)));rw[<- jK] at e1;have Im:w1.heap[b5]?=aM #[o5] 4:=yH;have c5:w1.cell? ⟨b5,0,V⟩=O o5:=D0 Im J;have z5:=jH Im 0;have e2:w1.setCell ⟨b5,0,V⟩ (.bool G)=bO w1 b5 (ae #[.bool G] 4):=uD Im _;have e1':w.setCell ⟨b4,0,V⟩ (.string { data:=#[] })=w1:=e1;refine callsD_of_wpS func79 J fun Ab cs hu=>?_;apply wpS_seq;apply wpS_region;simp [wpOpsS,go_sem,recoverD,hu,ntmps79,a0o,aoq];apply wpS_seq;apply wpS_region;simp [wpOpsS,go_sem,recoverD,hu,ntmps79,a0o];refine wpS_cond (t:=true) (by simp [Act.eval]) ?_;simp only[if_true];apply wpS_region;simp [wpOpsS,go_sem,recoverD,hu,ntmps79,a0o,c4,z4,e1',c5,z5,e2];simp [bodyPostS,results,Tryz.results79,jK]
def aQd(h:res w) :
  LV a9M res R [{ target:=.fn (.func 79) #[tv,vv],args:=#[]++#[] }] .returning w:=by
 refine BD zk zs ((aQa tv vv w).mono ?_);rintro e a w' ⟨rfl,rfl,rfl⟩;exact h
def aQe(a:w.heap[pb]?=aM #[o4] 9)
  (b:w.heap[cap]?=aM #[o5] 4) (c:pb≠cap)
  (h:res (bO (bO w pb (ae #[aT []] 9 (0,0))) cap (ae #[.bool G] 4))) :
  LV a9M res R [{ target:=.fn (.func 79) #[pp pb,pp cap],args:=#[]++#[] }]
   (.panicking [{ v:=aj 27 (zi 4),recovered:=false }]) w:=by
 refine BD zk zs ((aQb pb cap o4 o5 [] w a b c).mono ?_);rintro e d w' ⟨rfl,rfl,rfl⟩;exact h
def rE:Nat->List Pd->List (List UInt8×Y)
 | _,[]=>[]
 | i,p::r=>(P.keyOf p.name p.arity,.int .i64 (i:Int))::rE (i+1) r
def aq3(p:Pd):∀ (l:List Pd) (i:Nat),rE i (l++[p])=rE i l++[(P.keyOf p.name p.arity,zi ((i+l.length:Nat):Int))]
 | [],i=>rfl
 | q::l,i=>by
  rw[List.cons_append,rE,rE,aq3 p l (i+1),List.cons_append,List.length_cons,show i+1+l.length=i+(l.length+1) from by omega]
def aq4(x:Co):∀ (l:List Pd) (i k:Nat),rE i (l.modify k fun p=>{ p with clauses:=p.clauses++[x] })=rE i l
 | [],i,k=>zg
 | q::l,i,0=>by simp [rE]
 | q::l,i,k+1=>by rw[a0U,rE,rE,aq4 x l (i+1) k]
def YN{name:Bs}{n:Nat}(a:n<80)(x:Co):∀ (l:List Pd) (i j:Nat),(∀ p∈l,p.arity<80)->match fL (P.keyOf name n) (rE i l) j with
  | none=>rj name n x l=l++[⟨name,n,[x]⟩]
  | some (q,v)=>∃ k,q=j+k/\v = .int .i64 ((i+k:Nat):Int)/\k<l.length/\rj name n x l=l.modify k fun p=>{ p with clauses:=p.clauses++[x] }
 | [],i,j,_=>rfl
 | p::l,i,j,h=>by
  have d:=h p List.mem_cons_self;have ih:=YN (name:=name) a x l (i+1) (j+1) zg;rw[rE,fL];by_cases hk:P.keyOf p.name p.arity=P.keyOf name n
  .rw[zip hk];obtain⟨e,f⟩:=(P.aee d a).1 hk;exact⟨0,J,J,zs,by rw[rj,zip ⟨e,f⟩];rfl⟩
  .rw[bZ hk];have b:¬ (p.name=name/\p.arity=n):=zg;cases c:fL (P.keyOf name n) (rE (i+1) l) (j+1) with
   | none=>
    rw[c] at ih;have ih:rj name n x l=l++[⟨name,n,[x]⟩]:=ih;show rj name n x (p::l)=_;rw[rj,bZ b,ih];rfl
   | some g=>
    obtain⟨q,v⟩:=g;rw[c] at ih;obtain⟨k,o,r,s,m⟩:=ih;exact⟨k+1,zo,zg,zg,by rw[rj,bZ b,m,a0U]⟩
structure Bv(ba:Nat)(w:Z)(v:Y)(qt:Nat->Nat)(rF:Nat->Y)(l:List Pd):Prop where
 row:w.ownsRow ba 211 1 v l.length ((aZ9 l.length).map fun i=>a0s (O ⟨qt i,0,V⟩))
 lo:∀ i,i<l.length->ba<=qt i
 cell:∀ (i:Nat) (p:Pd),l[i]?=O p->w.heap[qt i]?=aM #[aT p.name,zi ((p.arity:Nat):Int),rF i] 213
 cl:∀ (i:Nat) (p:Pd),l[i]?=O p->∃ fV:List Y,w.ownsRow ba 185 1 (rF i) p.clauses.length fV/\∀ (k:Nat) (c:Co),p.clauses[k]?=O c->∃ mb,fV[k]?=O (pp mb)/\rD w mb c
 ne:∀ i j,i<l.length->j<l.length->i≠j->qt i≠qt j
 nc:∀ i j,i<l.length->j<l.length->i≠j->∀ b,(rF i).ownBlock=O b->(rF j).ownBlock≠O b
section
variable{ba:Nat}{w w':Z}{v:Y}{qt:Nat->Nat}{rF:Nat->Y}{l:List Pd}
theorem Bv.ext(h:Bv ba w v qt rF l)(a:Ext w w'):Bv ba w' v qt rF l:=
 ⟨jJ a.ext h.row,h.lo,(by grind [bB.ext,cell]),fun i p b=>let ⟨fV,c,d⟩:=h.cl i p b;⟨fV,jJ a.ext c,(by grind [rD.ext])⟩,h.ne,h.nc⟩
theorem rD.agO{c:Co}(h:rD w mb c)(hk:∀ (b T:Nat) (cs:Array Y),T≠185->T≠213->T≠211->w.heap[b]?=aM cs T->w'.heap[b]?=aM cs T):rD w' mb c:=by
 obtain⟨base,vb,iv,vv,gj,sb,cut,k,h,a⟩:=h;refine⟨base,vb,iv,vv,gj,sb,cut,k,⟨(by grind [fJ.cell]),h.lo,⟨h.row.1,?_⟩,h.ins.bH yH,(by grind [fJ.vars]),h.I2,h.sep,h.I3⟩,a⟩;rcases h.row.2 with e | ⟨b,cap,cur,rfl,a,f,d⟩
 .exact yH
 .exact .inr ⟨b,cap,cur,J,a,yH,d⟩
theorem Fy{size:Nat}(h:w.ownsRow ba e size u n xs)(hk:∀ (b:Nat) (cs:Array Y),u.ownBlock=O b->w.heap[b]?=aM cs e->w'.heap[b]?=aM cs e):w'.ownsRow ba e size u n xs:=by
 refine⟨h.1,?_⟩;rcases h.2 with f | ⟨b,cap,cur,rfl,a,c,d⟩
 .exact yH
 .exact .inr ⟨b,cap,cur,J,a,hk b cur J c,d⟩
def Ea{size:Nat}(h:w.ownsRow ba e size u n xs)(a:u.ownBlock=O b):ba<=b/\b<w.heap.size/\∃ cs,w.heap[b]?=aM cs e:=by
 rcases h.2 with⟨c,-⟩| ⟨g,cap,cur,c,d,f,-⟩
 .rw[c] at a;cases a
 .rw[c] at a;injection a with a;exact yH
theorem Fz{size:Nat}(a:w.ownsRow ba e size u n xs)(c:w.grownBy w' u.ownBlock){T:Nat}(g:T≠e)(d:w.heap[b]?=aM cs T):w'.heap[b]?=aM cs T:=by
 rw[c.block b (bg d) (fun f=>?_)]
 .omega
 .obtain⟨-,-,cs',h⟩:=Ea a f.symm;grind
def Bv.new(h:Bv ba w v qt rF l){nb:Nat}{name:Bs}(t:w.heap[nb]?=aM #[aT name,zi (n:Int),bV] 213)(u:ba<=nb)(x:∀ i,i<l.length->qt i≠nb)
  (y:w'.ownsRow ba 211 1 tv (l.length+1) (((aZ9 l.length).map fun i=>a0s (O ⟨qt i,0,V⟩))++[pp nb])) (r:w.grownBy w' v.ownBlock) :
  Bv ba w' tv (fun i=>if i=l.length then nb else qt i) (fun i=>if i=l.length then bV else rF i) (l++[⟨name,n,[]⟩]):=by
 have z:∀ {b T:Nat} {cs:Array Y},T≠211->w.heap[b]?=aM cs T->w'.heap[b]?=aM cs T:=fun s c=>Fz h.row r s c;have o:∀ i p,(l++[(⟨name,n,[]⟩:Pd)])[i]?=O p->(i<l.length/\l[i]?=O p)\/(i=l.length/\p=⟨name,n,[]⟩):=zg;refine⟨?_,fun i a=>?_,fun i p a=>?_,fun i p a=>?_,fun i j a m q=>?_,fun i j a m q b c=>?_⟩
 .have e:(aZ9 (l++[(⟨name,n,[]⟩:Pd)]).length).map (fun i=>a0s (O ⟨(if i=l.length then nb else qt i),0,V⟩))=((aZ9 l.length).map fun i=>a0s (O ⟨qt i,0,V⟩))++[pp nb]:=by
   rw[aZO,a0p,List.range_succ,List.map_append]
   congr 1
   .refine List.map_congr_left fun i a=>?_;grind
   grind
  grind
 .simp only[aZO,a0p] at a;by_cases d:i=l.length
  .grind
  .simp only[bZ d];grind [lo]
 .rcases o i p a with⟨g,f⟩| ⟨g,f⟩
  .simp only[bZ (show i≠l.length by omega)];grind [cell]
  exact yH
 .rcases o i p a with⟨g,f⟩| ⟨g,f⟩
  .simp only[bZ (show i≠l.length by omega)];obtain⟨fV,g1,g2⟩:=h.cl i p f;exact⟨fV,(by grind [Fy]),(by grind [rD.agO])⟩
  .subst g f;simp only[if_true];exact⟨[],⟨J,yH⟩,zg⟩
 .simp only[aZO,a0p] at a m;by_cases d:i=l.length
  .grind
  .by_cases k:j=l.length
   .grind
   .simp only[bZ d,bZ k];grind [ne]
 .simp only[aZO,a0p] at a m;by_cases d:i=l.length
  .simp only[zip d] at c;cases c
  .simp only[bZ d] at c;by_cases k:j=l.length
   .simp only[zip k];exact fun e=>by cases e
   .simp only[bZ k];exact h.nc i j zo zo q b c
def Bv.push(h:Bv ba w v qt rF l){p:Pd}{c:Co}(hk:l[k]?=O p)(t:w.ownsRow ba 185 1 (rF k) p.clauses.length xs)(K:∀ (k:Nat) (c:Co),p.clauses[k]?=O c->∃ mb,xs[k]?=O (pp mb)/\rD w mb c)
  (L:rD w mb c) (M:w'.ownsRow ba 185 1 tv (p.clauses.length+1) (xs++[pp mb])) (u:w.grownBy w' (rF k).ownBlock) (n:tv.ownBlock=(rF k).ownBlock\/∀ j,tv.ownBlock=O j->w.heap.size<=j) :
  Bv ba (bO w' (qt k) (ae #[aT p.name,zi (p.arity:Int),tv] 213)) v qt (fun i=>if i=k then tv else rF i) (l.modify k fun p=>{ p with clauses:=p.clauses++[c] }):=by
 have y:k<l.length:=by
  grind
 have z:∀ {b T:Nat} {cs:Array Y},T≠185->w.heap[b]?=aM cs T->w'.heap[b]?=aM cs T:=(by grind [Fz]);have B:=z zd (h.cell k p hk);have C:=bg B;obtain⟨w2,D⟩:=cd (bO w' (qt k) (ae #[aT p.name,zi (p.arity:Int),tv] 213));rw[<- D];have hu:∀ {b T:Nat} {cs:Array Y},(T≠213\/b≠qt k)->w'.heap[b]?=aM cs T->w2.heap[b]?=aM cs T:=yH;have o:∀ i x,(l.modify k fun p=>{ p with clauses:=p.clauses++[c] })[i]?=O x->(i≠k/\l[i]?=O x)\/(i=k/\x={ p with clauses:=p.clauses++[c] }):=zg;have E:∀ {mb c},rD w mb c->rD w2 mb c:=(by grind [rD.agO]);refine⟨?_,fun i d=>h.lo i zg,fun i x d=>?_,fun i x d=>?_,(by grind [ne]),fun i j d F N b f=>?_⟩
 .rw[List.length_modify];exact Fy h.row yH
 .rcases o i x d with⟨a,g⟩| ⟨a,g⟩
  .simp only[bZ a];grind [Nat.lt_or_ge,List.getElem?_eq_none,ne,cell]
  exact yH
 .rcases o i x d with⟨a,g⟩| ⟨a,g⟩
  .simp only[bZ a];have H:i<l.length:=by
    grind
   obtain⟨r,g1,g2⟩:=h.cl i x g;refine⟨r,Fy g1 fun b cs f hx=>hu zg ?_,zg⟩;rw[u.block b (bg hx) (fun e=>h.nc i k H y a b f e.symm)];exact hx
  .subst a g;simp only[if_true];refine⟨xs++[pp mb],?_,fun q x s=>?_⟩
   .grind [aZO,a0p,Fy]
   .have s:(p.clauses++[c])[q]?=O x:=s;have P:xs.length=p.clauses.length:=by have:=t.1;omega
    grind
 .rw[List.length_modify] at d F;have hold:∀ i j,i<l.length->j=k->i≠k->∀ b,(rF i).ownBlock=O b->tv.ownBlock≠O b:=fun i j d _ m b f e=>by
   rcases n with n | n
   .grind [nc]
   .have a:=n b e;obtain⟨r,g1,-⟩:=h.cl i l[i] zg;have:=(Ea g1 f).2.1;omega
  by_cases m:i=k
  .grind
  .simp only[bZ m] at f;by_cases I:j=k
   .grind
   .simp only[bZ I];grind [nc]
end
