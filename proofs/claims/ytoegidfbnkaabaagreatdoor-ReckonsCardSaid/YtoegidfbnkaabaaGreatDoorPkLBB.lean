/- A part of one proof (VT4, VT5, ShX3d, KG16, KG17). -/
import Derived.Test.YtoegidfbnkaabaaGreatDoorPkLBA
set_option linter.all false
set_option maxRecDepth 100000
set_option maxHeartbeats 8000000
open Option renaming some → O, none → V
open Go renaming Value → Y, World → Z
open Bool renaming true → A, false → G
open Go.Obj renaming cells → ae
open Go.Ending renaming returned → ah
open Go.Value renaming nilIface → ai, iface → aj, tuple → ak, pointer → aq
open Go.Calls renaming mono → a1r
open Nat renaming le_trans → a1t, zero_le → a1H
open List renaming getElem?_eq_getElem → a1u, length_append → a1v, drop_eq_getElem_cons → a1y, append_assoc → a1M, getElem_mem → a1S, range → a1U, length_singleton → a2e, take_length → a2B, modify_succ_cons → a2L, take_add_one → a3B, flatten_append → a4Y
open Go.Value.slice renaming injEq → a1I
open Go.Value renaming string → a1N, pointer → a2h
open Go.Exit renaming thenS → a2c
open UInt8 renaming toNat_inj → a2p
open Go.Proofs.Tryz renaming prog → bbJ
open Go.Proofs.Tryz
namespace Go.Proofs.YtoegidfbnkaabaaGreatDoor
open P
open Go.RowKit Sx
variable{R:Ending->Z->Prop}{fk b cap e j k mb n o pb told wb:Nat}{cs iB:Array Y}{o4 o5 tv u vv:Y}{out:Bs}{res:Z->Prop}{w:Z}{xs:List Y}
def P.aQH(i:P.In)(x:UInt8)(r:Bs)(s:List Nat):qd i (x::r) s=if x=115\/x=112 then dL (s.headD 0)::qd i r s.tail else if x=99 then AH i.const::qd i r s else if x=110 then i.name::qd i r s else s.map dL++qd i r s:=rfl
def P.arS:∀ (sh:Bs) (q:Nat) (a:q<sh.length),vD (sh.take (q+1))=vD (sh.take q)+(if sh[q]=115\/sh[q]=112 then 1 else 0)
 | x::r,0,_=>by simp [vD]
 | x::r,q+1,a=>by
  have:=P.arS r q zg;simp only[List.take_succ_cons,vD,List.getElem_cons_succ];omega
def P.arT:∀ (sh:Bs) (q:Nat),vD (sh.take q)<=vD sh
 | [],q=>zg
 | x::r,0=>by simp [vD]
 | x::r,q+1=>by have:=P.arT r q;simp only[List.take_succ_cons,vD];omega
theorem arU{w sh:Bs}(h:kS w=O sh):sh.length<=3:=by
 rcases P4 h with⟨-,rfl⟩| ⟨-,rfl⟩| ⟨-,rfl⟩| ⟨-,rfl⟩| ⟨-,rfl⟩| ⟨-,rfl⟩| ⟨-,rfl⟩<;>decide
def aQI{a b c d:Y}(f:iB[o]?=O a)(g:iB[o+1]?=O b)(h:iB[o+2]?=O c)(j:iB[o+3]?=O d):(iB.toList.drop o).take 4=[a,b,c,d]:=by
 have e:∀ q,iB[q]?=iB.toList[q]?:=fun q=>by rw[Array.getElem?_toList]
 rw[e] at f g h j;apply List.ext_getElem?;intro i;rw[List.getElem?_take];grind
def arV{c:Co}(hc:su w mb c)(I:qT w wb out)(C7:∀ i∈c.ins,G0 i/\D9 i)(hP:lZ w)(hg:4<wb)(hlen:c.ins.length<=30000)(aZu:out.length<=500000000) :
  Calls bbJ 109 #[pp mb,pp wb] w fun e w'=>e = ah (ak #[])/\qT w' wb (out++tn c)/\jH wb w w':=by
 suffices H:∀ R:Ending->Z->Prop,(∀ e w',(e = ah (ak #[])/\qT w' wb (out++tn c)/\jH wb w w')->R e w')->Calls bbJ 109 #[pp mb,pp wb] w R from H _ zg;intro R hR;obtain⟨base,vb,iv,vv,gk,sb,cut,k,hM,rq,vW⟩:=hc;have pS:=hM.cell;have lwb:wb<w.heap.size:=by
  obtain⟨_,_,_,E,_⟩:=I;exact yH
 obtain⟨pa,pc,zy⟩:=gV hM.row;have oy:=pS;rw[zy] at oy;have xm:k.ins.length=c.ins.length:=zg;refine aOw ?_;refine dj @oL.eq_1 oy ?_;refine⟨fun m z w'=>∃ j,z 18=zi ((j:Nat):Int)/\j<=c.ins.length/\m=c.ins.length-j/\qT w' wb (out++((c.ins.take j).map AI).flatten)/\jH wb w w',⟨_,0,J,a1H _,J,zg,bB.refl _ _⟩,?_⟩;intro m z d w3 hI;refine toPr ?_;obtain⟨j,Q,hj,rfl,h3,xU⟩:=hI;have Rg:=xU.size;by_cases fp:j<c.ins.length
 .have Zw:=hM.bfr xU I.ty;have hP3:lZ w3:=hP.bJ fun o ho=>xU.block _ _ ho (by
   rintro (e | ⟨e,-⟩)<;>omega)
  have nZ:k.ins[j]?=O c.ins[j]:=zg;obtain⟨i,UW⟩:=cg (c.ins[j]);rw[<- UW] at nZ;obtain⟨hwi,pW⟩:=C7 i (by rw[UW];exact a1S _);obtain⟨cv,sv,bl,q1,q2,q3,q4,D,Hw⟩:=Zw.ins.at nZ;rcases Zw.row.2 with⟨f,E⟩| ⟨ib,are,cur,f,E,hib,h4,h5,S,h7⟩
  .omega
  rw[zy] at f;simp only[a1I,true_and] at f;obtain⟨rfl,rfl⟩:=f;have Bo:∀ o,o<k.ins.length*4->cur[o]?=gk[o]?:=zg;have c0:cur[j*4]?=O (aT i.word):=zg;have c1:cur[j*4+1]?=O (aT i.name):=zg;have c2:cur[j*4+2]?=O cv:=zg;have c3:cur[j*4+3]?=O sv:=zg;have j6:((j:Nat):Int).toNat=j:=zo;have fM:((j:Nat):Int)<(k.ins.length:Int):=zo;have aZv:j*4+4<=cur.size:=zo;refine dB @oL.eq_1 Q fM (zA hib (zA @j6 (zA @c0 (zA @c1 (zA @c2 @c3))))) ?_;have iY:cv = ai\/∃ t u,cv = aj t u:=by
   cases qH:i.const with
   | none=>rw[qH] at D;exact .inl D
   | some t=>
    rw[qH] at D;cases t with
    | atom s=>exact .inr ⟨_,_,D⟩
    | int s=>exact .inr ⟨_,_,D⟩
    | var i=>exact D.elim
    | comp s l=>exact D.elim
  obtain⟨L,M,DS⟩:∃ a c,sv = .slice a i.s.length c:=by
   rcases Hw with⟨f,E,-⟩| ⟨b,cap,cs,-,-,f,-⟩<;>grind
  subst DS;have Ls:cv.oneCell'=true:=by rcases iY with rfl | ⟨_,_,rfl⟩<;>rfl
  rw[aQI c0 c1 c2 c3];rw[zip (show([a1N (bs i.word),aT i.name,cv,.slice L i.s.length M]:List Y).length=4/\([a1N (bs i.word),aT i.name,cv,.slice L i.s.length M]:List Y).all Value.oneCell'=A from⟨J,by simp [Ls];exact⟨J,J,J⟩⟩)];have Om:po #[a1N (bs []),aT [],ai,bW] 0 (Value.agg [a1N (bs i.word),aT i.name,cv,.slice L i.s.length M].toArray).cells.toList=#[aT i.word,aT i.name,cv,.slice L i.s.length M]:=by
   rcases iY with rfl | ⟨_,_,rfl⟩<;>rfl
  rw[Om];obtain⟨T,jo⟩:=cg (bQ (w3.alloc (ae #[aT [],aT [],ai,bW] 198 (0,0))) w3.heap.size (ae #[aT i.word,aT i.name,cv,.slice L i.s.length M] 198));rw[<- jo];have gW:Ext w3 T:=yF;have g4:T.heap[w3.heap.size]?=aO #[aT i.word,aT i.name,cv,.slice L i.s.length M] 198:=yH;clear jo Om;obtain⟨xb,uB⟩:=cg w3.heap.size;rw[<- uB] at g4 ⊢;have Uk:Ext T T.drew:=yF;refine⟨fun w'=>Ext T w',Uk,?_⟩;refine cQ (pp xb) (fun w' hS=>fh @oL.eq_1) ?_;refine cQ (aT i.word) (fun w' hS=>by have h9:=hS.ext _ _ g4;have:=bg h9;exact lM @oL.eq_1 h9) ?_;refine a1r (aqS T.drew) ?_;rintro e F ⟨tY,sm,sl,rfl,hsm,Vr,ahq⟩;have rB:Ext T F:=yF;refine⟨rB,?_⟩;obtain⟨sh,tE⟩:=cg ((kS i.word).getD []);have aQK:∀ {K:Y->Prop} {X:Y->Z->Prop},(∀ v,Jr F sm v sh->K v)->RD bbJ (Instr.lookup 240 (.map (O sm)) (aT i.word) G) F K X:=fun hK=>by
   rw[Lt (k:=9) (e:=98) (z:=bW) zk zk zk Vr.map i.word G];have:=Vr.find ahq i.word;cases hf:fL i.word sl 0 with
   | none=>
    rw[hf] at this;have this:kS i.word=none:=this;rw[this] at tE;exact hK _ (.inl ⟨tE,J⟩)
   | some p=>
    grind
  refine aQK fun Zx Rp=>?_;have BN:=gW.trans rB;have aQL:sh.length<=3:=by
   grind [kS,arU]
  have ahr:∀ x∈sh,x=115\/x=112\/x=99\/x=110\/x=42:=by
   rw[tE];cases Qz:kS i.word with
   | none=>simp
   | some s=>
    rw[Option.getD_some];rcases P4 Qz with⟨-,rfl⟩| ⟨-,rfl⟩| ⟨-,rfl⟩| ⟨-,rfl⟩| ⟨-,rfl⟩| ⟨-,rfl⟩| ⟨-,rfl⟩<;>decide
  have aZw:vD sh<=i.s.length:=by rw[tE];exact hwi.wf
  have xP:99∈sh->∃ t,i.const=O t/\eA t/\Tz t=true:=by rw[tE];exact hwi.cn
  have xl:=pW.qL;have aZx:=pW.small;have yV:=rB.ext _ _ g4;have hP5:lZ F:=(hP3.ext BN);have hT:AI i=kM i.word (qd i sh i.s):=by rw[tE];rfl
  obtain⟨Zy,shc,ahs⟩:∃ a c,Zx = .slice a sh.length c:=by
   rcases Rp with⟨f,E⟩| ⟨b,zz,-,f,-⟩<;>grind
  subst ahs;refine cJ @oL.eq_1 ?_;refine⟨fun m z w'=>∃ q n ls v1,z 27=zi ((q:Nat):Int)/\z 7=zi ((n:Nat):Int)/\z 6=v1/\q<=sh.length/\m=sh.length-q/\Ext F w'/\Ds F.heap.size w' v1 ls/\qd i sh i.s=ls++qd i (sh.drop q) (i.s.drop n)/\n=vD (sh.take q)/\ls.length<=10*q,
   ⟨_,0,0,[],_,J,J,J,a1H _,J,yF,Ds.nil,J,J,a1H _⟩,?_⟩
  intro m z1 d1 w6 hI;refine toPr ?_;obtain⟨q,n,ls,v1,U,h7,S,hq,rfl,lh,eG,C,hn,GZ⟩:=hI;have Et:=BN.trans lh;have pY:=lh.ext _ _ yV;have lx6:=bg pY;obtain⟨ra,rc,rfl⟩:=gV eG;have vp:lZ w6:=hP5.ext lh;by_cases Vs:q<sh.length
  .have yv:((q:Nat):Int).toNat=q:=zo;have YY:((n:Nat):Int).toNat=n:=zo;have rE:((q:Nat):Int)<(sh.length:Int):=zo;obtain⟨shb,shz,mV,Hy⟩:∃ b z,Zy=O ⟨b,0,V⟩/\F.heap[b]?=O (ae (uJ sh).toArray 5 z):=by
    rcases Rp with⟨f,-⟩| ⟨b,zz,-,f,-,E⟩<;>grind
   subst mV;have W:=lh.ext _ _ Hy;obtain⟨x,Zi⟩:=cg (sh[q]);have jB:(uJ sh).toArray[q]?=O (.int .u8 (x.toNat:Int)):=zg;have OH:sh.drop q=x::sh.drop (q+1):=by grind [a1y]
   have AA:=P.arS sh q Vs;have aZy:=P.arT sh (q+1);rw[<- Zi] at AA;have Cw:x∈sh:=zg;obtain⟨B,hB⟩:=cg ((uJ sh).toArray);rw[<- hB] at W jB;rw[OH,P.aQH] at C;have sX:=ahr x Cw;by_cases qJ:x=115\/x=112
   .rw[zip qJ] at AA C;have K0:n<i.s.length:=zo;have hhd:(i.s.drop n).headD 0=i.s[n]:=by grind [a1y]
    have tM:(i.s.drop n).tail=i.s.drop (n+1):=by rw[List.tail_drop]
    rw[hhd,tM] at C;obtain⟨svb,Jc,ahu,ahv,ahw⟩:∃ b cs,L=O ⟨b,0,V⟩/\w3.heap[b]?=aO cs 3/\cs[n]?=O (zi ((i.s[n]:Nat):Int)):=by
     rcases Hw with⟨f,-,-⟩| ⟨b,cap,cs,-,-,f,E,h3,h4,h5⟩
     .exact yH
     .simp only[a1I,true_and] at f;refine⟨b,cs,f.1,E,?_⟩;have:=congrArg (fun l=>l[n]?) h5;grind
    subst ahu;have aQR:=Et.ext _ _ ahv;have hni:((n:Nat):Int)<(i.s.length:Int):=zo;have AR:i.s[n]<100000:=(by grind [a1S]);have hxI:((x.toNat:Int)=115/\x=115)\/(¬ (x.toNat:Int)=115/\(x.toNat:Int)=112):=by
     rcases qJ with rfl | rfl<;>grind
    have aZz:∀ g:Z,g=w6->True:=zg;refine dB @oL.eq_1 U rE (zA W (zA jB @yv)) ?_;refine⟨fun s pf=>s 32 = .bool A/\pf=w6,?_,?_⟩
    .rcases hxI with⟨e1,-⟩| ⟨e1,e2⟩
     .exact lM @oL.eq_1 @e1
     .exact J5 @oL.eq_1 @e1 @e2
    .rintro s g ⟨CX,rfl⟩ dd;refine dB @oL.eq_1 CX pY (zA h7 (zA S (zA aQR (zA ahw (zA hni @YY))))) ?_;refine a1r (KZ ((i.s[n]:Nat):Int) zo zo g vp) ?_;rintro e N ⟨rfl,vO⟩;rw[<- P.Fz];refine dj @oL.eq_1 S ?_;refine(eG.ext vO).push yF zo fun v9 w9 OI nj=>?_;refine jc @oL.eq_1 h7 U ?_;refine⟨_,?_,q+1,n+1,ls++[dL i.s[n]],v9,zg,zg,zg,zo,J,nj,OI,zg,zo,zg⟩;omega
   .rw[bM qJ] at AA C;have Rq:¬ (x.toNat:Int)=115:=fun e=>qJ (.inl (a2p.1 zg));have ahx:¬ (x.toNat:Int)=112:=fun e=>qJ (.inr (a2p.1 zg));refine dB @oL.eq_1 U rE (zA W (zA jB @yv)) ?_;refine⟨fun s pf=>s 32 = .bool G/\pf=w6,?_,?_⟩
    .exact J5 @oL.eq_1 Rq ahx
    .rintro s g ⟨CX,rfl⟩ dd;by_cases vE:x=99
     .rw[zip vE] at C;have rL:(x.toNat:Int)=99:=by rw[vE];rfl
      obtain⟨t,ht,Og,htc⟩:=xP (vE ▸ Cw);rw[ht] at D C;refine dB @oL.eq_1 CX rL pY ?_;obtain⟨N,L0⟩:=cg (bQ ((g.alloc (ae #[bW,zi 9] 96)).alloc (ae #[aq V,bW,aq V,.map V] 103)) (g.heap.size+1) (ae #[aq V,bW,pp g.heap.size,.map V] 103));rw[<- L0];have vR:Ext g N:=yF;have qS:N.heap[g.heap.size]?=aO #[bW,zi 9] 96:=yH;have qW:N.heap[g.heap.size+1]?=aO #[aq V,bW,pp g.heap.size,.map V] 103:=yH;clear L0;rw[size_alloc];refine a1r (aQG D Og qS qW (vp.ext vR) zo zo zo) ?_;rintro e w9 ⟨rfl,ko,nm9,hB9⟩;have ee:AH (O t)≠[]:=by
       cases t with
       | atom s=>unfold eA at Og;exact Og.2
       | int z=>exact fun e=>by have:=aIO z;rw[show gX z=[] from e] at this;grind
       | var _=>exact D.elim
       | comp _ _=>exact D.elim
      have tJ:Ext g w9:=⟨ko.os.trans vR.os,ko.tape.trans vR.tape,ko.output.trans vR.output,a1t vR.size ko.size,fun b o I _=>ko.block _ _ (vR.ext _ _ I) (by
       have:=bg I;rintro (h | h | ⟨h,-⟩)<;>omega)⟩
      refine cJ @oL.eq_1 ?_;refine a1r (an9 hB9 ee) ?_;rintro e jl ⟨rfl,vu⟩;have aQX:Ext g jl:=⟨vu.os.trans tJ.os,vu.tape.trans tJ.tape,vu.output.trans tJ.output,a1t tJ.size vu.size,fun b o I _=>vu.block _ _ (tJ.ext _ _ I) (by
       have:=bg I;rintro (h | ⟨h,-⟩)<;>omega)⟩
      refine dj @oL.eq_1 S ?_;refine(eG.ext aQX).push yF zo fun v11 jT aQY zE=>?_;refine jc @oL.eq_1 h7 U ?_;refine⟨_,?_,q+1,n,ls++[AH (O t)],v11,zg,zg,zg,zo,J,zE,aQY,zg,zo,zg⟩;omega
     .rw[bM vE] at C;have Vt:¬ (x.toNat:Int)=99:=fun e=>vE (a2p.1 zg);by_cases AW:x=110
      .rw[zip AW] at C;have rL:(x.toNat:Int)=110:=by rw[AW];rfl
       refine dB @oL.eq_1 CX Vt (zA rL (zA pY S)) ?_;refine eG.push lh zo fun v9 w9 OI nj=>?_;refine jc @oL.eq_1 h7 U ?_;refine⟨_,?_,q+1,n,ls++[i.name],v9,zg,zg,zg,zo,J,nj,OI,zg,zo,zg⟩;omega
      .rw[bM AW] at C;have ahy:¬ (x.toNat:Int)=110:=fun e=>AW (a2p.1 zg);have Rr:x=42:=by
        grind
       have rL:(x.toNat:Int)=42:=by rw[Rr];rfl
       have hnI:((n:Nat):Int)<=(i.s.length:Int):=zo;refine dB @oL.eq_1 CX Vt (zA ahy (zA rL (zA pY h7))) ?_;rw[YY];obtain⟨sa',iQ,hsx⟩:∃ sa',sliced L n i.s.length M 1 = .slice sa' (i.s.length-n) (M-n)/\(n<i.s.length->∃ b cs,sa'=O ⟨b,n,V⟩/\w3.heap[b]?=aO cs 3/\∀ y (hy:y<i.s.length),cs[y]?=O (zi ((i.s[y]:Nat):Int))):=by
        refine⟨_,J,fun xQ=>?_⟩;rcases Hw with⟨f,-,-⟩| ⟨b,cap,cs,-,-,f,E,h3,h4,h5⟩
        .exact yH
        .simp only[a1I,true_and] at f;obtain⟨rfl,rfl⟩:=f;refine⟨b,cs,?_,E,fun y hy=>?_⟩
         .rw[bM zo];simp [Addr.add];omega
         .have:=congrArg (fun l=>l[y]?) h5;grind
       rw[iQ];refine dj @oL.eq_1 S ?_;refine⟨fun m z w'=>∃ p v2,z 73=zi ((p:Nat):Int)/\z 6=v2/\p<=i.s.length-n/\m=i.s.length-n-p/\Ext F w'/\Ds F.heap.size w' v2 (ls++((i.s.drop n).take p).map dL),
        ⟨_,0,_,J,J,a1H _,J,lh,(by show Ds _ _ (.slice _ _ _) _;exact yH)⟩,?_⟩
       intro m z2 d2 N hI;refine toPr ?_;obtain⟨p,v2,h73,h62,hp,rfl,vO,Zz⟩:=hI;by_cases j3:p<i.s.length-n
       .obtain⟨svb,Jc,ahu,ahv,ahw⟩:=hsx zo;subst ahu;have aQ0:=(BN.trans vO).ext _ _ ahv;have hnp:n+p<i.s.length:=zo;have AR:i.s[n+p]<100000:=(by grind [a1S]);have nJ:=ahw (n+p) hnp;have epn:((p:Nat):Int).toNat=p:=zo;have zl:((p:Nat):Int)<(((i.s.length-n:Nat):Nat):Int):=zo;refine dB @oL.eq_1 h73 zl (zA aQ0 (zA nJ @epn)) ?_;refine a1r (KZ ((i.s[n+p]:Nat):Int) zo zo N (hP5.ext vO)) ?_;rintro e w9 ⟨rfl,nj⟩;rw[<- P.Fz];obtain⟨ra2,rc2,rfl⟩:=gV Zz;refine dj @oL.eq_1 h62 ?_;refine(Zz.ext nj).push yF zg fun v10 jl arw zD=>?_;refine dj @oL.eq_1 h73 ?_;refine⟨_,?_,p+1,v10,zg,zg,zo,J,zD,?_⟩
        .omega
        grind [a3B,a1u,a1M]
       .have Hs:p=i.s.length-n:=zo;subst Hs;have zl:¬ (((i.s.length-n:Nat):Nat):Int)<(((i.s.length-n:Nat):Nat):Int):=zo;have e:(i.s.drop n).take (i.s.length-n)=i.s.drop n:=zg;rw[e] at Zz;refine dB @oL.eq_1 h73 zl U ?_;refine⟨_,?_,q+1,n,ls++(i.s.drop n).map dL,v2,zg,zo,zo,zo,J,vO,Zz,zg,zo,zg⟩;omega
  .have AP:q=sh.length:=zo;subst AP;have rE:¬ (sh.length:Int)<(sh.length:Int):=zo;rw[List.drop_length] at C;have C:qd i sh i.s=ls:=by grind [qd]
   refine dB @oL.eq_1 U rE (zA pY S) ?_;have h6b:=(h3.ext Et);have tM:(((c.ins.take j).map AI).flatten).length<=60*j:=by
    have key:∀ l:List P.In,(∀ i∈l,D9 i)->((l.map AI).flatten).length<=60*l.length:=by
     intro l;induction l with
     | nil=>grind
     | cons a r ih=>
      intro h;have f:=adW (h a List.mem_cons_self);grind
    grind
   have mj:=adW pW;rw[hT,C] at mj;unfold kM at mj;rw[Zu] at mj;simp only[a1v,List.length_cons,List.length_nil] at mj;refine a1r (Zv h6b eG.sl zo zg) ?_;rintro e N ⟨rfl,h8,JC⟩;refine dj @oL.eq_1 Q ?_;have aQ3:jH wb w3 N:=(bB.ed Et).trans JC;refine⟨_,?_,j+1,zg,zo,J,?_,xU.trans aQ3⟩
   .omega
   grind [a3B,a1u,a4Y,a1M]
 .have fp:j=c.ins.length:=zo;subst fp;have fM:¬ (c.ins.length:Int)<(k.ins.length:Int):=zo;rw[a2B] at h3;refine jc @oL.eq_1 Q fM ?_;exact hR _ _ ⟨J,h3,xU⟩
def ZA(w:Z)(pb:Nat)(p:Pd):Prop:=∃ a fV,w.heap[pb]?=aO #[aT p.name,zi (p.arity:Int),a] 213/\fJ (fun _=>True) w 185 a fV/\fV.length=p.clauses.length /\
 ∀ (j:Nat) (c:Co),p.clauses[j]?=O c->∃ mb,fV[j]?=O (pp mb)/\su w mb c
theorem ZA.ext{w w':Z}{pb:Nat}{p:Pd}(h:ZA w pb p)(a:Ext w w'):ZA w' pb p:=by
 obtain⟨b,fV,c,d,e,f⟩:=h;exact⟨b,fV,a.ext _ _ c,d.mono zg (by grind [bB.ext]),e,(by grind [su.ext])⟩
def ZB{α:Type}(f:α->Bs)(l:List α)(j:Nat):(((l.take j).map f).flatten).length<=((l.map f).flatten).length:=by
 grind [List.take_append_drop,a4Y,a1v]
theorem ZC{α:Type}(f:α->Bs){l:List α}(a:j<l.length):((l.take (j+1)).map f).flatten=((l.take j).map f).flatten++f l[j]:=by
 grind [a3B,a1u,a4Y]
def sl2{a b:Bs}:fJ (fun _=>True) (w.alloc (ae #[aT a,aT b] 9)) 9 (cS w.heap.size 2 2) ([a,b].map fun s=>aT s):=
 .inr ⟨w.heap.size,_,J,trivial,yH,Nat.le_refl _,J⟩
def sl1{a:Bs}:fJ (fun _=>True) (w.alloc (ae #[aT a] 9)) 9 (cS w.heap.size 1 1) ([a].map fun s=>aT s):=
 .inr ⟨w.heap.size,_,J,trivial,yH,Nat.le_refl _,J⟩
def ahC(f:Bs)(l:List Bs):(kM f l).length=f.length+(yu l).length+1:=by
 grind [kM,Zu,a1v]
def aQ5{l:List Pd}{ask:Co}(K:fJ (fun _=>True) w 211 tv xs)(j3:xs.length=l.length)(ZD:∀ (j:Nat) (p:Pd),l[j]?=O p->∃ pb,xs[j]?=O (pp pb)/\ZA w pb p)(P3:su w fk ask)
  (dA:∀ p∈l,∀ c∈p.clauses,AN c/\∀ i∈c.ins,G0 i) (I7:AN ask/\∀ i∈ask.ins,G0 i) (ll:∀ p∈l,p.arity<=1000) (xl:∀ p∈l,p.clauses.length<=1000) (hl:l.length<=1000) (ht:told<=1000) (r:lZ w) (hlen:(oW l ask told).length<=400000000) :
  Calls bbJ 81 #[tv,pp fk,zi (told:Int)] w fun e w'=>e = ah (aT (oW l ask told))/\Ext w w':=by
 suffices H:∀ R:Ending->Z->Prop,(∀ e w',(e = ah (aT (oW l ask told))/\Ext w w')->R e w')->Calls bbJ 81 #[tv,pp fk,zi (told:Int)] w R from H _ yF;intro R hR;obtain⟨la,lc,rfl⟩:=K.sl;have hgp:4<w.heap.size:=by
  have:=r;unfold lZ Lib.TabIs World.var? at this;rw[aei] at this;simp only[Option.bind_some] at this;rcases Nat.lt_or_ge 4 w.heap.size with h | h
  .exact h
  .rw[Array.getElem?_eq_none h] at this;cases this
 have uF:(oW l ask told).length=((l.map rU).flatten).length+(kM [113,117,101,114,121] [dL ask.slots,dL told]).length+(tn ask).length:=by grind [oW,a1v]
 refine aOx ?_;refine bH ?_;obtain⟨wb,rW⟩:=cg w.heap.size;obtain⟨w1,jP⟩:=cg (w.alloc (ae #[aq V,bW] 100));rw[<- jP,<- rW];have s:Ext w w1:=yF;have hB1:qT w1 wb []:=⟨aq V,bW,.inl J,yH,World.ownsRow_nil _ _ _ _⟩;clear jP;have t:∀ {w'},jH wb w1 w'->Ext w w':=fun{w'} u=>⟨u.os.trans s.os,u.tape.trans s.tape,u.output.trans s.output,a1t s.size u.size,fun b o hb _=>u.block _ _ (s.ext _ _ hb) (by
  have:=bg hb;rintro (h | ⟨h,-⟩)<;>omega)⟩
 have hTb:∀ {w'},jH wb w1 w'->lZ w':=(by grind [lZ.ext]);have hg:4<wb:=zo;refine⟨fun m z w'=>∃ j,z 14=zi ((j:Nat):Int)/\j<=l.length/\m=l.length-j/\qT w' wb (((l.take j).map rU).flatten)/\jH wb w1 w',⟨_,0,J,a1H _,J,zg,bB.refl _ _⟩,?_⟩;intro m z d w3 L;refine toPr ?_;obtain⟨j,M,hj,rfl,N,Q⟩:=L;have D:=t Q;have hft:=ZB rU l j;by_cases E:j<l.length
 .obtain⟨pb,lQ,x⟩:=ZD j l[j] zg;obtain⟨g,cs,e3,e4,e5,e6⟩:=K.at' (j:=j) zo;simp only[a1I,true_and] at e3;obtain⟨rfl,rfl⟩:=e3;rw[lQ] at e6;obtain⟨p,S⟩:=cg (l[j]);rw[<- S] at x;have T:p∈l:=zg;have j6:((j:Nat):Int).toNat=j:=zo;have U:((j:Nat):Int)<(xs.length:Int):=zo;have g3:=D.ext _ _ e5;obtain⟨Vu,fV,q1,q2,q3,q4⟩:=id x;obtain⟨cla,clc,rfl⟩:=q2.sl;have QY:=D.ext _ _ q1;have dD:Ext w3 w3.drew:=yF;have ll:=ll p T;have Tj:=xl p T;refine dB M U @g3 (zA @e6 @j6) ?_;refine⟨fun w'=>Ext w3 w',dD,?_⟩;rw[jx];refine cQ (pp pb) (fun w' hS=>eT) ?_;refine cQ (aT p.name) (fun w' hS=>by have W:=hS.ext _ _ QY;have:=bg W;exact fh W) ?_;refine cJ @QY ?_;refine a1r (KZ (p.arity:Int) zo zo w3.drew (by grind [lZ.ext])) ?_;rintro e X ⟨rfl,tZ⟩;have gW:=dD.trans tZ;rw[<- P.Fz];refine⟨gW,?_⟩;refine bH ?_;have y:Ext w3 (X.alloc (ae #[aT p.name,aT (dL p.arity)] 9)):=gW.alloc _;have hpt:=ZB rU l (j+1);rw[ZC rU E,<- S,a1v] at hpt;have aZG:(rU p).length=(kM [112,114,101,100] [p.name,dL p.arity]).length+((p.clauses.map fun c=>kM [99,108,97,117,115,101] [dL c.slots]++tn c).flatten).length:=by grind [rU,a1v]
  have aQ8:=ahC [112,114,101,100] [p.name,dL p.arity];refine a1r (Zv (N.ext y) sl2 zs zo) ?_;rintro e w5 ⟨rfl,h5,aQ9⟩;have To:jH wb w1 w5:=Q.trans ((bB.ed y).trans aQ9);have tY:=t To;have q15:=tY.ext _ _ q1;refine cJ @q15 ?_;refine⟨fun m z w'=>∃ q,z 34=zi ((q:Nat):Int)/\q<=p.clauses.length/\m=p.clauses.length-q/\qT w' wb (((l.take j).map rU).flatten++kM [112,114,101,100] [p.name,dL p.arity]++((p.clauses.take q).map fun c=>kM [99,108,97,117,115,101] [dL c.slots]++tn c).flatten)/\jH wb w1 w',
   ⟨_,0,J,a1H _,J,zg,To⟩,?_⟩
  intro m z2 d2 F L;refine toPr ?_;obtain⟨q,a,hq,rfl,I,f⟩:=L;have n:=t f;have hfq:=ZB (fun c=>kM [99,108,97,117,115,101] [dL c.slots]++tn c) p.clauses q;by_cases Vs:q<p.clauses.length
  .obtain⟨mb,iY,Ct⟩:=q4 q p.clauses[q] zg;obtain⟨g2,FB,f3,f4,f5,f6⟩:=q2.at' (j:=q) zo;simp only[a1I,true_and] at f3;obtain⟨rfl,rfl⟩:=f3;rw[iY] at f6;obtain⟨c,FL⟩:=cg (p.clauses[q]);rw[<- FL] at Ct;have Dv:c∈p.clauses:=zg;obtain⟨QE,Y7⟩:=dA p T c Dv;have yv:((q:Nat):Int).toNat=q:=zo;have rE:((q:Nat):Int)<(fV.length:Int):=zo;have g6:=n.ext _ _ f5;obtain⟨base,vb,iv,vv,gk,sb,cut,k,hM,rq,vW⟩:=id Ct;have JA:=(hM.ext n).cell;have K:=QE.slots;refine dB a rE @g6 (zA @f6 (zA @yv JA)) ?_;refine a1r (KZ (k.slots:Int) zo zo F (r.ext n)) ?_;rintro e w7 ⟨rfl,Rs⟩;rw[<- P.Fz,rq];refine bH ?_;have B:Ext F (w7.alloc (ae #[aT (dL c.slots)] 9)):=Rs.alloc _;have hcq:=ZB (fun c=>kM [99,108,97,117,115,101] [dL c.slots]++tn c) p.clauses (q+1);rw[ZC _ Vs,<- FL,a1v,a1v] at hcq;have aZI:=ahC [99,108,97,117,115,101] [dL c.slots];refine a1r (Zv (I.ext B) sl1 zs zg) ?_;rintro e w8 ⟨rfl,h8,C⟩;have JC:jH wb w1 w8:=f.trans ((bB.ed B).trans C);have vO:=t JC;refine bH ?_;refine a1r (arV (Ct.ext vO) h8 (by grind [AN.ins]) (r.ext vO) hg QE.len zg) ?_;rintro e w9 ⟨rfl,W,aRb⟩;refine cJ a ?_;refine⟨_,?_,q+1,zg,zo,J,?_,JC.trans aRb⟩
   .omega
   grind [ZC,a1M]
  .have AP:q=p.clauses.length:=zo;subst AP;have rE:¬ (p.clauses.length:Int)<(fV.length:Int):=zo;rw[a2B] at I;refine jc a rE M ?_;refine⟨_,?_,j+1,zg,zo,J,?_,f⟩
   .omega
   .rw[ZC rU E,<- S];rw[show rU p=kM [112,114,101,100] [p.name,dL p.arity]++(p.clauses.map fun c=>kM [99,108,97,117,115,101] [dL c.slots]++tn c).flatten from J,<- a1M];omega
 .have E:j=l.length:=zo;subst E;have U:¬ (l.length:Int)<(xs.length:Int):=zo;rw[a2B] at N;obtain⟨base,vb,iv,vv,gk,sb,cut,k,hM,rq,vW⟩:=id P3;have Zw:=(hM.ext D);have hc3:=Zw.cell;have has:=I7.1.slots;refine jc M U hc3 ?_;refine a1r (KZ (k.slots:Int) zo zo w3 (r.ext D)) ?_;rintro e X ⟨rfl,tZ⟩;refine bH ?_;refine a1r (KZ (told:Int) zo zo X (by grind [lZ.ext])) ?_;rintro e w5 ⟨rfl,rB⟩;rw[<- P.Fz,<- P.Fz,rq];refine bH ?_;have BN:=tZ.trans rB;have Et:Ext w3 (w5.alloc (ae #[aT (dL ask.slots),aT (dL told)] 9)):=BN.alloc _;have aQ8:=ahC [113,117,101,114,121] [dL ask.slots,dL told];refine a1r (Zv (N.ext Et) sl2 zs zo) ?_;rintro e F ⟨rfl,I,aRc⟩;have f:jH wb w1 F:=Q.trans ((bB.ed Et).trans aRc);have n:=t f;refine bH ?_;refine a1r (arV (P3.ext n) I (by grind [AN.ins]) (r.ext n) hg I7.1.len zg) ?_;rintro e w7 ⟨rfl,h7,aRd⟩;have DV:=f.trans aRd;refine bH ?_;refine a1r (aPm h7 zg) ?_;rintro e w8 ⟨rfl,C⟩;refine bH ?_;exact hR _ _ ⟨J,yF⟩
open Go.Proofs.YtoegidfbnkaabaaGreatDoor.Sx
section
variable{p0 p1 p2 p3 p4 p5 p6 p7:Y}{w:Z}{R:Ending->Z->Prop}
def aRe:=cy w R [p0,p1] (gd [(5,[6,17])] [(12003,[6,11])] [(7,9)] [(12,[14,0,1,2,3,4,5,6,7,8,9,10,11,12,13,14]),(13,[18,0,1,2,3,4,5,6,7,8,9,10,11,12,13,14,15,16,17]),(15,[9,0,1,3,4,5,6,7,2,8,9,10])] [] [] [12,18,36,37,38]) func41
end
def aRf(v4 v5:Y)(w:Z):CallsD bbJ 79 #[v4,v5] .returning w fun e u' w'=>e = ah (ak #[])/\u' = .returning/\w'=w:=by
 refine callsD_of_wpS func79 J fun AD cs hu=>?_;apply wpS_seq;apply wpS_region;simp [wpOpsS,go_sem,recoverD,hu,ntmps79,a2c,apt];apply wpS_seq;apply wpS_region;simp [wpOpsS,go_sem,recoverD,hu,ntmps79,a2c];refine wpS_cond (t:=false) (by simp [Act.eval]) ?_;simp only[Bool.false_eq_true,if_false];refine wpS_of_wp (wp_skip ?_);cases AD;simp_all [bodyPostS,results,Tryz.results79]
def aRg(b4 b5:Nat)(o4 o5:Y)(xV:List PanicEntry)(w:Z)(h4:w.heap[b4]?=aO #[o4] 9)(h5:w.heap[b5]?=aO #[o5] 4)(ee:b4≠b5) :
  CallsD bbJ 79 #[pp b4,pp b5] (.panicking ({ v:=aj 27 (zi 4),recovered:=false }::xV)) w fun e u' w'=>
   e = ah (ak #[])/\u' = .panicking ({ v:=aj 27 (zi 4),recovered:=true }::xV)/\w'=bQ (bQ w b4 (ae #[aT []] 9 (0,0))) b5 (ae #[.bool G] 4):=by
 have c4:w.cell? ⟨b4,0,V⟩=O o4:=Ew h4 J;have z4:=jJ h4 0;have e1:w.setCell ⟨b4,0,V⟩ (aT [])=bQ w b4 (ae #[aT []] 9 (0,0)):=vg h4 _;obtain⟨w1,jP⟩:=cg (bQ w b4 (ae #[aT []] 9 (0,0)));rw[<- jP] at e1;have IM:w1.heap[b5]?=aO #[o5] 4:=yH;have c5:w1.cell? ⟨b5,0,V⟩=O o5:=Ew IM J;have z5:=jJ IM 0;have e2:w1.setCell ⟨b5,0,V⟩ (.bool G)=bQ w1 b5 (ae #[.bool G] 4):=vg IM _;have e1':w.setCell ⟨b4,0,V⟩ (.string { data:=#[] })=w1:=e1;refine callsD_of_wpS func79 J fun AD cs hu=>?_;apply wpS_seq;apply wpS_region;simp [wpOpsS,go_sem,recoverD,hu,ntmps79,a2c,apu];apply wpS_seq;apply wpS_region;simp [wpOpsS,go_sem,recoverD,hu,ntmps79,a2c];refine wpS_cond (t:=true) (by simp [Act.eval]) ?_;simp only[if_true];apply wpS_region;simp [wpOpsS,go_sem,recoverD,hu,ntmps79,a2c,c4,z4,e1',c5,z5,e2];simp [bodyPostS,results,Tryz.results79,jP]
def aRi(h:res w) :
  LV bbJ res R [{ target:=.fn (.func 79) #[tv,vv],args:=#[]++#[] }] .returning w:=by
 refine B8 zk zs ((aRf tv vv w).mono ?_);rintro e a w' ⟨rfl,rfl,rfl⟩;exact h
def aRj(a:w.heap[pb]?=aO #[o4] 9)
  (b:w.heap[cap]?=aO #[o5] 4) (c:pb≠cap)
  (h:res (bQ (bQ w pb (ae #[aT []] 9 (0,0))) cap (ae #[.bool G] 4))) :
  LV bbJ res R [{ target:=.fn (.func 79) #[pp pb,pp cap],args:=#[]++#[] }]
   (.panicking [{ v:=aj 27 (zi 4),recovered:=false }]) w:=by
 refine B8 zk zs ((aRg pb cap o4 o5 [] w a b c).mono ?_);rintro e d w' ⟨rfl,rfl,rfl⟩;exact h
def sw:Nat->List Pd->List (List UInt8×Y)
 | _,[]=>[]
 | i,p::r=>(P.keyOf p.name p.arity,.int .i64 (i:Int))::sw (i+1) r
def ar4(p:Pd):∀ (l:List Pd) (i:Nat),sw i (l++[p])=sw i l++[(P.keyOf p.name p.arity,zi ((i+l.length:Nat):Int))]
 | [],i=>rfl
 | q::l,i=>by
  rw[List.cons_append,sw,sw,ar4 p l (i+1),List.cons_append,List.length_cons,show i+1+l.length=i+(l.length+1) from by omega]
def ar5(x:Co):∀ (l:List Pd) (i k:Nat),sw i (l.modify k fun p=>{ p with clauses:=p.clauses++[x] })=sw i l
 | [],i,k=>zg
 | q::l,i,0=>by simp [sw]
 | q::l,i,k+1=>by rw[a2L,sw,sw,ar5 x l (i+1) k]
def ZE{name:Bs}{n:Nat}(a:n<80)(x:Co):∀ (l:List Pd) (i j:Nat),(∀ p∈l,p.arity<80)->match fL (P.keyOf name n) (sw i l) j with
  | none=>rT name n x l=l++[⟨name,n,[x]⟩]
  | some (q,v)=>∃ k,q=j+k/\v = .int .i64 ((i+k:Nat):Int)/\k<l.length/\rT name n x l=l.modify k fun p=>{ p with clauses:=p.clauses++[x] }
 | [],i,j,_=>rfl
 | p::l,i,j,h=>by
  have d:=h p List.mem_cons_self;have ih:=ZE (name:=name) a x l (i+1) (j+1) zg;rw[sw,fL];by_cases hk:P.keyOf p.name p.arity=P.keyOf name n
  .rw[zip hk];obtain⟨e,f⟩:=(P.ae6 d a).1 hk;exact⟨0,J,J,zs,by rw[rT,zip ⟨e,f⟩];rfl⟩
  .rw[bM hk];have b:¬ (p.name=name/\p.arity=n):=zg;cases c:fL (P.keyOf name n) (sw (i+1) l) (j+1) with
   | none=>
    rw[c] at ih;have ih:rT name n x l=l++[⟨name,n,[x]⟩]:=ih;show rT name n x (p::l)=_;rw[rT,bM b,ih];rfl
   | some g=>
    obtain⟨q,v⟩:=g;rw[c] at ih;obtain⟨k,o,r,s,m⟩:=ih;exact⟨k+1,zo,zg,zg,by rw[rT,bM b,m,a2L]⟩
structure BY(ba:Nat)(w:Z)(v:Y)(qX:Nat->Nat)(sx:Nat->Y)(l:List Pd):Prop where
 row:w.ownsRow ba 211 1 v l.length ((a1U l.length).map fun i=>a2h (O ⟨qX i,0,V⟩))
 lo:∀ i,i<l.length->ba<=qX i
 cell:∀ (i:Nat) (p:Pd),l[i]?=O p->w.heap[qX i]?=aO #[aT p.name,zi ((p.arity:Nat):Int),sx i] 213
 cl:∀ (i:Nat) (p:Pd),l[i]?=O p->∃ fV:List Y,w.ownsRow ba 185 1 (sx i) p.clauses.length fV/\∀ (k:Nat) (c:Co),p.clauses[k]?=O c->∃ mb,fV[k]?=O (pp mb)/\su w mb c
 ne:∀ i j,i<l.length->j<l.length->i≠j->qX i≠qX j
 nc:∀ i j,i<l.length->j<l.length->i≠j->∀ b,(sx i).ownBlock=O b->(sx j).ownBlock≠O b
section
variable{ba:Nat}{w w':Z}{v:Y}{qX:Nat->Nat}{sx:Nat->Y}{l:List Pd}
theorem BY.ext(h:BY ba w v qX sx l)(a:Ext w w'):BY ba w' v qX sx l:=
 ⟨jL a.ext h.row,h.lo,(by grind [bB.ext,cell]),fun i p hi=>let ⟨fV,b,c⟩:=h.cl i p hi;⟨fV,jL a.ext b,(by grind [su.ext])⟩,h.ne,h.nc⟩
theorem su.ahG{c:Co}(h:su w mb c)(hk:∀ (b T:Nat) (cs:Array Y),T≠185->T≠213->T≠211->w.heap[b]?=aO cs T->w'.heap[b]?=aO cs T):su w' mb c:=by
 obtain⟨base,vb,iv,vv,gk,sb,cut,k,h,a⟩:=h;refine⟨base,vb,iv,vv,gk,sb,cut,k,⟨(by grind [fH.cell]),h.lo,⟨h.row.1,?_⟩,h.ins.bJ yH,(by grind [fH.vars]),h.Ju,h.sep,h.Jv⟩,a⟩;rcases h.row.2 with e | ⟨b,cap,cur,rfl,a,f,d⟩
 .exact yH
 .exact .inr ⟨b,cap,cur,J,a,yH,d⟩
theorem F4{size:Nat}(h:w.ownsRow ba e size u n xs)(hk:∀ (b:Nat) (cs:Array Y),u.ownBlock=O b->w.heap[b]?=aO cs e->w'.heap[b]?=aO cs e):w'.ownsRow ba e size u n xs:=by
 refine⟨h.1,?_⟩;rcases h.2 with f | ⟨b,cap,cur,rfl,a,c,d⟩
 .exact yH
 .exact .inr ⟨b,cap,cur,J,a,hk b cur J c,d⟩
def EG{size:Nat}(h:w.ownsRow ba e size u n xs)(a:u.ownBlock=O b):ba<=b/\b<w.heap.size/\∃ cs,w.heap[b]?=aO cs e:=by
 rcases h.2 with⟨c,-⟩| ⟨g,cap,cur,c,d,f,-⟩
 .rw[c] at a;cases a
 .rw[c] at a;injection a with a;exact yH
theorem F5{size:Nat}(a:w.ownsRow ba e size u n xs)(c:w.grownBy w' u.ownBlock){T:Nat}(g:T≠e)(d:w.heap[b]?=aO cs T):w'.heap[b]?=aO cs T:=by
 rw[c.block b (bg d) (fun f=>?_)]
 .omega
 .obtain⟨-,-,cs',h⟩:=EG a f.symm;grind
def BY.new(h:BY ba w v qX sx l){nb:Nat}{name:Bs}(s:w.heap[nb]?=aO #[aT name,zi (n:Int),bW] 213)(t:ba<=nb)(u:∀ i,i<l.length->qX i≠nb)
  (x:w'.ownsRow ba 211 1 tv (l.length+1) (((a1U l.length).map fun i=>a2h (O ⟨qX i,0,V⟩))++[pp nb])) (q:w.grownBy w' v.ownBlock) :
  BY ba w' tv (fun i=>if i=l.length then nb else qX i) (fun i=>if i=l.length then bW else sx i) (l++[⟨name,n,[]⟩]):=by
 have y:∀ {b T:Nat} {cs:Array Y},T≠211->w.heap[b]?=aO cs T->w'.heap[b]?=aO cs T:=fun r a=>F5 h.row q r a;have m:∀ i p,(l++[(⟨name,n,[]⟩:Pd)])[i]?=O p->(i<l.length/\l[i]?=O p)\/(i=l.length/\p=⟨name,n,[]⟩):=zg;refine⟨?_,fun i hi=>?_,fun i p hi=>?_,fun i p hi=>?_,fun i j hi k o=>?_,fun i j hi k o b a=>?_⟩
 .have e:(a1U (l++[(⟨name,n,[]⟩:Pd)]).length).map (fun i=>a2h (O ⟨(if i=l.length then nb else qX i),0,V⟩))=((a1U l.length).map fun i=>a2h (O ⟨qX i,0,V⟩))++[pp nb]:=by
   rw[a1v,a2e,List.range_succ,List.map_append]
   congr 1
   .refine List.map_congr_left fun i hi=>?_;grind
   grind
  grind
 .simp only[a1v,a2e] at hi;by_cases c:i=l.length
  .grind
  .simp only[bM c];grind [lo]
 .rcases m i p hi with⟨f,d⟩| ⟨f,d⟩
  .simp only[bM (show i≠l.length by omega)];grind [cell]
  exact yH
 .rcases m i p hi with⟨f,d⟩| ⟨f,d⟩
  .simp only[bM (show i≠l.length by omega)];obtain⟨fV,g1,g2⟩:=h.cl i p d;exact⟨fV,(by grind [F4]),(by grind [su.ahG])⟩
  .subst f d;simp only[if_true];exact⟨[],⟨J,yH⟩,zg⟩
 .simp only[a1v,a2e] at hi k;by_cases c:i=l.length
  .grind
  .by_cases g:j=l.length
   .grind
   .simp only[bM c,bM g];grind [ne]
 .simp only[a1v,a2e] at hi k;by_cases c:i=l.length
  .simp only[zip c] at a;cases a
  .simp only[bM c] at a;by_cases g:j=l.length
   .simp only[zip g];exact fun e=>by cases e
   .simp only[bM g];exact h.nc i j zo zo o b a
def BY.push(h:BY ba w v qX sx l){p:Pd}{c:Co}(hk:l[k]?=O p)(s:w.ownsRow ba 185 1 (sx k) p.clauses.length xs)(I:∀ (k:Nat) (c:Co),p.clauses[k]?=O c->∃ mb,xs[k]?=O (pp mb)/\su w mb c)
  (K:su w mb c) (L:w'.ownsRow ba 185 1 tv (p.clauses.length+1) (xs++[pp mb])) (t:w.grownBy w' (sx k).ownBlock) (m:tv.ownBlock=(sx k).ownBlock\/∀ j,tv.ownBlock=O j->w.heap.size<=j) :
  BY ba (bQ w' (qX k) (ae #[aT p.name,zi (p.arity:Int),tv] 213)) v qX (fun i=>if i=k then tv else sx i) (l.modify k fun p=>{ p with clauses:=p.clauses++[c] }):=by
 have u:k<l.length:=by
  grind
 have y:∀ {b T:Nat} {cs:Array Y},T≠185->w.heap[b]?=aO cs T->w'.heap[b]?=aO cs T:=(by grind [F5]);have z:=y zd (h.cell k p hk);have B:=bg z;obtain⟨w2,C⟩:=cg (bQ w' (qX k) (ae #[aT p.name,zi (p.arity:Int),tv] 213));rw[<- C];have hu:∀ {b T:Nat} {cs:Array Y},(T≠213\/b≠qX k)->w'.heap[b]?=aO cs T->w2.heap[b]?=aO cs T:=yH;have n:∀ i x,(l.modify k fun p=>{ p with clauses:=p.clauses++[c] })[i]?=O x->(i≠k/\l[i]?=O x)\/(i=k/\x={ p with clauses:=p.clauses++[c] }):=zg;have D:∀ {mb c},su w mb c->su w2 mb c:=(by grind [su.ahG]);refine⟨?_,fun i hi=>h.lo i zg,fun i x hi=>?_,fun i x hi=>?_,(by grind [ne]),fun i j hi E M b d=>?_⟩
 .rw[List.length_modify];exact F4 h.row yH
 .rcases n i x hi with⟨a,f⟩| ⟨a,f⟩
  .simp only[bM a];grind [Nat.lt_or_ge,List.getElem?_eq_none,ne,cell]
  exact yH
 .rcases n i x hi with⟨a,f⟩| ⟨a,f⟩
  .simp only[bM a];have F:i<l.length:=by
    grind
   obtain⟨o,g1,g2⟩:=h.cl i x f;refine⟨o,F4 g1 fun b cs d hx=>hu zg ?_,zg⟩;rw[t.block b (bg hx) (fun e=>h.nc i k F u a b d e.symm)];exact hx
  .subst a f;simp only[if_true];refine⟨xs++[pp mb],?_,fun q x r=>?_⟩
   .grind [a1v,a2e,F4]
   .have r:(p.clauses++[c])[q]?=O x:=r;have N:xs.length=p.clauses.length:=by have:=s.1;omega
    grind
 .rw[List.length_modify] at hi E;have hold:∀ i j,i<l.length->j=k->i≠k->∀ b,(sx i).ownBlock=O b->tv.ownBlock≠O b:=fun i j hi _ g b d e=>by
   rcases m with m | m
   .grind [nc]
   .have a:=m b e;obtain⟨o,g1,-⟩:=h.cl i l[i] zg;have:=(EG g1 d).2.1;omega
  by_cases g:i=k
  .grind
  .simp only[bM g] at d;by_cases H:j=k
   .grind
   .simp only[bM H];grind [nc]
end
