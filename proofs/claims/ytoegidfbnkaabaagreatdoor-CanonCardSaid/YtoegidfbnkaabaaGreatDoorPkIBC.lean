/- A part of one proof (VT4, VT5, ShX3d, KG16, KG17). -/
import Derived.Test.YtoegidfbnkaabaaGreatDoorPkIBB
set_option linter.all false
set_option maxRecDepth 100000
set_option maxHeartbeats 8000000
open Option renaming some → O, none → V
open Go renaming Value → Y, World → Z
open Bool renaming true → A, false → G
open Go.Obj renaming cells → ae
open Go.Ending renaming returned → ah
open Go.Value renaming nilIface → ai, iface → aj, tuple → ak, pointer → aq
open Go.Calls renaming mono → a1a
open Nat renaming le_trans → a1d, zero_le → a1q
open List renaming getElem?_eq_getElem → a1e, length_append → a1f, drop_eq_getElem_cons → a1h, range → a1t, getElem_mem → a1D, append_assoc → a1E, length_singleton → a1Q, take_length → a2k, modify_succ_cons → a2s, take_add_one → a3h, flatten_append → a4M
open Go.Value.slice renaming injEq → a1r
open Go.Value renaming string → a1u, pointer → a1T
open Go.Exit renaming thenS → a1P
open UInt8 renaming toNat_inj → a18
open Go.Proofs.Tryz renaming prog → bbw
open Go.Proofs.Tryz
namespace Go.Proofs.YtoegidfbnkaabaaGreatDoor
open P
open Go.RowKit Sx
variable{R:Ending->Z->Prop}{fx b cap e j k mb n o pb told wb:Nat}{cs iL:Array Y}{o4 o5 tv u vv:Y}{out:Bs}{res:Z->Prop}{xs:List Y}
def P.aRa(i:P.In)(x:UInt8)(r:Bs)(s:List Nat):uL i (x::r) s=if x=115\/x=112 then fc (s.headD 0)::uL i r s.tail else if x=99 then CY i.const::uL i r s else if x=110 then i.name::uL i r s else s.map fc++uL i r s:=rfl
def P.ar8:∀ (sh:Bs) (q:Nat) (a:q<sh.length),vP (sh.take (q+1))=vP (sh.take q)+(if sh[q]=115\/sh[q]=112 then 1 else 0)
 | x::r,0,_=>by simp [vP]
 | x::r,q+1,a=>by
  have:=P.ar8 r q zg;simp only[List.take_succ_cons,vP,List.getElem_cons_succ];omega
def P.ar9:∀ (sh:Bs) (q:Nat),vP (sh.take q)<=vP sh
 | [],q=>zg
 | x::r,0=>by simp [vP]
 | x::r,q+1=>by have:=P.ar9 r q;simp only[List.take_succ_cons,vP];omega
theorem asa{w sh:Bs}(h:ni w=O sh):sh.length<=3:=by
 rcases Qk h with⟨-,rfl⟩| ⟨-,rfl⟩| ⟨-,rfl⟩| ⟨-,rfl⟩| ⟨-,rfl⟩| ⟨-,rfl⟩| ⟨-,rfl⟩<;>decide
def aRb{a b c d:Y}(f:iL[o]?=O a)(g:iL[o+1]?=O b)(h:iL[o+2]?=O c)(j:iL[o+3]?=O d):(iL.toList.drop o).take 4=[a,b,c,d]:=by
 have e:∀ q,iL[q]?=iL.toList[q]?:=fun q=>by rw[Array.getElem?_toList]
 rw[e] at f g h j;apply List.ext_getElem?;intro i;rw[List.getElem?_take];grind
def asb{w:Z}{c:Co}(hc:sN w mb c)(I:q9 w wb out)(Dj:∀ i∈c.ins,Hl i/\Et i)(hP:kZ w)(hg:4<wb)(hlen:c.ins.length<=30000)(aRc:out.length<=500000000) :
  Calls bbw 109 #[pp mb,pp wb] w fun e w'=>e = ah (ak #[])/\q9 w' wb (out++AT c)/\jT wb w w':=by
 suffices H:∀ R:Ending->Z->Prop,(∀ e w',(e = ah (ak #[])/\q9 w' wb (out++AT c)/\jT wb w w')->R e w')->Calls bbw 109 #[pp mb,pp wb] w R from H _ zg;intro R hR;obtain⟨base,vb,iv,vv,gz,sb,cut,k,hM,rD,wK⟩:=hc;have qd:=hM.cell;have lwb:wb<w.heap.size:=by
  obtain⟨_,_,_,E,_⟩:=I;exact yH
 obtain⟨pa,pc,zW⟩:=il hM.row;have nB:=qd;rw[zW] at nB;have xB:k.ins.length=c.ins.length:=zg;refine aO0 ?_;refine dF @oP.eq_1 nB ?_;refine⟨fun m z w'=>∃ j,z 18=zi ((j:Nat):Int)/\j<=c.ins.length/\m=c.ins.length-j/\q9 w' wb (out++((c.ins.take j).map Hh).flatten)/\jT wb w w',⟨_,0,J,a1q _,J,zg,bB.refl _ _⟩,?_⟩;intro m z d w3 hI;refine toPr ?_;obtain⟨j,Q,hj,rfl,h3,yi⟩:=hI;have Ry:=yi.size;by_cases fD:j<c.ins.length
 .have ZF:=hM.bfr yi I.ty;have hP3:kZ w3:=hP.bK fun o ho=>yi.block _ _ ho (by
   rintro (e | ⟨e,-⟩)<;>omega)
  have n9:k.ins[j]?=O c.ins[j]:=zg;obtain⟨i,U3⟩:=cg (c.ins[j]);rw[<- U3] at n9;obtain⟨hwi,qg⟩:=Dj i (by rw[U3];exact a1D _);obtain⟨cv,sv,bl,q1,q2,q3,q4,D,Im⟩:=ZF.ins.at n9;rcases ZF.row.2 with⟨f,E⟩| ⟨ib,arx,cur,f,E,hib,h4,h5,S,h7⟩
  .omega
  rw[zW] at f;simp only[a1r,true_and] at f;obtain⟨rfl,rfl⟩:=f;have Bz:∀ o,o<k.ins.length*4->cur[o]?=gz[o]?:=zg;have c0:cur[j*4]?=O (aT i.word):=zg;have c1:cur[j*4+1]?=O (aT i.name):=zg;have c2:cur[j*4+2]?=O cv:=zg;have c3:cur[j*4+3]?=O sv:=zg;have jV:((j:Nat):Int).toNat=j:=zo;have fQ:((j:Nat):Int)<(k.ins.length:Int):=zo;have aZC:j*4+4<=cur.size:=zo;refine dM @oP.eq_1 Q fQ (zA hib (zA @jV (zA @c0 (zA @c1 (zA @c2 @c3))))) ?_;have jo:cv = ai\/∃ t u,cv = aj t u:=by
   cases qQ:i.const with
   | none=>rw[qQ] at D;exact .inl D
   | some t=>
    rw[qQ] at D;cases t with
    | atom s=>exact .inr ⟨_,_,D⟩
    | int s=>exact .inr ⟨_,_,D⟩
    | var i=>exact D.elim
    | comp s l=>exact D.elim
  obtain⟨L,M,D7⟩:∃ a c,sv = .slice a i.s.length c:=by
   rcases Im with⟨f,E,-⟩| ⟨b,cap,cs,-,-,f,-⟩<;>grind
  subst D7;have LY:cv.oneCell'=true:=by rcases jo with rfl | ⟨_,_,rfl⟩<;>rfl
  rw[aRb c0 c1 c2 c3];rw[zip (show([a1u (bs i.word),aT i.name,cv,.slice L i.s.length M]:List Y).length=4/\([a1u (bs i.word),aT i.name,cv,.slice L i.s.length M]:List Y).all Value.oneCell'=A from⟨J,by simp [LY];exact⟨J,J,J⟩⟩)];have OM:pD #[a1u (bs []),aT [],ai,bX] 0 (Value.agg [a1u (bs i.word),aT i.name,cv,.slice L i.s.length M].toArray).cells.toList=#[aT i.word,aT i.name,cv,.slice L i.s.length M]:=by
   rcases jo with rfl | ⟨_,_,rfl⟩<;>rfl
  rw[OM];obtain⟨T,jB⟩:=cg (bS (w3.alloc (ae #[aT [],aT [],ai,bX] 198 (0,0))) w3.heap.size (ae #[aT i.word,aT i.name,cv,.slice L i.s.length M] 198));rw[<- jB];have gJ:Ext w3 T:=yF;have g4:T.heap[w3.heap.size]?=aN #[aT i.word,aT i.name,cv,.slice L i.s.length M] 198:=yH;clear jB OM;obtain⟨xb,uD⟩:=cg w3.heap.size;rw[<- uD] at g4 ⊢;have Us:Ext T T.drew:=yF;refine⟨fun w'=>Ext T w',Us,?_⟩;refine cS (pp xb) (fun w' hS=>fm @oP.eq_1) ?_;refine cS (aT i.word) (fun w' hS=>by have h9:=hS.ext _ _ g4;have:=bh h9;exact mn @oP.eq_1 h9) ?_;refine a1a (aq8 T.drew) ?_;rintro e F ⟨uf,sm,sl,rfl,hsm,VA,ahG⟩;have rJ:Ext T F:=yF;refine⟨rJ,?_⟩;obtain⟨sh,tG⟩:=cg ((ni i.word).getD []);have aRe:∀ {K:Y->Prop} {X:Y->Z->Prop},(∀ v,JV F sm v sh->K v)->RD bbw (Instr.lookup 240 (.map (O sm)) (aT i.word) G) F K X:=fun hK=>by
   rw[LZ (k:=9) (e:=98) (z:=bX) zk zk zk VA.map i.word G];have:=VA.find ahG i.word;cases hf:fO i.word sl 0 with
   | none=>
    rw[hf] at this;have this:ni i.word=none:=this;rw[this] at tG;exact hK _ (.inl ⟨tG,J⟩)
   | some p=>
    grind
  refine aRe fun ZG RH=>?_;have B1:=gJ.trans rJ;have aRf:sh.length<=3:=by
   grind [ni,asa]
  have ahH:∀ x∈sh,x=115\/x=112\/x=99\/x=110\/x=42:=by
   rw[tG];cases QQ:ni i.word with
   | none=>simp
   | some s=>
    rw[Option.getD_some];rcases Qk QQ with⟨-,rfl⟩| ⟨-,rfl⟩| ⟨-,rfl⟩| ⟨-,rfl⟩| ⟨-,rfl⟩| ⟨-,rfl⟩| ⟨-,rfl⟩<;>decide
  have aZD:vP sh<=i.s.length:=by rw[tG];exact hwi.wf
  have yf:99∈sh->∃ t,i.const=O t/\eu t/\TE t=true:=by rw[tG];exact hwi.cn
  have xA:=qg.qT;have aZE:=qg.small;have zf:=rJ.ext _ _ g4;have hP5:kZ F:=(hP3.ext B1);have hT:Hh i=nh i.word (uL i sh i.s):=by rw[tG];rfl
  obtain⟨ZH,shc,ahI⟩:∃ a c,ZG = .slice a sh.length c:=by
   rcases RH with⟨f,E⟩| ⟨b,zz,-,f,-⟩<;>grind
  subst ahI;refine cO @oP.eq_1 ?_;refine⟨fun m z w'=>∃ q n ls v1,z 27=zi ((q:Nat):Int)/\z 7=zi ((n:Nat):Int)/\z 6=v1/\q<=sh.length/\m=sh.length-q/\Ext F w'/\DE F.heap.size w' v1 ls/\uL i sh i.s=ls++uL i (sh.drop q) (i.s.drop n)/\n=vP (sh.take q)/\ls.length<=10*q,
   ⟨_,0,0,[],_,J,J,J,a1q _,J,yF,DE.nil,J,J,a1q _⟩,?_⟩
  intro m z1 d1 w6 hI;refine toPr ?_;obtain⟨q,n,ls,v1,U,h7,S,hq,rfl,ln,eS,C,hn,Hk⟩:=hI;have EH:=B1.trans ln;have qh:=ln.ext _ _ zf;have lx6:=bh qh;obtain⟨ra,rc,rfl⟩:=il eS;have vE:kZ w6:=hP5.ext ln;by_cases VB:q<sh.length
  .have yN:((q:Nat):Int).toNat=q:=zo;have Y9:((n:Nat):Int).toNat=n:=zo;have rN:((q:Nat):Int)<(sh.length:Int):=zo;obtain⟨shb,shz,mW,Ip⟩:∃ b z,ZH=O ⟨b,0,V⟩/\F.heap[b]?=O (ae (uP sh).toArray 5 z):=by
    rcases RH with⟨f,-⟩| ⟨b,zz,-,f,-,E⟩<;>grind
   subst mW;have W:=ln.ext _ _ Ip;obtain⟨x,Zr⟩:=cg (sh[q]);have jL:(uP sh).toArray[q]?=O (.int .u8 (x.toNat:Int)):=zg;have O4:sh.drop q=x::sh.drop (q+1):=by grind [a1h]
   have AK:=P.ar8 sh q VB;have aZF:=P.ar9 sh (q+1);rw[<- Zr] at AK;have CF:x∈sh:=zg;obtain⟨B,hB⟩:=cg ((uP sh).toArray);rw[<- hB] at W jL;rw[O4,P.aRa] at C;have ti:=ahH x CF;by_cases oH:x=115\/x=112
   .rw[zip oH] at AK C;have Lt:n<i.s.length:=zo;have hhd:(i.s.drop n).headD 0=i.s[n]:=by grind [a1h]
    have tP:(i.s.drop n).tail=i.s.drop (n+1):=by rw[List.tail_drop]
    rw[hhd,tP] at C;obtain⟨svb,JF,ahK,ahL,ahM⟩:∃ b cs,L=O ⟨b,0,V⟩/\w3.heap[b]?=aN cs 3/\cs[n]?=O (zi ((i.s[n]:Nat):Int)):=by
     rcases Im with⟨f,-,-⟩| ⟨b,cap,cs,-,-,f,E,h3,h4,h5⟩
     .exact yH
     .simp only[a1r,true_and] at f;refine⟨b,cs,f.1,E,?_⟩;have:=congrArg (fun l=>l[n]?) h5;grind
    subst ahK;have aRl:=EH.ext _ _ ahL;have hni:((n:Nat):Int)<(i.s.length:Int):=zo;have A2:i.s[n]<100000:=(by grind [a1D]);have hxI:((x.toNat:Int)=115/\x=115)\/(¬ (x.toNat:Int)=115/\(x.toNat:Int)=112):=by
     rcases oH with rfl | rfl<;>grind
    have aZG:∀ g:Z,g=w6->True:=zg;refine dM @oP.eq_1 U rN (zA W (zA jL @yN)) ?_;refine⟨fun s py=>s 32 = .bool A/\py=w6,?_,?_⟩
    .rcases hxI with⟨e1,-⟩| ⟨e1,e2⟩
     .exact mn @oP.eq_1 @e1
     .exact Kw @oP.eq_1 @e1 @e2
    .rintro s g ⟨C9,rfl⟩ dd;refine dM @oP.eq_1 C9 qh (zA h7 (zA S (zA aRl (zA ahM (zA hni @Y9))))) ?_;refine a1a (Ls ((i.s[n]:Nat):Int) zo zo g vE) ?_;rintro e N ⟨rfl,we⟩;rw[<- P.Lr];refine dF @oP.eq_1 S ?_;refine(eS.ext we).push yF zo fun v9 w9 O5 ns=>?_;refine jk @oP.eq_1 h7 U ?_;refine⟨_,?_,q+1,n+1,ls++[fc i.s[n]],v9,zg,zg,zg,zo,J,ns,O5,zg,zo,zg⟩;omega
   .rw[bI oH] at AK C;have RI:¬ (x.toNat:Int)=115:=fun e=>oH (.inl (a18.1 zg));have ahN:¬ (x.toNat:Int)=112:=fun e=>oH (.inr (a18.1 zg));refine dM @oP.eq_1 U rN (zA W (zA jL @yN)) ?_;refine⟨fun s py=>s 32 = .bool G/\py=w6,?_,?_⟩
    .exact Kw @oP.eq_1 RI ahN
    .rintro s g ⟨C9,rfl⟩ dd;by_cases vQ:x=99
     .rw[zip vQ] at C;have rW:(x.toNat:Int)=99:=by rw[vQ];rfl
      obtain⟨t,ht,OG,htc⟩:=yf (vQ ▸ CF);rw[ht] at D C;refine dM @oP.eq_1 C9 rW qh ?_;obtain⟨N,MC⟩:=cg (bS ((g.alloc (ae #[bX,zi 9] 96)).alloc (ae #[aq V,bX,aq V,.map V] 103)) (g.heap.size+1) (ae #[aq V,bX,pp g.heap.size,.map V] 103));rw[<- MC];have wo:Ext g N:=yF;have qS:N.heap[g.heap.size]?=aN #[bX,zi 9] 96:=yH;have qW:N.heap[g.heap.size+1]?=aN #[aq V,bX,pp g.heap.size,.map V] 103:=yH;clear MC;rw[size_alloc];refine a1a (aQ9 D OG qS qW (vE.ext wo) zo zo zo) ?_;rintro e w9 ⟨rfl,kF,nm9,hB9⟩;have ed:CY (O t)≠[]:=by
       cases t with
       | atom s=>unfold eu at OG;exact OG.2
       | int z=>exact fun e=>by have:=anV z;rw[show kN z=[] from e] at this;grind
       | var _=>exact D.elim
       | comp _ _=>exact D.elim
      have tL:Ext g w9:=⟨kF.os.trans wo.os,kF.tape.trans wo.tape,kF.output.trans wo.output,a1d wo.size kF.size,fun b o I _=>kF.block _ _ (wo.ext _ _ I) (by
       have:=bh I;rintro (h | h | ⟨h,-⟩)<;>omega)⟩
      refine cO @oP.eq_1 ?_;refine a1a (aew hB9 ed) ?_;rintro e jP ⟨rfl,vG⟩;have aRp:Ext g jP:=⟨vG.os.trans tL.os,vG.tape.trans tL.tape,vG.output.trans tL.output,a1d tL.size vG.size,fun b o I _=>vG.block _ _ (tL.ext _ _ I) (by
       have:=bh I;rintro (h | ⟨h,-⟩)<;>omega)⟩
      refine dF @oP.eq_1 S ?_;refine(eS.ext aRp).push yF zo fun v11 kr aRq Aa=>?_;refine jk @oP.eq_1 h7 U ?_;refine⟨_,?_,q+1,n,ls++[CY (O t)],v11,zg,zg,zg,zo,J,Aa,aRq,zg,zo,zg⟩;omega
     .rw[bI vQ] at C;have VC:¬ (x.toNat:Int)=99:=fun e=>vQ (a18.1 zg);by_cases A8:x=110
      .rw[zip A8] at C;have rW:(x.toNat:Int)=110:=by rw[A8];rfl
       refine dM @oP.eq_1 C9 VC (zA rW (zA qh S)) ?_;refine eS.push ln zo fun v9 w9 O5 ns=>?_;refine jk @oP.eq_1 h7 U ?_;refine⟨_,?_,q+1,n,ls++[i.name],v9,zg,zg,zg,zo,J,ns,O5,zg,zo,zg⟩;omega
      .rw[bI A8] at C;have ahO:¬ (x.toNat:Int)=110:=fun e=>A8 (a18.1 zg);have RL:x=42:=by
        grind
       have rW:(x.toNat:Int)=42:=by rw[RL];rfl
       have hnI:((n:Nat):Int)<=(i.s.length:Int):=zo;refine dM @oP.eq_1 C9 VC (zA ahO (zA rW (zA qh h7))) ?_;rw[Y9];obtain⟨sa',jd,hsx⟩:∃ sa',sliced L n i.s.length M 1 = .slice sa' (i.s.length-n) (M-n)/\(n<i.s.length->∃ b cs,sa'=O ⟨b,n,V⟩/\w3.heap[b]?=aN cs 3/\∀ y (hy:y<i.s.length),cs[y]?=O (zi ((i.s[y]:Nat):Int))):=by
        refine⟨_,J,fun yg=>?_⟩;rcases Im with⟨f,-,-⟩| ⟨b,cap,cs,-,-,f,E,h3,h4,h5⟩
        .exact yH
        .simp only[a1r,true_and] at f;obtain⟨rfl,rfl⟩:=f;refine⟨b,cs,?_,E,fun y hy=>?_⟩
         .rw[bI zo];simp [Addr.add];omega
         .have:=congrArg (fun l=>l[y]?) h5;grind
       rw[jd];refine dF @oP.eq_1 S ?_;refine⟨fun m z w'=>∃ p v2,z 73=zi ((p:Nat):Int)/\z 6=v2/\p<=i.s.length-n/\m=i.s.length-n-p/\Ext F w'/\DE F.heap.size w' v2 (ls++((i.s.drop n).take p).map fc),
        ⟨_,0,_,J,J,a1q _,J,ln,(by show DE _ _ (.slice _ _ _) _;exact yH)⟩,?_⟩
       intro m z2 d2 N hI;refine toPr ?_;obtain⟨p,v2,h73,h62,hp,rfl,we,ZI⟩:=hI;by_cases kg:p<i.s.length-n
       .obtain⟨svb,JF,ahK,ahL,ahM⟩:=hsx zo;subst ahK;have aRs:=(B1.trans we).ext _ _ ahL;have hnp:n+p<i.s.length:=zo;have A2:i.s[n+p]<100000:=(by grind [a1D]);have oV:=ahM (n+p) hnp;have epn:((p:Nat):Int).toNat=p:=zo;have zK:((p:Nat):Int)<(((i.s.length-n:Nat):Nat):Int):=zo;refine dM @oP.eq_1 h73 zK (zA aRs (zA oV @epn)) ?_;refine a1a (Ls ((i.s[n+p]:Nat):Int) zo zo N (hP5.ext we)) ?_;rintro e w9 ⟨rfl,ns⟩;rw[<- P.Lr];obtain⟨ra2,rc2,rfl⟩:=il ZI;refine dF @oP.eq_1 h62 ?_;refine(ZI.ext ns).push yF zg fun v10 jP arM Ge=>?_;refine dF @oP.eq_1 h73 ?_;refine⟨_,?_,p+1,v10,zg,zg,zo,J,Ge,?_⟩
        .omega
        grind [a3h,a1e,a1E]
       .have Ii:p=i.s.length-n:=zo;subst Ii;have zK:¬ (((i.s.length-n:Nat):Nat):Int)<(((i.s.length-n:Nat):Nat):Int):=zo;have e:(i.s.drop n).take (i.s.length-n)=i.s.drop n:=zg;rw[e] at ZI;refine dM @oP.eq_1 h73 zK U ?_;refine⟨_,?_,q+1,n,ls++(i.s.drop n).map fc,v2,zg,zo,zo,zo,J,we,ZI,zg,zo,zg⟩;omega
  .have EP:q=sh.length:=zo;subst EP;have rN:¬ (sh.length:Int)<(sh.length:Int):=zo;rw[List.drop_length] at C;have C:uL i sh i.s=ls:=by grind [uL]
   refine dM @oP.eq_1 U rN (zA qh S) ?_;have h6b:=(h3.ext EH);have tP:(((c.ins.take j).map Hh).flatten).length<=60*j:=by
    have key:∀ l:List P.In,(∀ i∈l,Et i)->((l.map Hh).flatten).length<=60*l.length:=by
     intro l;induction l with
     | nil=>grind
     | cons a r ih=>
      intro h;have f:=ad9 (h a List.mem_cons_self);grind
    grind
   have mr:=ad9 qg;rw[hT,C] at mr;unfold nh at mr;rw[ZD] at mr;simp only[a1f,List.length_cons,List.length_nil] at mr;refine a1a (ZE h6b eS.sl zo zg) ?_;rintro e N ⟨rfl,h8,J5⟩;refine dF @oP.eq_1 Q ?_;have aRv:jT wb w3 N:=(bB.eo EH).trans J5;refine⟨_,?_,j+1,zg,zo,J,?_,yi.trans aRv⟩
   .omega
   grind [a3h,a1e,a4M,a1E]
 .have fD:j=c.ins.length:=zo;subst fD;have fQ:¬ (c.ins.length:Int)<(k.ins.length:Int):=zo;rw[a2k] at h3;refine jk @oP.eq_1 Q fQ ?_;exact hR _ _ ⟨J,h3,yi⟩
def ZJ(w:Z)(pb:Nat)(p:Pd):Prop:=∃ a fZ,w.heap[pb]?=aN #[aT p.name,zi (p.arity:Int),a] 213/\fJ (fun _=>True) w 185 a fZ/\fZ.length=p.clauses.length /\
 ∀ (j:Nat) (c:Co),p.clauses[j]?=O c->∃ mb,fZ[j]?=O (pp mb)/\sN w mb c
theorem ZJ.ext{w w':Z}{pb:Nat}{p:Pd}(h:ZJ w pb p)(a:Ext w w'):ZJ w' pb p:=by
 obtain⟨b,fZ,c,d,e,f⟩:=h;exact⟨b,fZ,a.ext _ _ c,d.mono zg (by grind [bB.ext]),e,(by grind [sN.ext])⟩
def ZK{α:Type}(f:α->Bs)(l:List α)(j:Nat):(((l.take j).map f).flatten).length<=((l.map f).flatten).length:=by
 grind [List.take_append_drop,a4M,a1f]
theorem ZL{α:Type}(f:α->Bs){l:List α}(a:j<l.length):((l.take (j+1)).map f).flatten=((l.take j).map f).flatten++f l[j]:=by
 grind [a3h,a1e,a4M]
def sl2{w:Z}{a b:Bs}:fJ (fun _=>True) (w.alloc (ae #[aT a,aT b] 9)) 9 (cV w.heap.size 2 2) ([a,b].map fun s=>aT s):=
 .inr ⟨w.heap.size,_,J,trivial,yH,Nat.le_refl _,J⟩
def sl1{w:Z}{a:Bs}:fJ (fun _=>True) (w.alloc (ae #[aT a] 9)) 9 (cV w.heap.size 1 1) ([a].map fun s=>aT s):=
 .inr ⟨w.heap.size,_,J,trivial,yH,Nat.le_refl _,J⟩
def ahS(f:Bs)(l:List Bs):(nh f l).length=f.length+(yL l).length+1:=by
 grind [nh,ZD,a1f]
def aRx{w:Z}{l:List Pd}{ask:Co}(K:fJ (fun _=>True) w 211 tv xs)(kg:xs.length=l.length)(ZM:∀ (j:Nat) (p:Pd),l[j]?=O p->∃ pb,xs[j]?=O (pp pb)/\ZJ w pb p)(Qi:sN w fx ask)
  (dj:∀ p∈l,∀ c∈p.clauses,AW c/\∀ i∈c.ins,Hl i) (Jy:AW ask/\∀ i∈ask.ins,Hl i) (lp:∀ p∈l,p.arity<=1000) (xA:∀ p∈l,p.clauses.length<=1000) (hl:l.length<=1000) (ht:told<=1000) (r:kZ w) (hlen:(zD l ask told).length<=400000000) :
  Calls bbw 81 #[tv,pp fx,zi (told:Int)] w fun e w'=>e = ah (aT (zD l ask told))/\Ext w w':=by
 suffices H:∀ R:Ending->Z->Prop,(∀ e w',(e = ah (aT (zD l ask told))/\Ext w w')->R e w')->Calls bbw 81 #[tv,pp fx,zi (told:Int)] w R from H _ yF;intro R hR;obtain⟨la,lc,rfl⟩:=K.sl;have hgp:4<w.heap.size:=by
  have:=r;unfold kZ Lib.TabIs World.var? at this;rw[Yd] at this;simp only[Option.bind_some] at this;rcases Nat.lt_or_ge 4 w.heap.size with h | h
  .exact h
  .rw[Array.getElem?_eq_none h] at this;cases this
 have uJ:(zD l ask told).length=((l.map xw).flatten).length+(nh [113,117,101,114,121] [fc ask.slots,fc told]).length+(AT ask).length:=by grind [zD,a1f]
 refine aO1 ?_;refine bG ?_;obtain⟨wb,sk⟩:=cg w.heap.size;obtain⟨w1,j3⟩:=cg (w.alloc (ae #[aq V,bX] 100));rw[<- j3,<- sk];have s:Ext w w1:=yF;have hB1:q9 w1 wb []:=⟨aq V,bX,.inl J,yH,World.ownsRow_nil _ _ _ _⟩;clear j3;have t:∀ {w'},jT wb w1 w'->Ext w w':=fun{w'} u=>⟨u.os.trans s.os,u.tape.trans s.tape,u.output.trans s.output,a1d s.size u.size,fun b o hb _=>u.block _ _ (s.ext _ _ hb) (by
  have:=bh hb;rintro (h | ⟨h,-⟩)<;>omega)⟩
 have hTb:∀ {w'},jT wb w1 w'->kZ w':=(by grind [kZ.ext]);have hg:4<wb:=zo;refine⟨fun m z w'=>∃ j,z 14=zi ((j:Nat):Int)/\j<=l.length/\m=l.length-j/\q9 w' wb (((l.take j).map xw).flatten)/\jT wb w1 w',⟨_,0,J,a1q _,J,zg,bB.refl _ _⟩,?_⟩;intro m z d w3 L;refine toPr ?_;obtain⟨j,M,hj,rfl,N,Q⟩:=L;have D:=t Q;have hft:=ZK xw l j;by_cases E:j<l.length
 .obtain⟨pb,lR,x⟩:=ZM j l[j] zg;obtain⟨g,cs,e3,e4,e5,e6⟩:=K.at' (j:=j) zo;simp only[a1r,true_and] at e3;obtain⟨rfl,rfl⟩:=e3;rw[lR] at e6;obtain⟨p,S⟩:=cg (l[j]);rw[<- S] at x;have T:p∈l:=zg;have jV:((j:Nat):Int).toNat=j:=zo;have U:((j:Nat):Int)<(xs.length:Int):=zo;have g3:=D.ext _ _ e5;obtain⟨VD,fZ,q1,q2,q3,q4⟩:=id x;obtain⟨cla,clc,rfl⟩:=q2.sl;have Rh:=D.ext _ _ q1;have dK:Ext w3 w3.drew:=yF;have lp:=lp p T;have Tl:=xA p T;refine dM M U @g3 (zA @e6 @jV) ?_;refine⟨fun w'=>Ext w3 w',dK,?_⟩;rw[jI];refine cS (pp pb) (fun w' hS=>eV) ?_;refine cS (aT p.name) (fun w' hS=>by have W:=hS.ext _ _ Rh;have:=bh W;exact fm W) ?_;refine cO @Rh ?_;refine a1a (Ls (p.arity:Int) zo zo w3.drew (by grind [kZ.ext])) ?_;rintro e X ⟨rfl,uh⟩;have gJ:=dK.trans uh;rw[<- P.Lr];refine⟨gJ,?_⟩;refine bG ?_;have y:Ext w3 (X.alloc (ae #[aT p.name,aT (fc p.arity)] 9)):=gJ.alloc _;have hpt:=ZK xw l (j+1);rw[ZL xw E,<- S,a1f] at hpt;have aZN:(xw p).length=(nh [112,114,101,100] [p.name,fc p.arity]).length+((p.clauses.map fun c=>nh [99,108,97,117,115,101] [fc c.slots]++AT c).flatten).length:=by grind [xw,a1f]
  have aRA:=ahS [112,114,101,100] [p.name,fc p.arity];refine a1a (ZE (N.ext y) sl2 zs zo) ?_;rintro e w5 ⟨rfl,h5,aRB⟩;have Tq:jT wb w1 w5:=Q.trans ((bB.eo y).trans aRB);have uf:=t Tq;have q15:=uf.ext _ _ q1;refine cO @q15 ?_;refine⟨fun m z w'=>∃ q,z 34=zi ((q:Nat):Int)/\q<=p.clauses.length/\m=p.clauses.length-q/\q9 w' wb (((l.take j).map xw).flatten++nh [112,114,101,100] [p.name,fc p.arity]++((p.clauses.take q).map fun c=>nh [99,108,97,117,115,101] [fc c.slots]++AT c).flatten)/\jT wb w1 w',
   ⟨_,0,J,a1q _,J,zg,Tq⟩,?_⟩
  intro m z2 d2 F L;refine toPr ?_;obtain⟨q,a,hq,rfl,I,f⟩:=L;have n:=t f;have hfq:=ZK (fun c=>nh [99,108,97,117,115,101] [fc c.slots]++AT c) p.clauses q;by_cases VB:q<p.clauses.length
  .obtain⟨mb,jo,CD⟩:=q4 q p.clauses[q] zg;obtain⟨g2,FQ,f3,f4,f5,f6⟩:=q2.at' (j:=q) zo;simp only[a1r,true_and] at f3;obtain⟨rfl,rfl⟩:=f3;rw[jo] at f6;obtain⟨c,F2⟩:=cg (p.clauses[q]);rw[<- F2] at CD;have DJ:c∈p.clauses:=zg;obtain⟨QV,Zg⟩:=dj p T c DJ;have yN:((q:Nat):Int).toNat=q:=zo;have rN:((q:Nat):Int)<(fZ.length:Int):=zo;have g6:=n.ext _ _ f5;obtain⟨base,vb,iv,vv,gz,sb,cut,k,hM,rD,wK⟩:=id CD;have J3:=(hM.ext n).cell;have K:=QV.slots;refine dM a rN @g6 (zA @f6 (zA @yN J3)) ?_;refine a1a (Ls (k.slots:Int) zo zo F (r.ext n)) ?_;rintro e w7 ⟨rfl,RM⟩;rw[<- P.Lr,rD];refine bG ?_;have B:Ext F (w7.alloc (ae #[aT (fc c.slots)] 9)):=RM.alloc _;have hcq:=ZK (fun c=>nh [99,108,97,117,115,101] [fc c.slots]++AT c) p.clauses (q+1);rw[ZL _ VB,<- F2,a1f,a1f] at hcq;have aZP:=ahS [99,108,97,117,115,101] [fc c.slots];refine a1a (ZE (I.ext B) sl1 zs zg) ?_;rintro e w8 ⟨rfl,h8,C⟩;have J5:jT wb w1 w8:=f.trans ((bB.eo B).trans C);have we:=t J5;refine bG ?_;refine a1a (asb (CD.ext we) h8 (by grind [AW.ins]) (r.ext we) hg QV.len zg) ?_;rintro e w9 ⟨rfl,W,aRD⟩;refine cO a ?_;refine⟨_,?_,q+1,zg,zo,J,?_,J5.trans aRD⟩
   .omega
   grind [ZL,a1E]
  .have EP:q=p.clauses.length:=zo;subst EP;have rN:¬ (p.clauses.length:Int)<(fZ.length:Int):=zo;rw[a2k] at I;refine jk a rN M ?_;refine⟨_,?_,j+1,zg,zo,J,?_,f⟩
   .omega
   .rw[ZL xw E,<- S];rw[show xw p=nh [112,114,101,100] [p.name,fc p.arity]++(p.clauses.map fun c=>nh [99,108,97,117,115,101] [fc c.slots]++AT c).flatten from J,<- a1E];omega
 .have E:j=l.length:=zo;subst E;have U:¬ (l.length:Int)<(xs.length:Int):=zo;rw[a2k] at N;obtain⟨base,vb,iv,vv,gz,sb,cut,k,hM,rD,wK⟩:=id Qi;have ZF:=(hM.ext D);have hc3:=ZF.cell;have has:=Jy.1.slots;refine jk M U hc3 ?_;refine a1a (Ls (k.slots:Int) zo zo w3 (r.ext D)) ?_;rintro e X ⟨rfl,uh⟩;refine bG ?_;refine a1a (Ls (told:Int) zo zo X (by grind [kZ.ext])) ?_;rintro e w5 ⟨rfl,rJ⟩;rw[<- P.Lr,<- P.Lr,rD];refine bG ?_;have B1:=uh.trans rJ;have EH:Ext w3 (w5.alloc (ae #[aT (fc ask.slots),aT (fc told)] 9)):=B1.alloc _;have aRA:=ahS [113,117,101,114,121] [fc ask.slots,fc told];refine a1a (ZE (N.ext EH) sl2 zs zo) ?_;rintro e F ⟨rfl,I,aRE⟩;have f:jT wb w1 F:=Q.trans ((bB.eo EH).trans aRE);have n:=t f;refine bG ?_;refine a1a (asb (Qi.ext n) I (by grind [AW.ins]) (r.ext n) hg Jy.1.len zg) ?_;rintro e w7 ⟨rfl,h7,aRF⟩;have Eb:=f.trans aRF;refine bG ?_;refine a1a (aPQ h7 zg) ?_;rintro e w8 ⟨rfl,C⟩;refine bG ?_;exact hR _ _ ⟨J,yF⟩
open Go.Proofs.YtoegidfbnkaabaaGreatDoor.Sx
section
variable{p0 p1 p2 p3 p4 p5 p6 p7:Y}{w:Z}{R:Ending->Z->Prop}
def aRG:=cy w R [p0,p1] (gd [(5,[6,17])] [(12003,[6,11])] [(7,9)] [(12,[14,0,1,2,3,4,5,6,7,8,9,10,11,12,13,14]),(13,[18,0,1,2,3,4,5,6,7,8,9,10,11,12,13,14,15,16,17]),(15,[9,0,1,3,4,5,6,7,2,8,9,10])] [] [] [12,18,36,37,38]) func41
end
def aRH(v4 v5:Y)(w:Z):CallsD bbw 79 #[v4,v5] .returning w fun e u' w'=>e = ah (ak #[])/\u' = .returning/\w'=w:=by
 refine callsD_of_wpS func79 J fun AM cs hu=>?_;apply wpS_seq;apply wpS_region;simp [wpOpsS,go_sem,recoverD,hu,ntmps79,a1P,apF];apply wpS_seq;apply wpS_region;simp [wpOpsS,go_sem,recoverD,hu,ntmps79,a1P];refine wpS_cond (t:=false) (by simp [Act.eval]) ?_;simp only[Bool.false_eq_true,if_false];refine wpS_of_wp (wp_skip ?_);cases AM;simp_all [bodyPostS,results,Tryz.results79]
def aRI(b4 b5:Nat)(o4 o5:Y)(yj:List PanicEntry)(w:Z)(h4:w.heap[b4]?=aN #[o4] 9)(h5:w.heap[b5]?=aN #[o5] 4)(ed:b4≠b5) :
  CallsD bbw 79 #[pp b4,pp b5] (.panicking ({ v:=aj 27 (zi 4),recovered:=false }::yj)) w fun e u' w'=>
   e = ah (ak #[])/\u' = .panicking ({ v:=aj 27 (zi 4),recovered:=true }::yj)/\w'=bS (bS w b4 (ae #[aT []] 9 (0,0))) b5 (ae #[.bool G] 4):=by
 have c4:w.cell? ⟨b4,0,V⟩=O o4:=EJ h4 J;have z4:=jX h4 0;have e1:w.setCell ⟨b4,0,V⟩ (aT [])=bS w b4 (ae #[aT []] 9 (0,0)):=vq h4 _;obtain⟨w1,j3⟩:=cg (bS w b4 (ae #[aT []] 9 (0,0)));rw[<- j3] at e1;have Ed:w1.heap[b5]?=aN #[o5] 4:=yH;have c5:w1.cell? ⟨b5,0,V⟩=O o5:=EJ Ed J;have z5:=jX Ed 0;have e2:w1.setCell ⟨b5,0,V⟩ (.bool G)=bS w1 b5 (ae #[.bool G] 4):=vq Ed _;have e1':w.setCell ⟨b4,0,V⟩ (.string { data:=#[] })=w1:=e1;refine callsD_of_wpS func79 J fun AM cs hu=>?_;apply wpS_seq;apply wpS_region;simp [wpOpsS,go_sem,recoverD,hu,ntmps79,a1P,apG];apply wpS_seq;apply wpS_region;simp [wpOpsS,go_sem,recoverD,hu,ntmps79,a1P];refine wpS_cond (t:=true) (by simp [Act.eval]) ?_;simp only[if_true];apply wpS_region;simp [wpOpsS,go_sem,recoverD,hu,ntmps79,a1P,c4,z4,e1',c5,z5,e2];simp [bodyPostS,results,Tryz.results79,j3]
def aRK{w:Z}(h:res w) :
  LV bbw res R [{ target:=.fn (.func 79) #[tv,vv],args:=#[]++#[] }] .returning w:=by
 refine Cj zk zs ((aRH tv vv w).mono ?_);rintro e a w' ⟨rfl,rfl,rfl⟩;exact h
def aRL{w:Z}(a:w.heap[pb]?=aN #[o4] 9)
  (b:w.heap[cap]?=aN #[o5] 4) (c:pb≠cap)
  (h:res (bS (bS w pb (ae #[aT []] 9 (0,0))) cap (ae #[.bool G] 4))) :
  LV bbw res R [{ target:=.fn (.func 79) #[pp pb,pp cap],args:=#[]++#[] }]
   (.panicking [{ v:=aj 27 (zi 4),recovered:=false }]) w:=by
 refine Cj zk zs ((aRI pb cap o4 o5 [] w a b c).mono ?_);rintro e d w' ⟨rfl,rfl,rfl⟩;exact h
def sO:Nat->List Pd->List (List UInt8×Y)
 | _,[]=>[]
 | i,p::r=>(P.keyOf p.name p.arity,.int .i64 (i:Int))::sO (i+1) r
def asl(p:Pd):∀ (l:List Pd) (i:Nat),sO i (l++[p])=sO i l++[(P.keyOf p.name p.arity,zi ((i+l.length:Nat):Int))]
 | [],i=>rfl
 | q::l,i=>by
  rw[List.cons_append,sO,sO,asl p l (i+1),List.cons_append,List.length_cons,show i+1+l.length=i+(l.length+1) from by omega]
def asm(x:Co):∀ (l:List Pd) (i k:Nat),sO i (l.modify k fun p=>{ p with clauses:=p.clauses++[x] })=sO i l
 | [],i,k=>zg
 | q::l,i,0=>by simp [sO]
 | q::l,i,k+1=>by rw[a2s,sO,sO,asm x l (i+1) k]
def ZN{name:Bs}{n:Nat}(a:n<80)(x:Co):∀ (l:List Pd) (i j:Nat),(∀ p∈l,p.arity<80)->match fO (P.keyOf name n) (sO i l) j with
  | none=>se name n x l=l++[⟨name,n,[x]⟩]
  | some (q,v)=>∃ k,q=j+k/\v = .int .i64 ((i+k:Nat):Int)/\k<l.length/\se name n x l=l.modify k fun p=>{ p with clauses:=p.clauses++[x] }
 | [],i,j,_=>rfl
 | p::l,i,j,h=>by
  have d:=h p List.mem_cons_self;have ih:=ZN (name:=name) a x l (i+1) (j+1) zg;rw[sO,fO];by_cases hk:P.keyOf p.name p.arity=P.keyOf name n
  .rw[zip hk];obtain⟨e,f⟩:=(P.afi d a).1 hk;exact⟨0,J,J,zs,by rw[se,zip ⟨e,f⟩];rfl⟩
  .rw[bI hk];have b:¬ (p.name=name/\p.arity=n):=zg;cases c:fO (P.keyOf name n) (sO (i+1) l) (j+1) with
   | none=>
    rw[c] at ih;have ih:se name n x l=l++[⟨name,n,[x]⟩]:=ih;show se name n x (p::l)=_;rw[se,bI b,ih];rfl
   | some g=>
    obtain⟨q,v⟩:=g;rw[c] at ih;obtain⟨k,o,r,s,m⟩:=ih;exact⟨k+1,zo,zg,zg,by rw[se,bI b,m,a2s]⟩
structure Cb(ba:Nat)(w:Z)(v:Y)(ri:Nat->Nat)(sQ:Nat->Y)(l:List Pd):Prop where
 row:w.ownsRow ba 211 1 v l.length ((a1t l.length).map fun i=>a1T (O ⟨ri i,0,V⟩))
 lo:∀ i,i<l.length->ba<=ri i
 cell:∀ (i:Nat) (p:Pd),l[i]?=O p->w.heap[ri i]?=aN #[aT p.name,zi ((p.arity:Nat):Int),sQ i] 213
 cl:∀ (i:Nat) (p:Pd),l[i]?=O p->∃ fZ:List Y,w.ownsRow ba 185 1 (sQ i) p.clauses.length fZ/\∀ (k:Nat) (c:Co),p.clauses[k]?=O c->∃ mb,fZ[k]?=O (pp mb)/\sN w mb c
 ne:∀ i j,i<l.length->j<l.length->i≠j->ri i≠ri j
 nc:∀ i j,i<l.length->j<l.length->i≠j->∀ b,(sQ i).ownBlock=O b->(sQ j).ownBlock≠O b
section
variable{ba:Nat}{w w':Z}{v:Y}{ri:Nat->Nat}{sQ:Nat->Y}{l:List Pd}
theorem Cb.ext(h:Cb ba w v ri sQ l)(a:Ext w w'):Cb ba w' v ri sQ l:=
 ⟨jY a.ext h.row,h.lo,(by grind [bB.ext,cell]),fun i p b=>let ⟨fZ,c,d⟩:=h.cl i p b;⟨fZ,jY a.ext c,(by grind [sN.ext])⟩,h.ne,h.nc⟩
theorem sN.ahW{c:Co}(h:sN w mb c)(hk:∀ (b T:Nat) (cs:Array Y),T≠185->T≠213->T≠211->w.heap[b]?=aN cs T->w'.heap[b]?=aN cs T):sN w' mb c:=by
 obtain⟨base,vb,iv,vv,gz,sb,cut,k,h,a⟩:=h;refine⟨base,vb,iv,vv,gz,sb,cut,k,⟨(by grind [fL.cell]),h.lo,⟨h.row.1,?_⟩,h.ins.bK yH,(by grind [fL.vars]),h.JY,h.sep,h.JZ⟩,a⟩;rcases h.row.2 with e | ⟨b,cap,cur,rfl,a,f,d⟩
 .exact yH
 .exact .inr ⟨b,cap,cur,J,a,yH,d⟩
theorem Gl{size:Nat}(h:w.ownsRow ba e size u n xs)(hk:∀ (b:Nat) (cs:Array Y),u.ownBlock=O b->w.heap[b]?=aN cs e->w'.heap[b]?=aN cs e):w'.ownsRow ba e size u n xs:=by
 refine⟨h.1,?_⟩;rcases h.2 with f | ⟨b,cap,cur,rfl,a,c,d⟩
 .exact yH
 .exact .inr ⟨b,cap,cur,J,a,hk b cur J c,d⟩
def EW{size:Nat}(h:w.ownsRow ba e size u n xs)(a:u.ownBlock=O b):ba<=b/\b<w.heap.size/\∃ cs,w.heap[b]?=aN cs e:=by
 rcases h.2 with⟨c,-⟩| ⟨g,cap,cur,c,d,f,-⟩
 .rw[c] at a;cases a
 .rw[c] at a;injection a with a;exact yH
theorem Gm{size:Nat}(a:w.ownsRow ba e size u n xs)(c:w.grownBy w' u.ownBlock){T:Nat}(g:T≠e)(d:w.heap[b]?=aN cs T):w'.heap[b]?=aN cs T:=by
 rw[c.block b (bh d) (fun f=>?_)]
 .omega
 .obtain⟨-,-,cs',h⟩:=EW a f.symm;grind
def Cb.new(h:Cb ba w v ri sQ l){nb:Nat}{name:Bs}(t:w.heap[nb]?=aN #[aT name,zi (n:Int),bX] 213)(u:ba<=nb)(x:∀ i,i<l.length->ri i≠nb)
  (y:w'.ownsRow ba 211 1 tv (l.length+1) (((a1t l.length).map fun i=>a1T (O ⟨ri i,0,V⟩))++[pp nb])) (r:w.grownBy w' v.ownBlock) :
  Cb ba w' tv (fun i=>if i=l.length then nb else ri i) (fun i=>if i=l.length then bX else sQ i) (l++[⟨name,n,[]⟩]):=by
 have z:∀ {b T:Nat} {cs:Array Y},T≠211->w.heap[b]?=aN cs T->w'.heap[b]?=aN cs T:=fun s c=>Gm h.row r s c;have o:∀ i p,(l++[(⟨name,n,[]⟩:Pd)])[i]?=O p->(i<l.length/\l[i]?=O p)\/(i=l.length/\p=⟨name,n,[]⟩):=zg;refine⟨?_,fun i a=>?_,fun i p a=>?_,fun i p a=>?_,fun i j a m q=>?_,fun i j a m q b c=>?_⟩
 .have e:(a1t (l++[(⟨name,n,[]⟩:Pd)]).length).map (fun i=>a1T (O ⟨(if i=l.length then nb else ri i),0,V⟩))=((a1t l.length).map fun i=>a1T (O ⟨ri i,0,V⟩))++[pp nb]:=by
   rw[a1f,a1Q,List.range_succ,List.map_append]
   congr 1
   .refine List.map_congr_left fun i a=>?_;grind
   grind
  grind
 .simp only[a1f,a1Q] at a;by_cases d:i=l.length
  .grind
  .simp only[bI d];grind [lo]
 .rcases o i p a with⟨g,f⟩| ⟨g,f⟩
  .simp only[bI (show i≠l.length by omega)];grind [cell]
  exact yH
 .rcases o i p a with⟨g,f⟩| ⟨g,f⟩
  .simp only[bI (show i≠l.length by omega)];obtain⟨fZ,g1,g2⟩:=h.cl i p f;exact⟨fZ,(by grind [Gl]),(by grind [sN.ahW])⟩
  .subst g f;simp only[if_true];exact⟨[],⟨J,yH⟩,zg⟩
 .simp only[a1f,a1Q] at a m;by_cases d:i=l.length
  .grind
  .by_cases k:j=l.length
   .grind
   .simp only[bI d,bI k];grind [ne]
 .simp only[a1f,a1Q] at a m;by_cases d:i=l.length
  .simp only[zip d] at c;cases c
  .simp only[bI d] at c;by_cases k:j=l.length
   .simp only[zip k];exact fun e=>by cases e
   .simp only[bI k];exact h.nc i j zo zo q b c
def Cb.push(h:Cb ba w v ri sQ l){p:Pd}{c:Co}(hk:l[k]?=O p)(t:w.ownsRow ba 185 1 (sQ k) p.clauses.length xs)(K:∀ (k:Nat) (c:Co),p.clauses[k]?=O c->∃ mb,xs[k]?=O (pp mb)/\sN w mb c)
  (L:sN w mb c) (M:w'.ownsRow ba 185 1 tv (p.clauses.length+1) (xs++[pp mb])) (u:w.grownBy w' (sQ k).ownBlock) (n:tv.ownBlock=(sQ k).ownBlock\/∀ j,tv.ownBlock=O j->w.heap.size<=j) :
  Cb ba (bS w' (ri k) (ae #[aT p.name,zi (p.arity:Int),tv] 213)) v ri (fun i=>if i=k then tv else sQ i) (l.modify k fun p=>{ p with clauses:=p.clauses++[c] }):=by
 have y:k<l.length:=by
  grind
 have z:∀ {b T:Nat} {cs:Array Y},T≠185->w.heap[b]?=aN cs T->w'.heap[b]?=aN cs T:=(by grind [Gm]);have B:=z zd (h.cell k p hk);have C:=bh B;obtain⟨w2,D⟩:=cg (bS w' (ri k) (ae #[aT p.name,zi (p.arity:Int),tv] 213));rw[<- D];have hu:∀ {b T:Nat} {cs:Array Y},(T≠213\/b≠ri k)->w'.heap[b]?=aN cs T->w2.heap[b]?=aN cs T:=yH;have o:∀ i x,(l.modify k fun p=>{ p with clauses:=p.clauses++[c] })[i]?=O x->(i≠k/\l[i]?=O x)\/(i=k/\x={ p with clauses:=p.clauses++[c] }):=zg;have E:∀ {mb c},sN w mb c->sN w2 mb c:=(by grind [sN.ahW]);refine⟨?_,fun i d=>h.lo i zg,fun i x d=>?_,fun i x d=>?_,(by grind [ne]),fun i j d F N b f=>?_⟩
 .rw[List.length_modify];exact Gl h.row yH
 .rcases o i x d with⟨a,g⟩| ⟨a,g⟩
  .simp only[bI a];grind [Nat.lt_or_ge,List.getElem?_eq_none,ne,cell]
  exact yH
 .rcases o i x d with⟨a,g⟩| ⟨a,g⟩
  .simp only[bI a];have H:i<l.length:=by
    grind
   obtain⟨r,g1,g2⟩:=h.cl i x g;refine⟨r,Gl g1 fun b cs f hx=>hu zg ?_,zg⟩;rw[u.block b (bh hx) (fun e=>h.nc i k H y a b f e.symm)];exact hx
  .subst a g;simp only[if_true];refine⟨xs++[pp mb],?_,fun q x s=>?_⟩
   .grind [a1f,a1Q,Gl]
   .have s:(p.clauses++[c])[q]?=O x:=s;have P:xs.length=p.clauses.length:=by have:=t.1;omega
    grind
 .rw[List.length_modify] at d F;have hold:∀ i j,i<l.length->j=k->i≠k->∀ b,(sQ i).ownBlock=O b->tv.ownBlock≠O b:=fun i j d _ m b f e=>by
   rcases n with n | n
   .grind [nc]
   .have a:=n b e;obtain⟨r,g1,-⟩:=h.cl i l[i] zg;have:=(EW g1 f).2.1;omega
  by_cases m:i=k
  .grind
  .simp only[bI m] at f;by_cases I:j=k
   .grind
   .simp only[bI I];grind [nc]
end
