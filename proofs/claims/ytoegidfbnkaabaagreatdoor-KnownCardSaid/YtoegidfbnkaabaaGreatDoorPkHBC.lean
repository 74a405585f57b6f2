/- A part of one proof (VT4, VT5, ShX3d, KG16, KG17). -/
import Derived.Test.YtoegidfbnkaabaaGreatDoorPkHBB
set_option linter.all false
set_option maxRecDepth 100000
set_option maxHeartbeats 8000000
open Option renaming some → O, none → V
open Go renaming Value → Y, World → Z
open Bool renaming true → A, false → G
open Go.Obj renaming cells → ae
open Go.Ending renaming returned → ah
open Go.Value renaming nilIface → ai, iface → aj, tuple → ak, pointer → aq
open Go.Calls renaming mono → a0c
open List renaming getElem?_eq_getElem → a0e, drop_eq_getElem_cons → a0h, length_append → a0i, range → a0C, getElem_mem → a0D, append_assoc → a0I, length_singleton → a0S, take_length → a1e, modify_succ_cons → a1m, take_add_one → a2h, flatten_append → a3I
open Nat renaming le_trans → a0f, zero_le → a0r
open Go.Value.slice renaming injEq → a0s
open Go.Value renaming string → a0u, pointer → a0U
open Go.Exit renaming thenS → a0R
open UInt8 renaming toNat_inj → a02
open Go.Proofs.Tryz renaming prog → bah
open Go.Proofs.Tryz
namespace Go.Proofs.YtoegidfbnkaabaaGreatDoor
open P
open Go.RowKit Sx
variable{R:Ending->Z->Prop}{fm b cap e j k mb n o pb told wb:Nat}{cs iC:Array Y}{o4 o5 tv u vv:Y}{out:Bs}{res:Z->Prop}{w:Z}{xs:List Y}
def P.aQr(i:P.In)(x:UInt8)(r:Bs)(s:List Nat):uh i (x::r) s=if x=115\/x=112 then gj (s.headD 0)::uh i r s.tail else if x=99 then Cf i.const::uh i r s else if x=110 then i.name::uh i r s else s.map gj++uh i r s:=rfl
def P.aq6:∀ (sh:Bs) (q:Nat) (a:q<sh.length),vo (sh.take (q+1))=vo (sh.take q)+(if sh[q]=115\/sh[q]=112 then 1 else 0)
 | x::r,0,_=>by simp [vo]
 | x::r,q+1,a=>by
  have:=P.aq6 r q zg;simp only[List.take_succ_cons,vo,List.getElem_cons_succ];omega
def P.aq7:∀ (sh:Bs) (q:Nat),vo (sh.take q)<=vo sh
 | [],q=>zg
 | x::r,0=>by simp [vo]
 | x::r,q+1=>by have:=P.aq7 r q;simp only[List.take_succ_cons,vo];omega
theorem aq8{w sh:Bs}(h:mL w=O sh):sh.length<=3:=by
 rcases Pf h with⟨-,rfl⟩| ⟨-,rfl⟩| ⟨-,rfl⟩| ⟨-,rfl⟩| ⟨-,rfl⟩| ⟨-,rfl⟩| ⟨-,rfl⟩<;>decide
def aQs{a b c d:Y}(f:iC[o]?=O a)(g:iC[o+1]?=O b)(h:iC[o+2]?=O c)(j:iC[o+3]?=O d):(iC.toList.drop o).take 4=[a,b,c,d]:=by
 have e:∀ q,iC[q]?=iC.toList[q]?:=fun q=>by rw[Array.getElem?_toList]
 rw[e] at f g h j;apply List.ext_getElem?;intro i;rw[List.getElem?_take];grind
def aq9{c:Co}(hc:rL w mb c)(I:qw w wb out)(Cy:∀ i∈c.ins,GC i/\DO i)(hP:kJ w)(hg:4<wb)(hlen:c.ins.length<=30000)(aYD:out.length<=500000000) :
  Calls bah 109 #[pp mb,pp wb] w fun e w'=>e = ah (ak #[])/\qw w' wb (out++Ap c)/\jH wb w w':=by
 suffices H:∀ R:Ending->Z->Prop,(∀ e w',(e = ah (ak #[])/\qw w' wb (out++Ap c)/\jH wb w w')->R e w')->Calls bah 109 #[pp mb,pp wb] w R from H _ zg;intro R hR;obtain⟨base,vb,iv,vv,gk,sb,cut,k,hM,qP,vM⟩:=hc;have pj:=hM.cell;have lwb:wb<w.heap.size:=by
  obtain⟨_,_,_,E,_⟩:=I;exact yH
 obtain⟨pa,pc,zj⟩:=gX hM.row;have nQ:=pj;rw[zj] at nQ;have wO:k.ins.length=c.ins.length:=zg;refine aOh ?_;refine dy @od.eq_1 nQ ?_;refine⟨fun m z w'=>∃ j,z 18=zi ((j:Nat):Int)/\j<=c.ins.length/\m=c.ins.length-j/\qw w' wb (out++((c.ins.take j).map Gx).flatten)/\jH wb w w',⟨_,0,J,a0r _,J,zg,bz.refl _ _⟩,?_⟩;intro m z d w3 hI;refine toPr ?_;obtain⟨j,Q,hj,rfl,h3,xG⟩:=hI;have QB:=xG.size;by_cases fx:j<c.ins.length
 .have YI:=hM.bfr xG I.ty;have hP3:kJ w3:=hP.bI fun o ho=>xG.block _ _ ho (by
   rintro (e | ⟨e,-⟩)<;>omega)
  have nG:k.ins[j]?=O c.ins[j]:=zg;obtain⟨i,NQ⟩:=b9 (c.ins[j]);rw[<- NQ] at nG;obtain⟨hwi,pt⟩:=Cy i (by rw[NQ];exact a0D _);obtain⟨cv,sv,bl,q1,q2,q3,q4,D,Hb⟩:=YI.ins.at nG;rcases YI.row.2 with⟨f,E⟩| ⟨ib,aqv,cur,f,E,hib,h4,h5,S,h7⟩
  .omega
  rw[zj] at f;simp only[a0s,true_and] at f;obtain⟨rfl,rfl⟩:=f;have AX:∀ o,o<k.ins.length*4->cur[o]?=gk[o]?:=zg;have c0:cur[j*4]?=O (aM i.word):=zg;have c1:cur[j*4+1]?=O (aM i.name):=zg;have c2:cur[j*4+2]?=O cv:=zg;have c3:cur[j*4+3]?=O sv:=zg;have jJ:((j:Nat):Int).toNat=j:=zo;have fJ:((j:Nat):Int)<(k.ins.length:Int):=zo;have aYE:j*4+4<=cur.size:=zo;refine dC @od.eq_1 Q fJ (zA hib (zA @jJ (zA @c0 (zA @c1 (zA @c2 @c3))))) ?_;have jb:cv = ai\/∃ t u,cv = aj t u:=by
   cases qh:i.const with
   | none=>rw[qh] at D;exact .inl D
   | some t=>
    rw[qh] at D;cases t with
    | atom s=>exact .inr ⟨_,_,D⟩
    | int s=>exact .inr ⟨_,_,D⟩
    | var i=>exact D.elim
    | comp s l=>exact D.elim
  obtain⟨L,M,Dr⟩:∃ a c,sv = .slice a i.s.length c:=by
   rcases Hb with⟨f,E,-⟩| ⟨b,cap,cs,-,-,f,-⟩<;>grind
  subst Dr;have KU:cv.oneCell'=true:=by rcases jb with rfl | ⟨_,_,rfl⟩<;>rfl
  rw[aQs c0 c1 c2 c3];rw[zip (show([a0u (bs i.word),aM i.name,cv,.slice L i.s.length M]:List Y).length=4/\([a0u (bs i.word),aM i.name,cv,.slice L i.s.length M]:List Y).all Value.oneCell'=A from⟨J,by simp [KU];exact⟨J,J,J⟩⟩)];have NG:ot #[a0u (bs []),aM [],ai,bH] 0 (Value.agg [a0u (bs i.word),aM i.name,cv,.slice L i.s.length M].toArray).cells.toList=#[aM i.word,aM i.name,cv,.slice L i.s.length M]:=by
   rcases jb with rfl | ⟨_,_,rfl⟩<;>rfl
  rw[NG];obtain⟨T,ja⟩:=b9 (bO (w3.alloc (ae #[aM [],aM [],ai,bH] 198 (0,0))) w3.heap.size (ae #[aM i.word,aM i.name,cv,.slice L i.s.length M] 198));rw[<- ja];have fZ:Ext w3 T:=yF;have g4:T.heap[w3.heap.size]?=aN #[aM i.word,aM i.name,cv,.slice L i.s.length M] 198:=yH;clear ja NG;obtain⟨xb,sX⟩:=b9 w3.heap.size;rw[<- sX] at g4 ⊢;have Tq:Ext T T.drew:=yF;refine⟨fun w'=>Ext T w',Tq,?_⟩;refine cQ (pp xb) (fun w' hS=>fg @od.eq_1) ?_;refine cQ (aM i.word) (fun w' hS=>by have h9:=hS.ext _ _ g4;have:=bf h9;exact lT @od.eq_1 h9) ?_;refine a0c (ap9 T.drew) ?_;rintro e F ⟨lX,sm,sl,rfl,hsm,UB,agB⟩;have qV:Ext T F:=yF;refine⟨qV,?_⟩;obtain⟨sh,si⟩:=b9 ((mL i.word).getD []);have aQu:∀ {K:Y->Prop} {X:Y->Z->Prop},(∀ v,I0 F sm v sh->K v)->RD bah (Instr.lookup 240 (.map (O sm)) (aM i.word) G) F K X:=fun hK=>by
   rw[KV (k:=9) (e:=98) (z:=bH) zk zk zk UB.map i.word G];have:=UB.find agB i.word;cases hf:fH i.word sl 0 with
   | none=>
    rw[hf] at this;have this:mL i.word=none:=this;rw[this] at si;exact hK _ (.inl ⟨si,J⟩)
   | some p=>
    grind
  refine aQu fun YJ QJ=>?_;have Bo:=fZ.trans qV;have aQv:sh.length<=3:=by
   grind [mL,aq8]
  have agC:∀ x∈sh,x=115\/x=112\/x=99\/x=110\/x=42:=by
   rw[si];cases PN:mL i.word with
   | none=>simp
   | some s=>
    rw[Option.getD_some];rcases Pf PN with⟨-,rfl⟩| ⟨-,rfl⟩| ⟨-,rfl⟩| ⟨-,rfl⟩| ⟨-,rfl⟩| ⟨-,rfl⟩| ⟨-,rfl⟩<;>decide
  have aYF:vo sh<=i.s.length:=by rw[si];exact hwi.wf
  have sZ:99∈sh->∃ t,i.const=O t/\ef t/\SG t=true:=by rw[si];exact hwi.cn
  have wN:=pt.ql;have aYG:=pt.small;have yJ:=qV.ext _ _ g4;have hP5:kJ F:=(hP3.ext Bo);have hT:Gx i=mJ i.word (uh i sh i.s):=by rw[si];rfl
  obtain⟨YK,shc,agD⟩:∃ a c,YJ = .slice a sh.length c:=by
   rcases QJ with⟨f,E⟩| ⟨b,zz,-,f,-⟩<;>grind
  subst agD;refine cG @od.eq_1 ?_;refine⟨fun m z w'=>∃ q n ls v1,z 27=zi ((q:Nat):Int)/\z 7=zi ((n:Nat):Int)/\z 6=v1/\q<=sh.length/\m=sh.length-q/\Ext F w'/\CT F.heap.size w' v1 ls/\uh i sh i.s=ls++uh i (sh.drop q) (i.s.drop n)/\n=vo (sh.take q)/\ls.length<=10*q,
   ⟨_,0,0,[],_,J,J,J,a0r _,J,yF,CT.nil,J,J,a0r _⟩,?_⟩
  intro m z1 d1 w6 hI;refine toPr ?_;obtain⟨q,n,ls,v1,U,h7,S,hq,rfl,jX,eO,C,hn,GB⟩:=hI;have D2:=Bo.trans jX;have pw:=jX.ext _ _ yJ;have lx6:=bf pw;obtain⟨ra,rc,rfl⟩:=gX eO;have uY:kJ w6:=hP5.ext jX;by_cases UC:q<sh.length
  .have yi:((q:Nat):Int).toNat=q:=zo;have Yb:((n:Nat):Int).toNat=n:=zo;have qZ:((q:Nat):Int)<(sh.length:Int):=zo;obtain⟨shb,shz,mz,Hd⟩:∃ b z,YK=O ⟨b,0,V⟩/\F.heap[b]?=O (ae (uq sh).toArray 5 z):=by
    rcases QJ with⟨f,-⟩| ⟨b,zz,-,f,-,E⟩<;>grind
   subst mz;have W:=jX.ext _ _ Hd;obtain⟨x,Yt⟩:=b9 (sh[q]);have jA:(uq sh).toArray[q]?=O (.int .u8 (x.toNat:Int)):=zg;have N2:sh.drop q=x::sh.drop (q+1):=by grind [a0h]
   have Ai:=P.aq6 sh q UC;have aYH:=P.aq7 sh (q+1);rw[<- Yt] at Ai;have uX:x∈sh:=zg;obtain⟨B,hB⟩:=b9 ((uq sh).toArray);rw[<- hB] at W jA;rw[N2,P.aQr] at C;have rX:=agC x uX;by_cases nX:x=115\/x=112
   .rw[zip nX] at Ai C;have Kv:n<i.s.length:=zo;have hhd:(i.s.drop n).headD 0=i.s[n]:=by grind [a0h]
    have sQ:(i.s.drop n).tail=i.s.drop (n+1):=by rw[List.tail_drop]
    rw[hhd,sQ] at C;obtain⟨svb,IL,agF,agG,agH⟩:∃ b cs,L=O ⟨b,0,V⟩/\w3.heap[b]?=aN cs 3/\cs[n]?=O (zi ((i.s[n]:Nat):Int)):=by
     rcases Hb with⟨f,-,-⟩| ⟨b,cap,cs,-,-,f,E,h3,h4,h5⟩
     .exact yH
     .simp only[a0s,true_and] at f;refine⟨b,cs,f.1,E,?_⟩;have:=congrArg (fun l=>l[n]?) h5;grind
    subst agF;have aQB:=D2.ext _ _ agG;have hni:((n:Nat):Int)<(i.s.length:Int):=zo;have Aw:i.s[n]<100000:=(by grind [a0D]);have hxI:((x.toNat:Int)=115/\x=115)\/(¬ (x.toNat:Int)=115/\(x.toNat:Int)=112):=by
     rcases nX with rfl | rfl<;>grind
    have aYI:∀ g:Z,g=w6->True:=zg;refine dC @od.eq_1 U qZ (zA W (zA jA @yi)) ?_;refine⟨fun s oG=>s 32 = .bool A/\oG=w6,?_,?_⟩
    .rcases hxI with⟨e1,-⟩| ⟨e1,e2⟩
     .exact lT @od.eq_1 @e1
     .exact JB @od.eq_1 @e1 @e2
    .rintro s g ⟨Cn,rfl⟩ dd;refine dC @od.eq_1 Cn pw (zA h7 (zA S (zA aQB (zA agH (zA hni @Yb))))) ?_;refine a0c (Ku ((i.s[n]:Nat):Int) zo zo g uY) ?_;rintro e N ⟨rfl,sI⟩;rw[<- P.Kt];refine dy @od.eq_1 S ?_;refine(eO.ext sI).push yF zo fun v9 w9 N3 kK=>?_;refine iJ @od.eq_1 h7 U ?_;refine⟨_,?_,q+1,n+1,ls++[gj i.s[n]],v9,zg,zg,zg,zo,J,kK,N3,zg,zo,zg⟩;omega
   .rw[bX nX] at Ai C;have QK:¬ (x.toNat:Int)=115:=fun e=>nX (.inl (a02.1 zg));have agI:¬ (x.toNat:Int)=112:=fun e=>nX (.inr (a02.1 zg));refine dC @od.eq_1 U qZ (zA W (zA jA @yi)) ?_;refine⟨fun s oG=>s 32 = .bool G/\oG=w6,?_,?_⟩
    .exact JB @od.eq_1 QK agI
    .rintro s g ⟨Cn,rfl⟩ dd;by_cases vp:x=99
     .rw[zip vp] at C;have rm:(x.toNat:Int)=99:=by rw[vp];rfl
      obtain⟨t,ht,Nz,htc⟩:=sZ (vp ▸ uX);rw[ht] at D C;refine dC @od.eq_1 Cn rm pw ?_;obtain⟨N,Lq⟩:=b9 (bO ((g.alloc (ae #[bH,zi 9] 96)).alloc (ae #[aq V,bH,aq V,.map V] 103)) (g.heap.size+1) (ae #[aq V,bH,pp g.heap.size,.map V] 103));rw[<- Lq];have vH:Ext g N:=yF;have qS:N.heap[g.heap.size]?=aN #[bH,zi 9] 96:=yH;have qW:N.heap[g.heap.size+1]?=aN #[aq V,bH,pp g.heap.size,.map V] 103:=yH;clear Lq;rw[size_alloc];refine a0c (aQq D Nz qS qW (uY.ext vH) zo zo zo) ?_;rintro e w9 ⟨rfl,kq,nm9,hB9⟩;have dZ:Cf (O t)≠[]:=by
       cases t with
       | atom s=>unfold ef at Nz;exact Nz.2
       | int z=>exact fun e=>by have:=amT z;rw[show kV z=[] from e] at this;grind
       | var _=>exact D.elim
       | comp _ _=>exact D.elim
      have sJ:Ext g w9:=⟨kq.os.trans vH.os,kq.tape.trans vH.tape,kq.output.trans vH.output,a0f vH.size kq.size,fun b o I _=>kq.block _ _ (vH.ext _ _ I) (by
       have:=bf I;rintro (h | h | ⟨h,-⟩)<;>omega)⟩
      refine cG @od.eq_1 ?_;refine a0c (adn hB9 dZ) ?_;rintro e jD ⟨rfl,vd⟩;have aQF:Ext g jD:=⟨vd.os.trans sJ.os,vd.tape.trans sJ.tape,vd.output.trans sJ.output,a0f sJ.size vd.size,fun b o I _=>vd.block _ _ (sJ.ext _ _ I) (by
       have:=bf I;rintro (h | ⟨h,-⟩)<;>omega)⟩
      refine dy @od.eq_1 S ?_;refine(eO.ext aQF).push yF zo fun v11 j5 aQG zm=>?_;refine iJ @od.eq_1 h7 U ?_;refine⟨_,?_,q+1,n,ls++[Cf (O t)],v11,zg,zg,zg,zo,J,zm,aQG,zg,zo,zg⟩;omega
     .rw[bX vp] at C;have UD:¬ (x.toNat:Int)=99:=fun e=>vp (a02.1 zg);by_cases AD:x=110
      .rw[zip AD] at C;have rm:(x.toNat:Int)=110:=by rw[AD];rfl
       refine dC @od.eq_1 Cn UD (zA rm (zA pw S)) ?_;refine eO.push jX zo fun v9 w9 N3 kK=>?_;refine iJ @od.eq_1 h7 U ?_;refine⟨_,?_,q+1,n,ls++[i.name],v9,zg,zg,zg,zo,J,kK,N3,zg,zo,zg⟩;omega
      .rw[bX AD] at C;have agJ:¬ (x.toNat:Int)=110:=fun e=>AD (a02.1 zg);have QL:x=42:=by
        grind
       have rm:(x.toNat:Int)=42:=by rw[QL];rfl
       have hnI:((n:Nat):Int)<=(i.s.length:Int):=zo;refine dC @od.eq_1 Cn UD (zA agJ (zA rm (zA pw h7))) ?_;rw[Yb];obtain⟨sa',iA,hsx⟩:∃ sa',sliced L n i.s.length M 1 = .slice sa' (i.s.length-n) (M-n)/\(n<i.s.length->∃ b cs,sa'=O ⟨b,n,V⟩/\w3.heap[b]?=aN cs 3/\∀ y (hy:y<i.s.length),cs[y]?=O (zi ((i.s[y]:Nat):Int))):=by
        refine⟨_,J,fun xE=>?_⟩;rcases Hb with⟨f,-,-⟩| ⟨b,cap,cs,-,-,f,E,h3,h4,h5⟩
        .exact yH
        .simp only[a0s,true_and] at f;obtain⟨rfl,rfl⟩:=f;refine⟨b,cs,?_,E,fun y hy=>?_⟩
         .rw[bX zo];simp [Addr.add];omega
         .have:=congrArg (fun l=>l[y]?) h5;grind
       rw[iA];refine dy @od.eq_1 S ?_;refine⟨fun m z w'=>∃ p v2,z 73=zi ((p:Nat):Int)/\z 6=v2/\p<=i.s.length-n/\m=i.s.length-n-p/\Ext F w'/\CT F.heap.size w' v2 (ls++((i.s.drop n).take p).map gj),
        ⟨_,0,_,J,J,a0r _,J,jX,(by show CT _ _ (.slice _ _ _) _;exact yH)⟩,?_⟩
       intro m z2 d2 N hI;refine toPr ?_;obtain⟨p,v2,h73,h62,hp,rfl,sI,YL⟩:=hI;by_cases jY:p<i.s.length-n
       .obtain⟨svb,IL,agF,agG,agH⟩:=hsx zo;subst agF;have aQI:=(Bo.trans sI).ext _ _ agG;have hnp:n+p<i.s.length:=zo;have Aw:i.s[n+p]<100000:=(by grind [a0D]);have ox:=agH (n+p) hnp;have epn:((p:Nat):Int).toNat=p:=zo;have y9:((p:Nat):Int)<(((i.s.length-n:Nat):Nat):Int):=zo;refine dC @od.eq_1 h73 y9 (zA aQI (zA ox @epn)) ?_;refine a0c (Ku ((i.s[n+p]:Nat):Int) zo zo N (hP5.ext sI)) ?_;rintro e w9 ⟨rfl,kK⟩;rw[<- P.Kt];obtain⟨ra2,rc2,rfl⟩:=gX YL;refine dy @od.eq_1 h62 ?_;refine(YL.ext kK).push yF zg fun v10 jD aqJ FC=>?_;refine dy @od.eq_1 h73 ?_;refine⟨_,?_,p+1,v10,zg,zg,zo,J,FC,?_⟩
        .omega
        grind [a2h,a0e,a0I]
       .have G7:p=i.s.length-n:=zo;subst G7;have y9:¬ (((i.s.length-n:Nat):Nat):Int)<(((i.s.length-n:Nat):Nat):Int):=zo;have e:(i.s.drop n).take (i.s.length-n)=i.s.drop n:=zg;rw[e] at YL;refine dC @od.eq_1 h73 y9 U ?_;refine⟨_,?_,q+1,n,ls++(i.s.drop n).map gj,v2,zg,zo,zo,zo,J,sI,YL,zg,zo,zg⟩;omega
  .have D9:q=sh.length:=zo;subst D9;have qZ:¬ (sh.length:Int)<(sh.length:Int):=zo;rw[List.drop_length] at C;have C:uh i sh i.s=ls:=by grind [uh]
   refine dC @od.eq_1 U qZ (zA pw S) ?_;have h6b:=(h3.ext D2);have sQ:(((c.ins.take j).map Gx).flatten).length<=60*j:=by
    have key:∀ l:List P.In,(∀ i∈l,DO i)->((l.map Gx).flatten).length<=60*l.length:=by
     intro l;induction l with
     | nil=>grind
     | cons a r ih=>
      intro h;have f:=ac4 (h a List.mem_cons_self);grind
    grind
   have kS:=ac4 pt;rw[hT,C] at kS;unfold mJ at kS;rw[YG] at kS;simp only[a0i,List.length_cons,List.length_nil] at kS;refine a0c (YH h6b eO.sl zo zg) ?_;rintro e N ⟨rfl,h8,Ja⟩;refine dy @od.eq_1 Q ?_;have aQL:jH wb w3 N:=(bz.ea D2).trans Ja;refine⟨_,?_,j+1,zg,zo,J,?_,xG.trans aQL⟩
   .omega
   grind [a2h,a0e,a3I,a0I]
 .have fx:j=c.ins.length:=zo;subst fx;have fJ:¬ (c.ins.length:Int)<(k.ins.length:Int):=zo;rw[a1e] at h3;refine iJ @od.eq_1 Q fJ ?_;exact hR _ _ ⟨J,h3,xG⟩
def YM(w:Z)(pb:Nat)(p:Pd):Prop:=∃ a fR,w.heap[pb]?=aN #[aM p.name,zi (p.arity:Int),a] 213/\fD (fun _=>True) w 185 a fR/\fR.length=p.clauses.length /\
 ∀ (j:Nat) (c:Co),p.clauses[j]?=O c->∃ mb,fR[j]?=O (pp mb)/\rL w mb c
theorem YM.ext{w w':Z}{pb:Nat}{p:Pd}(h:YM w pb p)(a:Ext w w'):YM w' pb p:=by
 obtain⟨b,fR,c,d,e,f⟩:=h;exact⟨b,fR,a.ext _ _ c,d.mono zg (by grind [bz.ext]),e,(by grind [rL.ext])⟩
def YN{α:Type}(f:α->Bs)(l:List α)(j:Nat):(((l.take j).map f).flatten).length<=((l.map f).flatten).length:=by
 grind [List.take_append_drop,a3I,a0i]
theorem YO{α:Type}(f:α->Bs){l:List α}(a:j<l.length):((l.take (j+1)).map f).flatten=((l.take j).map f).flatten++f l[j]:=by
 grind [a2h,a0e,a3I]
def sl2{a b:Bs}:fD (fun _=>True) (w.alloc (ae #[aM a,aM b] 9)) 9 (cM w.heap.size 2 2) ([a,b].map fun s=>aM s):=
 .inr ⟨w.heap.size,_,J,trivial,yH,Nat.le_refl _,J⟩
def sl1{a:Bs}:fD (fun _=>True) (w.alloc (ae #[aM a] 9)) 9 (cM w.heap.size 1 1) ([a].map fun s=>aM s):=
 .inr ⟨w.heap.size,_,J,trivial,yH,Nat.le_refl _,J⟩
def agN(f:Bs)(l:List Bs):(mJ f l).length=f.length+(yh l).length+1:=by
 grind [mJ,YG,a0i]
def aQN{l:List Pd}{ask:Co}(K:fD (fun _=>True) w 211 tv xs)(jY:xs.length=l.length)(YP:∀ (j:Nat) (p:Pd),l[j]?=O p->∃ pb,xs[j]?=O (pp pb)/\YM w pb p)(Pc:rL w fm ask)
  (de:∀ p∈l,∀ c∈p.clauses,As c/\∀ i∈c.ins,GC i) (IE:As ask/\∀ i∈ask.ins,GC i) (kT:∀ p∈l,p.arity<=1000) (wN:∀ p∈l,p.clauses.length<=1000) (hl:l.length<=1000) (ht:told<=1000) (r:kJ w) (hlen:(yZ l ask told).length<=400000000) :
  Calls bah 81 #[tv,pp fm,zi (told:Int)] w fun e w'=>e = ah (aM (yZ l ask told))/\Ext w w':=by
 suffices H:∀ R:Ending->Z->Prop,(∀ e w',(e = ah (aM (yZ l ask told))/\Ext w w')->R e w')->Calls bah 81 #[tv,pp fm,zi (told:Int)] w R from H _ yF;intro R hR;obtain⟨la,lc,rfl⟩:=K.sl;have hgp:4<w.heap.size:=by
  have:=r;unfold kJ Lib.TabIs World.var? at this;rw[Xe] at this;simp only[Option.bind_some] at this;rcases Nat.lt_or_ge 4 w.heap.size with h | h
  .exact h
  .rw[Array.getElem?_eq_none h] at this;cases this
 have uf:(yZ l ask told).length=((l.map wI).flatten).length+(mJ [113,117,101,114,121] [gj ask.slots,gj told]).length+(Ap ask).length:=by grind [yZ,a0i]
 refine aOi ?_;refine bD ?_;obtain⟨wb,rB⟩:=b9 w.heap.size;obtain⟨w1,jN⟩:=b9 (w.alloc (ae #[aq V,bH] 100));rw[<- jN,<- rB];have s:Ext w w1:=yF;have hB1:qw w1 wb []:=⟨aq V,bH,.inl J,yH,World.ownsRow_nil _ _ _ _⟩;clear jN;have t:∀ {w'},jH wb w1 w'->Ext w w':=fun{w'} u=>⟨u.os.trans s.os,u.tape.trans s.tape,u.output.trans s.output,a0f s.size u.size,fun b o hb _=>u.block _ _ (s.ext _ _ hb) (by
  have:=bf hb;rintro (h | ⟨h,-⟩)<;>omega)⟩
 have hTb:∀ {w'},jH wb w1 w'->kJ w':=(by grind [kJ.ext]);have hg:4<wb:=zo;refine⟨fun m z w'=>∃ j,z 14=zi ((j:Nat):Int)/\j<=l.length/\m=l.length-j/\qw w' wb (((l.take j).map wI).flatten)/\jH wb w1 w',⟨_,0,J,a0r _,J,zg,bz.refl _ _⟩,?_⟩;intro m z d w3 L;refine toPr ?_;obtain⟨j,M,hj,rfl,N,Q⟩:=L;have D:=t Q;have hft:=YN wI l j;by_cases E:j<l.length
 .obtain⟨pb,lG,x⟩:=YP j l[j] zg;obtain⟨g,cs,e3,e4,e5,e6⟩:=K.at' (j:=j) zo;simp only[a0s,true_and] at e3;obtain⟨rfl,rfl⟩:=e3;rw[lG] at e6;obtain⟨p,S⟩:=b9 (l[j]);rw[<- S] at x;have T:p∈l:=zg;have jJ:((j:Nat):Int).toNat=j:=zo;have U:((j:Nat):Int)<(xs.length:Int):=zo;have g3:=D.ext _ _ e5;obtain⟨UE,fR,q1,q2,q3,q4⟩:=id x;obtain⟨cla,clc,rfl⟩:=q2.sl;have Qh:=D.ext _ _ q1;have dA:Ext w3 w3.drew:=yF;have kT:=kT p T;have Sj:=wN p T;refine dC M U @g3 (zA @e6 @jJ) ?_;refine⟨fun w'=>Ext w3 w',dA,?_⟩;rw[jx];refine cQ (pp pb) (fun w' hS=>eQ) ?_;refine cQ (aM p.name) (fun w' hS=>by have W:=hS.ext _ _ Qh;have:=bf W;exact fg W) ?_;refine cG @Qh ?_;refine a0c (Ku (p.arity:Int) zo zo w3.drew (by grind [kJ.ext])) ?_;rintro e X ⟨rfl,tG⟩;have fZ:=dA.trans tG;rw[<- P.Kt];refine⟨fZ,?_⟩;refine bD ?_;have y:Ext w3 (X.alloc (ae #[aM p.name,aM (gj p.arity)] 9)):=fZ.alloc _;have hpt:=YN wI l (j+1);rw[YO wI E,<- S,a0i] at hpt;have aYP:(wI p).length=(mJ [112,114,101,100] [p.name,gj p.arity]).length+((p.clauses.map fun c=>mJ [99,108,97,117,115,101] [gj c.slots]++Ap c).flatten).length:=by grind [wI,a0i]
  have aQQ:=agN [112,114,101,100] [p.name,gj p.arity];refine a0c (YH (N.ext y) sl2 zs zo) ?_;rintro e w5 ⟨rfl,h5,aQR⟩;have Sp:jH wb w1 w5:=Q.trans ((bz.ea y).trans aQR);have lX:=t Sp;have q15:=lX.ext _ _ q1;refine cG @q15 ?_;refine⟨fun m z w'=>∃ q,z 34=zi ((q:Nat):Int)/\q<=p.clauses.length/\m=p.clauses.length-q/\qw w' wb (((l.take j).map wI).flatten++mJ [112,114,101,100] [p.name,gj p.arity]++((p.clauses.take q).map fun c=>mJ [99,108,97,117,115,101] [gj c.slots]++Ap c).flatten)/\jH wb w1 w',
   ⟨_,0,J,a0r _,J,zg,Sp⟩,?_⟩
  intro m z2 d2 F L;refine toPr ?_;obtain⟨q,a,hq,rfl,I,f⟩:=L;have n:=t f;have hfq:=YN (fun c=>mJ [99,108,97,117,115,101] [gj c.slots]++Ap c) p.clauses q;by_cases UC:q<p.clauses.length
  .obtain⟨mb,jb,BZ⟩:=q4 q p.clauses[q] zg;obtain⟨g2,Fb,f3,f4,f5,f6⟩:=q2.at' (j:=q) zo;simp only[a0s,true_and] at f3;obtain⟨rfl,rfl⟩:=f3;rw[jb] at f6;obtain⟨c,Fp⟩:=b9 (p.clauses[q]);rw[<- Fp] at BZ;have CY:c∈p.clauses:=zg;obtain⟨PT,Yj⟩:=de p T c CY;have yi:((q:Nat):Int).toNat=q:=zo;have qZ:((q:Nat):Int)<(fR.length:Int):=zo;have g6:=n.ext _ _ f5;obtain⟨base,vb,iv,vv,gk,sb,cut,k,hM,qP,vM⟩:=id BZ;have I8:=(hM.ext n).cell;have K:=PT.slots;refine dC a qZ @g6 (zA @f6 (zA @yi I8)) ?_;refine a0c (Ku (k.slots:Int) zo zo F (r.ext n)) ?_;rintro e w7 ⟨rfl,QM⟩;rw[<- P.Kt,qP];refine bD ?_;have B:Ext F (w7.alloc (ae #[aM (gj c.slots)] 9)):=QM.alloc _;have hcq:=YN (fun c=>mJ [99,108,97,117,115,101] [gj c.slots]++Ap c) p.clauses (q+1);rw[YO _ UC,<- Fp,a0i,a0i] at hcq;have aYR:=agN [99,108,97,117,115,101] [gj c.slots];refine a0c (YH (I.ext B) sl1 zs zg) ?_;rintro e w8 ⟨rfl,h8,C⟩;have Ja:jH wb w1 w8:=f.trans ((bz.ea B).trans C);have sI:=t Ja;refine bD ?_;refine a0c (aq9 (BZ.ext sI) h8 (by grind [As.ins]) (r.ext sI) hg PT.len zg) ?_;rintro e w9 ⟨rfl,W,aQT⟩;refine cG a ?_;refine⟨_,?_,q+1,zg,zo,J,?_,Ja.trans aQT⟩
   .omega
   grind [YO,a0I]
  .have D9:q=p.clauses.length:=zo;subst D9;have qZ:¬ (p.clauses.length:Int)<(fR.length:Int):=zo;rw[a1e] at I;refine iJ a qZ M ?_;refine⟨_,?_,j+1,zg,zo,J,?_,f⟩
   .omega
   .rw[YO wI E,<- S];rw[show wI p=mJ [112,114,101,100] [p.name,gj p.arity]++(p.clauses.map fun c=>mJ [99,108,97,117,115,101] [gj c.slots]++Ap c).flatten from J,<- a0I];omega
 .have E:j=l.length:=zo;subst E;have U:¬ (l.length:Int)<(xs.length:Int):=zo;rw[a1e] at N;obtain⟨base,vb,iv,vv,gk,sb,cut,k,hM,qP,vM⟩:=id Pc;have YI:=(hM.ext D);have hc3:=YI.cell;have has:=IE.1.slots;refine iJ M U hc3 ?_;refine a0c (Ku (k.slots:Int) zo zo w3 (r.ext D)) ?_;rintro e X ⟨rfl,tG⟩;refine bD ?_;refine a0c (Ku (told:Int) zo zo X (by grind [kJ.ext])) ?_;rintro e w5 ⟨rfl,qV⟩;rw[<- P.Kt,<- P.Kt,qP];refine bD ?_;have Bo:=tG.trans qV;have D2:Ext w3 (w5.alloc (ae #[aM (gj ask.slots),aM (gj told)] 9)):=Bo.alloc _;have aQQ:=agN [113,117,101,114,121] [gj ask.slots,gj told];refine a0c (YH (N.ext D2) sl2 zs zo) ?_;rintro e F ⟨rfl,I,aQU⟩;have f:jH wb w1 F:=Q.trans ((bz.ea D2).trans aQU);have n:=t f;refine bD ?_;refine a0c (aq9 (Pc.ext n) I (by grind [As.ins]) (r.ext n) hg IE.1.len zg) ?_;rintro e w7 ⟨rfl,h7,aQV⟩;have Dw:=f.trans aQV;refine bD ?_;refine a0c (aO7 h7 zg) ?_;rintro e w8 ⟨rfl,C⟩;refine bD ?_;exact hR _ _ ⟨J,yF⟩
open Go.Proofs.YtoegidfbnkaabaaGreatDoor.Sx
section
variable{p0 p1 p2 p3 p4 p5 p6 p7:Y}{w:Z}{R:Ending->Z->Prop}
def aQW:=cy w R [p0,p1] (gd [(5,[6,17])] [(12003,[6,11])] [(7,9)] [(12,[14,0,1,2,3,4,5,6,7,8,9,10,11,12,13,14]),(13,[18,0,1,2,3,4,5,6,7,8,9,10,11,12,13,14,15,16,17]),(15,[9,0,1,3,4,5,6,7,2,8,9,10])] [] [] [12,18,36,37,38]) func41
end
def aQX(v4 v5:Y)(w:Z):CallsD bah 79 #[v4,v5] .returning w fun e u' w'=>e = ah (ak #[])/\u' = .returning/\w'=w:=by
 refine callsD_of_wpS func79 J fun Ak cs hu=>?_;apply wpS_seq;apply wpS_region;simp [wpOpsS,go_sem,recoverD,hu,ntmps79,a0R,aoD];apply wpS_seq;apply wpS_region;simp [wpOpsS,go_sem,recoverD,hu,ntmps79,a0R];refine wpS_cond (t:=false) (by simp [Act.eval]) ?_;simp only[Bool.false_eq_true,if_false];refine wpS_of_wp (wp_skip ?_);cases Ak;simp_all [bodyPostS,results,Tryz.results79]
def aQY(b4 b5:Nat)(o4 o5:Y)(xH:List PanicEntry)(w:Z)(h4:w.heap[b4]?=aN #[o4] 9)(h5:w.heap[b5]?=aN #[o5] 4)(dZ:b4≠b5) :
  CallsD bah 79 #[pp b4,pp b5] (.panicking ({ v:=aj 27 (zi 4),recovered:=false }::xH)) w fun e u' w'=>
   e = ah (ak #[])/\u' = .panicking ({ v:=aj 27 (zi 4),recovered:=true }::xH)/\w'=bO (bO w b4 (ae #[aM []] 9 (0,0))) b5 (ae #[.bool G] 4):=by
 have c4:w.cell? ⟨b4,0,V⟩=O o4:=D4 h4 J;have z4:=jL h4 0;have e1:w.setCell ⟨b4,0,V⟩ (aM [])=bO w b4 (ae #[aM []] 9 (0,0)):=uO h4 _;obtain⟨w1,jN⟩:=b9 (bO w b4 (ae #[aM []] 9 (0,0)));rw[<- jN] at e1;have Dy:w1.heap[b5]?=aN #[o5] 4:=yH;have c5:w1.cell? ⟨b5,0,V⟩=O o5:=D4 Dy J;have z5:=jL Dy 0;have e2:w1.setCell ⟨b5,0,V⟩ (.bool G)=bO w1 b5 (ae #[.bool G] 4):=uO Dy _;have e1':w.setCell ⟨b4,0,V⟩ (.string { data:=#[] })=w1:=e1;refine callsD_of_wpS func79 J fun Ak cs hu=>?_;apply wpS_seq;apply wpS_region;simp [wpOpsS,go_sem,recoverD,hu,ntmps79,a0R,aoE];apply wpS_seq;apply wpS_region;simp [wpOpsS,go_sem,recoverD,hu,ntmps79,a0R];refine wpS_cond (t:=true) (by simp [Act.eval]) ?_;simp only[if_true];apply wpS_region;simp [wpOpsS,go_sem,recoverD,hu,ntmps79,a0R,c4,z4,e1',c5,z5,e2];simp [bodyPostS,results,Tryz.results79,jN]
def aQ0(h:res w) :
  LV bah res R [{ target:=.fn (.func 79) #[tv,vv],args:=#[]++#[] }] .returning w:=by
 refine BG zk zs ((aQX tv vv w).mono ?_);rintro e a w' ⟨rfl,rfl,rfl⟩;exact h
def aQ1(a:w.heap[pb]?=aN #[o4] 9)
  (b:w.heap[cap]?=aN #[o5] 4) (c:pb≠cap)
  (h:res (bO (bO w pb (ae #[aM []] 9 (0,0))) cap (ae #[.bool G] 4))) :
  LV bah res R [{ target:=.fn (.func 79) #[pp pb,pp cap],args:=#[]++#[] }]
   (.panicking [{ v:=aj 27 (zi 4),recovered:=false }]) w:=by
 refine BG zk zs ((aQY pb cap o4 o5 [] w a b c).mono ?_);rintro e d w' ⟨rfl,rfl,rfl⟩;exact h
def rM:Nat->List Pd->List (List UInt8×Y)
 | _,[]=>[]
 | i,p::r=>(P.keyOf p.name p.arity,.int .i64 (i:Int))::rM (i+1) r
def arj(p:Pd):∀ (l:List Pd) (i:Nat),rM i (l++[p])=rM i l++[(P.keyOf p.name p.arity,zi ((i+l.length:Nat):Int))]
 | [],i=>rfl
 | q::l,i=>by
  rw[List.cons_append,rM,rM,arj p l (i+1),List.cons_append,List.length_cons,show i+1+l.length=i+(l.length+1) from by omega]
def ark(x:Co):∀ (l:List Pd) (i k:Nat),rM i (l.modify k fun p=>{ p with clauses:=p.clauses++[x] })=rM i l
 | [],i,k=>zg
 | q::l,i,0=>by simp [rM]
 | q::l,i,k+1=>by rw[a1m,rM,rM,ark x l (i+1) k]
def YQ{name:Bs}{n:Nat}(a:n<80)(x:Co):∀ (l:List Pd) (i j:Nat),(∀ p∈l,p.arity<80)->match fH (P.keyOf name n) (rM i l) j with
  | none=>rz name n x l=l++[⟨name,n,[x]⟩]
  | some (q,v)=>∃ k,q=j+k/\v = .int .i64 ((i+k:Nat):Int)/\k<l.length/\rz name n x l=l.modify k fun p=>{ p with clauses:=p.clauses++[x] }
 | [],i,j,_=>rfl
 | p::l,i,j,h=>by
  have d:=h p List.mem_cons_self;have ih:=YQ (name:=name) a x l (i+1) (j+1) zg;rw[rM,fH];by_cases hk:P.keyOf p.name p.arity=P.keyOf name n
  .rw[zip hk];obtain⟨e,f⟩:=(P.aeg d a).1 hk;exact⟨0,J,J,zs,by rw[rz,zip ⟨e,f⟩];rfl⟩
  .rw[bX hk];have b:¬ (p.name=name/\p.arity=n):=zg;cases c:fH (P.keyOf name n) (rM (i+1) l) (j+1) with
   | none=>
    rw[c] at ih;have ih:rz name n x l=l++[⟨name,n,[x]⟩]:=ih;show rz name n x (p::l)=_;rw[rz,bX b,ih];rfl
   | some g=>
    obtain⟨q,v⟩:=g;rw[c] at ih;obtain⟨k,o,r,s,m⟩:=ih;exact⟨k+1,zo,zg,zg,by rw[rz,bX b,m,a1m]⟩
structure Bz(ba:Nat)(w:Z)(v:Y)(qz:Nat->Nat)(rN:Nat->Y)(l:List Pd):Prop where
 row:w.ownsRow ba 211 1 v l.length ((a0C l.length).map fun i=>a0U (O ⟨qz i,0,V⟩))
 lo:∀ i,i<l.length->ba<=qz i
 cell:∀ (i:Nat) (p:Pd),l[i]?=O p->w.heap[qz i]?=aN #[aM p.name,zi ((p.arity:Nat):Int),rN i] 213
 cl:∀ (i:Nat) (p:Pd),l[i]?=O p->∃ fR:List Y,w.ownsRow ba 185 1 (rN i) p.clauses.length fR/\∀ (k:Nat) (c:Co),p.clauses[k]?=O c->∃ mb,fR[k]?=O (pp mb)/\rL w mb c
 ne:∀ i j,i<l.length->j<l.length->i≠j->qz i≠qz j
 nc:∀ i j,i<l.length->j<l.length->i≠j->∀ b,(rN i).ownBlock=O b->(rN j).ownBlock≠O b
section
variable{ba:Nat}{w w':Z}{v:Y}{qz:Nat->Nat}{rN:Nat->Y}{l:List Pd}
theorem Bz.ext(h:Bz ba w v qz rN l)(a:Ext w w'):Bz ba w' v qz rN l:=
 ⟨jM a.ext h.row,h.lo,(by grind [bz.ext,cell]),fun i p b=>let ⟨fR,c,d⟩:=h.cl i p b;⟨fR,jM a.ext c,(by grind [rL.ext])⟩,h.ne,h.nc⟩
theorem rL.agR{c:Co}(h:rL w mb c)(hk:∀ (b T:Nat) (cs:Array Y),T≠185->T≠213->T≠211->w.heap[b]?=aN cs T->w'.heap[b]?=aN cs T):rL w' mb c:=by
 obtain⟨base,vb,iv,vv,gk,sb,cut,k,h,a⟩:=h;refine⟨base,vb,iv,vv,gk,sb,cut,k,⟨(by grind [fG.cell]),h.lo,⟨h.row.1,?_⟩,h.ins.bI yH,(by grind [fG.vars]),h.I3,h.sep,h.I4⟩,a⟩;rcases h.row.2 with e | ⟨b,cap,cur,rfl,a,f,d⟩
 .exact yH
 .exact .inr ⟨b,cap,cur,J,a,yH,d⟩
theorem FJ{size:Nat}(h:w.ownsRow ba e size u n xs)(hk:∀ (b:Nat) (cs:Array Y),u.ownBlock=O b->w.heap[b]?=aN cs e->w'.heap[b]?=aN cs e):w'.ownsRow ba e size u n xs:=by
 refine⟨h.1,?_⟩;rcases h.2 with f | ⟨b,cap,cur,rfl,a,c,d⟩
 .exact yH
 .exact .inr ⟨b,cap,cur,J,a,hk b cur J c,d⟩
def Ef{size:Nat}(h:w.ownsRow ba e size u n xs)(a:u.ownBlock=O b):ba<=b/\b<w.heap.size/\∃ cs,w.heap[b]?=aN cs e:=by
 rcases h.2 with⟨c,-⟩| ⟨g,cap,cur,c,d,f,-⟩
 .rw[c] at a;cases a
 .rw[c] at a;injection a with a;exact yH
theorem FK{size:Nat}(a:w.ownsRow ba e size u n xs)(c:w.grownBy w' u.ownBlock){T:Nat}(g:T≠e)(d:w.heap[b]?=aN cs T):w'.heap[b]?=aN cs T:=by
 rw[c.block b (bf d) (fun f=>?_)]
 .omega
 .obtain⟨-,-,cs',h⟩:=Ef a f.symm;grind
def Bz.new(h:Bz ba w v qz rN l){nb:Nat}{name:Bs}(t:w.heap[nb]?=aN #[aM name,zi (n:Int),bH] 213)(u:ba<=nb)(x:∀ i,i<l.length->qz i≠nb)
  (y:w'.ownsRow ba 211 1 tv (l.length+1) (((a0C l.length).map fun i=>a0U (O ⟨qz i,0,V⟩))++[pp nb])) (r:w.grownBy w' v.ownBlock) :
  Bz ba w' tv (fun i=>if i=l.length then nb else qz i) (fun i=>if i=l.length then bH else rN i) (l++[⟨name,n,[]⟩]):=by
 have z:∀ {b T:Nat} {cs:Array Y},T≠211->w.heap[b]?=aN cs T->w'.heap[b]?=aN cs T:=fun s c=>FK h.row r s c;have o:∀ i p,(l++[(⟨name,n,[]⟩:Pd)])[i]?=O p->(i<l.length/\l[i]?=O p)\/(i=l.length/\p=⟨name,n,[]⟩):=zg;refine⟨?_,fun i a=>?_,fun i p a=>?_,fun i p a=>?_,fun i j a m q=>?_,fun i j a m q b c=>?_⟩
 .have e:(a0C (l++[(⟨name,n,[]⟩:Pd)]).length).map (fun i=>a0U (O ⟨(if i=l.length then nb else qz i),0,V⟩))=((a0C l.length).map fun i=>a0U (O ⟨qz i,0,V⟩))++[pp nb]:=by
   rw[a0i,a0S,List.range_succ,List.map_append]
   congr 1
   .refine List.map_congr_left fun i a=>?_;grind
   grind
  grind
 .simp only[a0i,a0S] at a;by_cases d:i=l.length
  .grind
  .simp only[bX d];grind [lo]
 .rcases o i p a with⟨g,f⟩| ⟨g,f⟩
  .simp only[bX (show i≠l.length by omega)];grind [cell]
  exact yH
 .rcases o i p a with⟨g,f⟩| ⟨g,f⟩
  .simp only[bX (show i≠l.length by omega)];obtain⟨fR,g1,g2⟩:=h.cl i p f;exact⟨fR,(by grind [FJ]),(by grind [rL.agR])⟩
  .subst g f;simp only[if_true];exact⟨[],⟨J,yH⟩,zg⟩
 .simp only[a0i,a0S] at a m;by_cases d:i=l.length
  .grind
  .by_cases k:j=l.length
   .grind
   .simp only[bX d,bX k];grind [ne]
 .simp only[a0i,a0S] at a m;by_cases d:i=l.length
  .simp only[zip d] at c;cases c
  .simp only[bX d] at c;by_cases k:j=l.length
   .simp only[zip k];exact fun e=>by cases e
   .simp only[bX k];exact h.nc i j zo zo q b c
def Bz.push(h:Bz ba w v qz rN l){p:Pd}{c:Co}(hk:l[k]?=O p)(t:w.ownsRow ba 185 1 (rN k) p.clauses.length xs)(K:∀ (k:Nat) (c:Co),p.clauses[k]?=O c->∃ mb,xs[k]?=O (pp mb)/\rL w mb c)
  (L:rL w mb c) (M:w'.ownsRow ba 185 1 tv (p.clauses.length+1) (xs++[pp mb])) (u:w.grownBy w' (rN k).ownBlock) (n:tv.ownBlock=(rN k).ownBlock\/∀ j,tv.ownBlock=O j->w.heap.size<=j) :
  Bz ba (bO w' (qz k) (ae #[aM p.name,zi (p.arity:Int),tv] 213)) v qz (fun i=>if i=k then tv else rN i) (l.modify k fun p=>{ p with clauses:=p.clauses++[c] }):=by
 have y:k<l.length:=by
  grind
 have z:∀ {b T:Nat} {cs:Array Y},T≠185->w.heap[b]?=aN cs T->w'.heap[b]?=aN cs T:=(by grind [FK]);have B:=z zd (h.cell k p hk);have C:=bf B;obtain⟨w2,D⟩:=b9 (bO w' (qz k) (ae #[aM p.name,zi (p.arity:Int),tv] 213));rw[<- D];have hu:∀ {b T:Nat} {cs:Array Y},(T≠213\/b≠qz k)->w'.heap[b]?=aN cs T->w2.heap[b]?=aN cs T:=yH;have o:∀ i x,(l.modify k fun p=>{ p with clauses:=p.clauses++[c] })[i]?=O x->(i≠k/\l[i]?=O x)\/(i=k/\x={ p with clauses:=p.clauses++[c] }):=zg;have E:∀ {mb c},rL w mb c->rL w2 mb c:=(by grind [rL.agR]);refine⟨?_,fun i d=>h.lo i zg,fun i x d=>?_,fun i x d=>?_,(by grind [ne]),fun i j d F N b f=>?_⟩
 .rw[List.length_modify];exact FJ h.row yH
 .rcases o i x d with⟨a,g⟩| ⟨a,g⟩
  .simp only[bX a];grind [Nat.lt_or_ge,List.getElem?_eq_none,ne,cell]
  exact yH
 .rcases o i x d with⟨a,g⟩| ⟨a,g⟩
  .simp only[bX a];have H:i<l.length:=by
    grind
   obtain⟨r,g1,g2⟩:=h.cl i x g;refine⟨r,FJ g1 fun b cs f hx=>hu zg ?_,zg⟩;rw[u.block b (bf hx) (fun e=>h.nc i k H y a b f e.symm)];exact hx
  .subst a g;simp only[if_true];refine⟨xs++[pp mb],?_,fun q x s=>?_⟩
   .grind [a0i,a0S,FJ]
   .have s:(p.clauses++[c])[q]?=O x:=s;have P:xs.length=p.clauses.length:=by have:=t.1;omega
    grind
 .rw[List.length_modify] at d F;have hold:∀ i j,i<l.length->j=k->i≠k->∀ b,(rN i).ownBlock=O b->tv.ownBlock≠O b:=fun i j d _ m b f e=>by
   rcases n with n | n
   .grind [nc]
   .have a:=n b e;obtain⟨r,g1,-⟩:=h.cl i l[i] zg;have:=(Ef g1 f).2.1;omega
  by_cases m:i=k
  .grind
  .simp only[bX m] at f;by_cases I:j=k
   .grind
   .simp only[bX I];grind [nc]
end
