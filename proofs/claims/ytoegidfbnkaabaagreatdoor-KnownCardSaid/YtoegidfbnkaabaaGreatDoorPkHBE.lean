/- A part of one proof (VP6, VP7, ShX4c, VP8, ShX4e, VP9, VP10, VP11). -/
import Derived.Test.YtoegidfbnkaabaaGreatDoorPkHBD
set_option linter.all false
set_option maxRecDepth 100000
set_option maxHeartbeats 8000000
open Option renaming some → O, none → V
open Go renaming Value → Y, World → Z
open Bool renaming true → A, false → G
open Go.Obj renaming cells → ae
open Go.Ending renaming returned → ah
open Go.Value renaming nilIface → ai, iface → aj, tuple → ak, pointer → aq
open Go.Calls renaming mono → a0c
open Nat renaming le_refl → a0d, zero_le → a0r
open List renaming drop_eq_getElem_cons → a0h, length_singleton → a0S, drop_of_length_le → a1E, getElem?_concat_length → a3K
open Go.Value renaming string → a0u
open Go.World renaming ownsRow_nil → a0z
open Go.Exit renaming thenS → a0R
open UInt8 renaming toNat_inj → a02
open Go.Lib renaming hasSuffix → a17, index → a2S, trimSuffix → a3m, splitB → a3y
open Go.Proofs.Tryz renaming prog → baj
open Go.Proofs.Tryz
namespace Go.Proofs.YtoegidfbnkaabaaGreatDoor
open P
open Go.RowKit Sx
variable{R:Ending->Z->Prop}{base cap cb e k' n pb so told wb xb:Nat}{cs:Array Y}{o4 o5 tv v vv:Y}{res:Z->Prop}{vars:List Bs}{vs xs:List Y}{w:Z}{wd:Bs}
def arM{size:Nat}{o:Obj}(h:w.ownsRow base e size v n xs)(hx:xb<base):(bO w xb o).ownsRow base e size v n xs:=by
 refine⟨h.1,?_⟩;rcases h.2 with r | ⟨g,cap,cur,a,b,d,c⟩
 .exact yH
 .exact .inr ⟨g,cap,cur,a,b,yH,c⟩
def arN(slots:Nat)(ws:List Bs)(k:Int)(w:Z)(e:Ending)(w':Z):Prop:=Ext w w'/\match vl slots ws with
 | some i=>∃ cv sv,e = ah (.agg #[.string (bs i.word),.string (bs i.name),cv,sv])/\x8 cv i.const/\w'.ownsRow w.heap.size 3 1 sv i.s.length (uC i.s)
 | none=>mR 5 k w w' e
def aRD{ws:List Bs}{slots:Nat}{insv:Y}{k:Int}(hw:w.heap[wb]?=O (ae ((wd::ws).map fun s=>a0u (bs s)).toArray 9 (0,0)))
  (hc:w.heap[cb]?=aN #[zi (slots:Int),insv] 196) (iA:slots<=100000) (hlen:ws.length<=100000) (D6:∀ s∈wd::ws,s.length<=1000000) (hT:AI w) (hP:kJ w) :
  Calls baj 74 #[cM wb (ws.length+1) (ws.length+1),pp cb,zi k] w (arN slots (wd::ws) k w):=by
 suffices H:∀ R:Ending->Z->Prop,(∀ e w',arN slots (wd::ws) k w e w'->R e w')->Calls baj 74 #[cM wb (ws.length+1) (ws.length+1),pp cb,zi k] w R from H _ zg;intro R hR;have lw:=bf hw;have lc:=bf hc;have yj:∀ w2,Ext w w2->vl slots (wd::ws)=V->∀ e w3,Ext w2 w3->mR 5 k w2 w3 e->∃ b,e = .panicked [{ v:=aj 73 (pp b),recovered:=false }]/\R e w3:=fun w2 dM hu e w3 eI hf=>by
  have Dc:=hf;obtain⟨b,rfl,T,h3⟩:=Dc;exact⟨b,J,hR _ _ ⟨yF,by rw[hu];exact hf.ext dM⟩⟩
 have CL:∀ w2,Ext w w2->vl slots (wd::ws)=V->∀ K:Y->Z->Prop,Calls baj 70 #[zi k] w2 (ends K (PC R)):=fun w2 dM hu K=>by
  refine(UN k w2).mono ?_;rintro e w3 ⟨eI,hf⟩;obtain⟨b,rfl,h⟩:=yj w2 dM hu e w3 eI hf;exact h
 obtain⟨cs,jh⟩:=b9 (((wd::ws).map fun s=>a0u (bs s)).toArray);have arO:cs[0]?=O (aM wd):=zg;have ag4:∀ q,(hq:q<ws.length)->cs[q+1]?=O (aM (ws[q])):=zg;rw[<- jh] at hw;refine aRz ?_;refine dy hw arO ?_;obtain⟨w2,jV⟩:=b9 (bO ((w.alloc (ae #[aM [],aM [],ai,bH] 198 (0,0))).alloc (ae #[aM [],aM [],ai,bH] 198 (0,0))) (w.heap.size+1) (ae (ot #[a0u (bs []),aM [],ai,bH] 0 (Value.agg #[aM wd,aM [],ai,bH]).cells.toList) 198 (0,0)));rw[<- jV];have dM:Ext w w2:=yF;have r2:w2.heap[w.heap.size]?=aN #[aM [],aM [],ai,bH] 198:=yH;have x2:w2.heap[w.heap.size+1]?=aN #[aM wd,aM [],ai,bH] 198:=by rw[jV];exact pX J (yH)
 clear jV;obtain⟨rb,K4⟩:=b9 w.heap.size;obtain⟨xb,sX⟩:=b9 (w.heap.size+1);rw[<- K4] at r2;rw[<- sX] at x2;have dA:Ext w2 w2.drew:=yF;have lu:(w.alloc (ae #[aM [],aM [],ai,bH] 198 (0,0))).heap.size=xb:=yH;rw[lu,<- K4];refine⟨fun w'=>Ext w2 w',dA,?_⟩;have jV:=dM.ext _ _ hw;refine cQ (pp wb) (fun w' j=>by have f:=j.ext _ _ jV;have:=bf f;exact fg f) ?_;refine cQ (aM wd) (fun w' j=>by have f:=j.ext _ _ jV;have:=bf f;exact lT f arO) ?_;refine a0c (ap9 w2.drew) ?_;rintro e w5 ⟨lX,sm,sl,rfl,hsm,UB,agB⟩;have KH:Ext w2 w5:=yF;have G9:=dM.trans KH;refine⟨KH,?_⟩;rw[KV (k:=9) (e:=98) (z:=bH) zk zk zk UB.map wd A];have OY:=UB.find agB wd;cases hf:fH wd sl 0 with
 | none=>
  rw[hf] at OY;simp only;refine cQ bH (fun w' j=>eQ) ?_;refine cQ (.bool G) (fun w' j=>eQ) ?_;refine⟨fun _ _=>False,?_,by rintro _ _ h;exact h.elim⟩;refine bD ?_;exact CL w5 G9 (by grind [P.arL]) _
 | some p=>
  obtain⟨q0,YJ⟩:=p;rw[hf] at OY;obtain⟨sh,si,QJ⟩:=OY;simp only;refine cQ YJ (fun w' j=>eQ) ?_;refine cQ (.bool A) (fun w' j=>eQ) ?_;refine⟨fun _ w'=>w'=w5,?_,?_⟩
  .exact eQ
  rintro s0 N7 rfl d0;have Iu:vl slots (wd::ws)=match mM slots sh ws ⟨wd,[],V,[]⟩with
   | some (i,[])=>if ((wd=[109,97,107,101]\/wd=[115,112,108,105,116])/\i.s.length<2)\/(wd=nk/\jK i.name≠i.s.length) then V else O i
   | _=>none:=by grind [P.arL]
  have aQv:sh.length<=3:=aq8 si;have agC:∀ x∈sh,x=115\/x=112\/x=99\/x=110\/x=42:=by
   rcases Pf si with⟨-,rfl⟩| ⟨-,rfl⟩| ⟨-,rfl⟩| ⟨-,rfl⟩| ⟨-,rfl⟩| ⟨-,rfl⟩| ⟨-,rfl⟩<;>decide
  obtain⟨YK,shc,agD⟩:∃ a c,YJ = .slice a sh.length c:=by
   rcases QJ with⟨h1,T⟩| ⟨b,zz,-,h1,-⟩<;>grind
  subst agD;have h1i:(1:Int)<=((ws.length+1:Nat):Int):=zo;refine cG h1i ?_;obtain⟨off,aRF,aRG⟩:∃ off,sliced (O ⟨wb,0,V⟩) 1 (ws.length+1) (ws.length+1) 1 = .slice (O ⟨wb,off,V⟩) ws.length ws.length/\(0<ws.length->off=1):=by
   by_cases h:ws.length=0
   .exact⟨0,by grind [sliced],zo⟩
   .exact⟨1,by grind [abS],zg⟩
  rw[aRF];obtain⟨base,ld⟩:=b9 N7.heap.size;have Tg:=KH.size;have lx2:=bf x2;have sX:xb<base:=zo;have x5:=KH.ext _ _ x2;have r5:=KH.ext _ _ r2;have oc:=G9.ext _ _ hw;have hc5:=G9.ext _ _ hc;have hlw:wb≠xb:=zo;have hlc:cb≠xb:=zo;have qM:∀ {b:Nat} {o:Obj} {w':Z},Lt base xb N7 w'->N7.heap[b]?=O o->b≠xb->w'.heap[b]?=O o:=(by grind [bf,bz.block]);have KG:∀ {w':Z},Lt base xb N7 w'->Ext w w':=fun{w'} hF=>⟨hF.os.trans G9.os,hF.tape.trans G9.tape,hF.output.trans G9.output,yH,(by grind [bf,bz.ext])⟩;have B7:∀ {a b c:Z},Lt base xb a b->Ext b c->Lt base xb a c:=yF;have aZh:∀ q,(hq:q<ws.length)->(ws[q]).length<=1000000:=zg;have xD:mM slots sh ws ⟨wd,[],V,[]⟩=V->vl slots (wd::ws)=none:=zg;refine⟨fun _ w'=>∃ i cv a c,Lt base xb N7 w'/\Ls base xb cv (.slice a i.s.length c) w' i/\i.word=wd/\i.s.length<=200000 /\
   ((42∈sh/\mM slots sh ws ⟨wd,[],V,[]⟩=O (i,[]))\/(¬ 42∈sh/\sh.length<=ws.length/\mM slots sh ws ⟨wd,[],V,[]⟩=O (i,ws.drop sh.length))),?_,?_⟩
  .refine bD ?_;refine⟨fun m z w'=>∃ q i cv a c,z 35=zi ((q:Nat):Int)/\q<=sh.length/\q<=ws.length/\m=sh.length-q/\Lt base xb N7 w'/\Ls base xb cv (.slice a i.s.length c) w' i/\i.word=wd/\(∀ y∈sh.take q,y≠42)/\mM slots sh ws ⟨wd,[],V,[]⟩=mM slots (sh.drop q) (ws.drop q) i/\i.s.length<=q,
    ⟨_,0,⟨wd,[],V,[]⟩,ai,V,0,J,a0r _,a0r _,J,bz.refl _ _,⟨x5,J,a0z _ _ _ _⟩,J,zs,J,a0d _⟩,?_⟩
   intro m z d w6 hI;refine toPr ?_;obtain⟨q,i,cv,a,c,Q,hq,hqw,rfl,N,C,S,vL,n,QP⟩:=hI;have jX:=KG N;have oQ:=qM N oc hlw;have I8:=qM N hc5 hlc;have He:=hT.ext jX;have uY:=hP.ext jX;have yi:((q:Nat):Int).toNat=q:=zo;by_cases UC:q<sh.length
   .have qZ:((q:Nat):Int)<(sh.length:Int):=zo;obtain⟨shb,shz,mz,Hd⟩:∃ b z,YK=O ⟨b,0,V⟩/\w6.heap[b]?=O (ae (uq sh).toArray 5 z):=by
     rcases QJ with⟨h1,-⟩| ⟨b,zz,-,h1,-,T⟩<;>grind
    subst mz;obtain⟨x,Yt⟩:=b9 (sh[q]);have jA:(uq sh).toArray[q]?=O (.int .u8 (x.toNat:Int)):=zg;have N2:sh.drop q=x::sh.drop (q+1):=by grind [a0h]
    have uX:x∈sh:=zg;obtain⟨B,hB⟩:=b9 ((uq sh).toArray);rw[<- hB] at Hd jA;rw[N2,P.aRC] at n;have rX:=agC x uX;by_cases QL:x=42
    .have U:(x.toNat:Int)=42:=by rw[QL];rfl
     rw[zip QL] at n;refine dC Q qZ Hd (zA jA (zA @yi U)) ?_;obtain⟨aZi,aRI,aRJ⟩:∃ o,sliced (O ⟨wb,off,V⟩) q ws.length ws.length 1 = .slice (O ⟨wb,o,V⟩) (ws.length-q) (ws.length-q)/\(q<ws.length->o=q+1):=by
      by_cases h:ws.length=q
      .exact⟨off,by unfold sliced;grind,zo⟩
      .exact⟨q+1,by grind [abS],zg⟩
     rw[yi,aRI];refine bD ?_;refine⟨fun m z w'=>∃ p i' cv a c,z 46=zi ((p:Nat):Int)/\p<=ws.length-q/\m=ws.length-q-p/\Lt base xb N7 w'/\Ls base xb cv (.slice a i'.s.length c) w' i'/\i'.word=wd/\i'.s.length<=q+p /\
      mM slots sh ws ⟨wd,[],V,[]⟩=match xN slots (ws.drop (q+p)) with
       | some l=>O ({ i' with s:=i'.s++l },[])
       | none=>V,⟨_,0,i,cv,a,c,J,a0r _,J,N,C,S,QP,n⟩,?_⟩
     clear n C S QP N jX oQ I8 He uY Hd;intro m z2 d2 w8 hI;refine toPr ?_;obtain⟨p,i,cv,a,c,Du,hp,rfl,Ja,hX8,S,QP,n⟩:=hI;have sI:=KG Ja;have Lq:=qM Ja oc hlw;have hc8:=qM Ja hc5 hlc;have hx8:=hX8.cell;have lx8:=bf hx8;have epn:((p:Nat):Int).toNat=p:=zo;by_cases jY:p<ws.length-q
     .have y9:((p:Nat):Int)<((ws.length-q:Nat):Int):=zo;have hqp:q+p<ws.length:=zo;have ox:cs[q+1+p]?=O (aM (ws[q+p])):=zg;have arS:Ext w8 w8.drew:=yF;rw[a0h hqp] at n;rw[aRJ zo];refine dC Du y9 Lq (zA ox @epn) ?_;refine⟨fun w'=>Ext w8 w',arS,?_⟩;refine cQ (pq xb 3) (fun w' j=>by have f:=j.ext _ _ hx8;have:=bf f;exact fg f) ?_;refine cQ (.slice a i.s.length c) (fun w' j=>by have f:=j.ext _ _ hx8;have:=bf f;exact fg f) ?_;refine cQ (pp cb) (fun w' j=>by have f:=j.ext _ _ hc8;have:=bf f;exact fg f) ?_;refine cQ (zi (slots:Int)) (fun w' j=>by have f:=j.ext _ _ hc8;have:=bf f;exact fg f) ?_;refine a0c (N5 ws[q+p] slots k w8.drew zg iA (by grind [AI.ext]) (by grind [kJ.ext])) ?_;rintro e W ⟨D,hu⟩;cases F:kh ws[q+p] slots with
      | none=>
       rw[F] at hu;have hn:xN slots (ws[q+p]::ws.drop (q+p+1))=none:=by unfold xN;rw[F]
       rw[hn] at n;obtain⟨b,rfl,h⟩:=yj w8.drew yF zg e W D hu;exact fun _=>h
      | some s=>
       rw[F] at hu;subst hu;have ag7:=arS.trans D;have kq:=B7 Ja ag7;refine⟨ag7,?_⟩;refine bD ?_;refine⟨yF,?_⟩;refine ag3 (hX8.ext ag7) (by rw[ld];exact kq.size) sX zo s fun a' n' c' jD UP AL vd=>?_;refine dy UP Du ?_;have Dr:xN slots (ws[q+p]::ws.drop (q+p+1))=match xN slots (ws.drop (q+p+1)) with
        | some l=>O (s::l)
        | none=>none:=by
        conv=>lhs;unfold xN
        rw[F];cases xN slots (ws.drop (q+p+1))<;>rfl
       obtain⟨a2,c2,jZ⟩:=gX AL.row;cases jZ;refine⟨_,?_,p+1,_,cv,a',c',J,zo,J,kq.trans vd,AL,S,zg,?_⟩
       .omega
       .rw[n,Dr,show q+(p+1)=q+p+1 from rfl];grind [xN]
     .have y9:¬ ((p:Nat):Int)<((ws.length-q:Nat):Int):=zo;refine dy Du y9 ?_;rw[a1E zo] at n;have n:mM slots sh ws ⟨wd,[],V,[]⟩=O (i,[]):=by rw[n];simp [xN]
      grind
    .have U:¬ (x.toNat:Int)=42:=fun e=>QL (a02.1 zg);rw[bX QL] at n;refine dC Q qZ Hd (zA jA (zA @yi U)) ?_;refine⟨fun _ w'=>w'=w6/\q<ws.length,?_,?_⟩
     .by_cases arT:q<ws.length
      .have dZ:¬ ((q:Nat):Int)=(ws.length:Int):=zo;refine dy Q dZ ?_;omega
      .have D9:((q:Nat):Int)=(ws.length:Int):=zo;rw[a1E zo] at n;refine dy Q D9 ?_;exact CL w6 jX zg _
     .rintro s2 I ⟨rfl,arT⟩ d2;have YZ:((q:Nat):Int)<(ws.length:Int):=zo;have ox:cs[1+q]?=O (aM (ws[q])):=zg;have Lu:Ext I I.drew:=yF;have E:=C.cell;have lx6:=bf E;have jb:=C.con.cases;have Y0:∀ y∈sh.take (q+1),y≠42:=zg;rw[a0h arT] at n;simp only at n;rw[aRG zo];by_cases QK:x=115
      .have U:(x.toNat:Int)=115:=by rw[QK];rfl
       rw[zip QK] at n;refine cG U ?_;refine⟨fun w'=>Ext I w',Lu,?_⟩;refine cQ (pq xb 3) (fun w' j=>by have f:=j.ext _ _ E;have:=bf f;exact fg f) ?_;refine cQ (.slice a i.s.length c) (fun w' j=>by have f:=j.ext _ _ E;have:=bf f;exact fg f) ?_;refine cQ (pq wb (1+q)) (fun w' j=>by have f:=j.ext _ _ oQ;have:=bf f;exact zP f Q YZ @yi) ?_;refine cQ (aM (ws[q])) (fun w' j=>by have f:=j.ext _ _ oQ;have:=bf f;exact lT f ox) ?_;refine cQ (pp cb) (fun w' j=>by have f:=j.ext _ _ I8;have:=bf f;exact fg f) ?_;refine cQ (zi (slots:Int)) (fun w' j=>by have f:=j.ext _ _ I8;have:=bf f;exact fg f) ?_;refine a0c (N5 ws[q] slots k I.drew zg iA (He.ext Lu) (uY.ext Lu)) ?_;rintro e W ⟨D,hu⟩;cases F:kh ws[q] slots with
       | none=>
        rw[F] at hu n;obtain⟨b,rfl,h⟩:=yj I.drew yF zg e W D hu;exact fun _=>h
       | some s=>
        rw[F] at hu n;subst hu;have sJ:=Lu.trans D;have kq:=B7 N sJ;refine⟨sJ,?_⟩;refine bD ?_;refine⟨yF,?_⟩;refine ag3 (C.ext sJ) (by rw[ld];exact kq.size) sX zo s fun a' n' c' jD UP AL vd=>?_;refine dy UP Q ?_;obtain⟨a2,c2,jZ⟩:=gX AL.row;cases jZ;refine⟨_,?_,q+1,_,cv,a',c',J,zo,zo,J,kq.trans vd,AL,S,Y0,n,zg⟩;omega
      .rw[bX QK] at n;have ag8:¬ (x.toNat:Int)=115:=fun e=>QK (a02.1 zg);by_cases vp:x=99
       .have U:(x.toNat:Int)=99:=by rw[vp];rfl
        rw[zip vp] at n;refine dC ag8 U oQ (zA ox (zA Q (zA YZ @yi))) ?_;refine a0c (aRA ws[q] k I zg He uY) ?_;rintro e W ⟨D,hu⟩;cases F:DN ws[q] with
        | none=>
         rw[F] at hu n;obtain⟨b,rfl,h⟩:=yj I jX zg e W D hu;exact h
        | some t=>
         rw[F] at hu n;obtain⟨XE,rfl,QI⟩:=hu;obtain⟨t1,u1,rfl⟩:∃ t u,XE = aj t u:=by
          rcases QI.cases with rfl | h
          .cases t<;>(first | exact QI.elim | exact absurd QI (by intro h;cases h))
          omega
         have wX:=D.ext _ _ E;have lx9:=bf wX;refine dy wX Q ?_;refine⟨_,?_,q+1,{ i with const:=O t },aj t1 u1,a,c,J,zo,zo,J,(B7 N D).bO yH,⟨yH,QI,?_⟩,S,Y0,n,Nat.le_succ_of_le QP⟩
         .omega
         .exact arM (jM D.ext C.row) sX
       .rw[bX vp] at n;have UD:¬ (x.toNat:Int)=99:=fun e=>vp (a02.1 zg);by_cases AD:x=110
        .have U:(x.toNat:Int)=110:=by rw[AD];rfl
         rw[zip AD] at n;refine dC ag8 UD U (zA oQ (zA ox (zA Q (zA YZ @yi)))) ?_;refine a0c (ag1 ws[q] k I zg) ?_;rintro e W ⟨D,hu⟩;cases F:pD ws[q] with
         | none=>
          rw[F] at hu n;obtain⟨b,rfl,h⟩:=yj I jX zg e W D hu;exact h
         | some t=>
          rw[F] at hu n;subst hu;have wX:=D.ext _ _ E;have lx9:=bf wX;refine dy wX Q ?_;refine⟨_,?_,q+1,{ i with name:=t },cv,a,c,J,zo,zo,J,(B7 N D).bO yH,⟨yH,C.con,?_⟩,S,Y0,n,Nat.le_succ_of_le QP⟩
          .omega
          .exact arM (jM D.ext C.row) sX
        .rw[bX AD] at n;have agJ:¬ (x.toNat:Int)=110:=fun e=>AD (a02.1 zg);have agI:x=112:=by
          grind
         have U:(x.toNat:Int)=112:=by rw[agI];rfl
         refine dC ag8 UD agJ U ?_;refine⟨fun w'=>Ext I w',Lu,?_⟩;refine cQ (pq xb 3) (fun w' j=>by have f:=j.ext _ _ E;have:=bf f;exact fg f) ?_;refine cQ (.slice a i.s.length c) (fun w' j=>by have f:=j.ext _ _ E;have:=bf f;exact fg f) ?_;refine cQ (pq wb (1+q)) (fun w' j=>by have f:=j.ext _ _ oQ;have:=bf f;exact zP f Q YZ @yi) ?_;refine cQ (aM (ws[q])) (fun w' j=>by have f:=j.ext _ _ oQ;have:=bf f;exact lT f ox) ?_;refine a0c (N5 ws[q] 10000 k I.drew zg zo (He.ext Lu) (uY.ext Lu)) ?_;rintro e W ⟨D,hu⟩;cases F:kh ws[q] 10000 with
         | none=>
          rw[F] at hu n;obtain⟨b,rfl,h⟩:=yj I.drew yF zg e W D hu;exact fun _=>h
         | some s=>
          rw[F] at hu n;subst hu;have sJ:=Lu.trans D;have kq:=B7 N sJ;refine⟨sJ,?_⟩;refine bD ?_;refine⟨yF,?_⟩;refine ag3 (C.ext sJ) (by rw[ld];exact kq.size) sX zo s fun a' n' c' jD UP AL vd=>?_;refine dy UP Q ?_;obtain⟨a2,c2,jZ⟩:=gX AL.row;cases jZ;refine⟨_,?_,q+1,_,cv,a',c',J,zo,zo,J,kq.trans vd,AL,S,Y0,n,zg⟩;omega
   .have qZ:¬ ((q:Nat):Int)<(sh.length:Int):=zo;have D9:q=sh.length:=zo;refine dy Q qZ ?_;subst D9;rw[List.drop_length,List.take_length] at *;exact⟨i,cv,a,c,N,C,S,zo,.inr ⟨zg,hqw,n⟩⟩
  .rintro s6 w6 ⟨i,cv,a,c,N,C,S,QP,AG⟩ d6;have jX:=KG N;have zu:Ext w6 w6.drew:=yF;have hX7:=C.ext zu;have L:=hX7.cell;have lx7:=bf L;rw[S] at L;have aRN:I0 w6 sm (.slice YK sh.length shc) sh:=by
    rcases QJ with h | ⟨b,zz,h1,T,h3,h4⟩
    .exact .inl h
    .refine .inr ⟨b,zz,h1,T,h3,qM N h4 ?_⟩;grind
   refine a0c (aRB aRN 42 zo) ?_;rintro e I ⟨rfl,rfl⟩;have kR:∀ rest,mM slots sh ws ⟨wd,[],V,[]⟩=O (i,rest)->(rest=[]->vl slots (wd::ws)=if ((wd=[109,97,107,101]\/wd=[115,112,108,105,116])/\i.s.length<2)\/(wd=nk/\jK i.name≠i.s.length) then V else O i)/\(rest≠[]->vl slots (wd::ws)=V):=zg;have S1:(42∈sh\/ws.length=sh.length)->vl slots (wd::ws)=if ((wd=[109,97,107,101]\/wd=[115,112,108,105,116])/\i.s.length<2)\/(wd=nk/\jK i.name≠i.s.length) then V else O i:=zg
   refine⟨fun _ w'=>w'=I.drew/\vl slots (wd::ws)=O i,?_,?_⟩
   .refine⟨fun z w'=>w'=I.drew/\∃ b,z 159 = .bool b/\(b=A->vl slots (wd::ws)=V)/\(b=G->vl slots (wd::ws)=O i),?_,?_⟩
    .refine⟨fun w'=>Ext I w',zu,?_⟩;by_cases aRO:sh.contains 42=G/\¬ ws.length=sh.length
     .obtain⟨M,dZ⟩:=aRO;have aRP:¬ (ws.length:Int)=(sh.length:Int):=zo;refine cG M ?_;refine cQ (zi (ws.length:Int)) (fun w' j=>eQ) ?_;refine cG aRP ?_;refine⟨A,J,fun _=>?_,zg⟩;rcases AG with⟨h1,-⟩| ⟨h1,T,h3⟩
      .grind
      .refine(kR _ h3).2 (fun e=>?_);have:=congrArg List.length e;grind
     .have E:=C.cell;rw[S] at E;by_cases M:sh.contains 42=A
      .have Jf:=S1 (.inl (by simpa using M));by_cases hm:wd=[109,97,107,101]\/wd=[115,112,108,105,116]
       .have hnt:¬ wd=[116,101,115,116]:=zg;have aRQ:¬ bs wd=bs [116,101,115,116]:=zg;by_cases T:i.s.length<2
        .have X:(i.s.length:Int)<2:=zo;rw[zip (.inl ⟨hm,T⟩)] at Jf;rcases hm with rfl | rfl
         .refine iJ M L X ?_;grind
         .refine iJ M L X ?_;grind
        .have X:¬ (i.s.length:Int)<2:=zo;rw[bX (by rintro (⟨-,h⟩| ⟨h,-⟩);exact T h;exact hnt h)] at Jf;rcases hm with rfl | rfl
         .refine iJ M L X ?_;grind
         .refine iJ M L X ?_;grind
       .obtain⟨IN,nH⟩:=not_or.1 hm;by_cases ht:wd=[116,101,115,116]
        .subst ht;refine dC M L IN nH ?_;refine cQ (pq xb 1) (fun w' j=>by have f:=j.ext _ _ E;have:=bf f;exact fg f) ?_;refine cQ (aM i.name) (fun w' j=>by have f:=j.ext _ _ E;have:=bf f;exact fg f) ?_;refine cQ (pq xb 3) (fun w' j=>by have f:=j.ext _ _ E;have:=bf f;exact fg f) ?_;refine cQ (.slice a i.s.length c) (fun w' j=>by have f:=j.ext _ _ E;have:=bf f;exact fg f) ?_;refine cQ (zi (i.s.length:Int)) (fun w' j=>eQ) ?_;refine a0c (Mx i.name) ?_;rintro e W ⟨rfl,rfl⟩;refine⟨zu,?_⟩;by_cases kP:jK i.name=(i.s.length:Int)
         .refine cG kP ?_;grind
         .refine cG kP ?_;refine⟨A,J,fun _=>?_,zg⟩;rw[Jf,zip (.inr ⟨J,kP⟩)]
        .rw[bX (by rintro (⟨h,-⟩| ⟨h,-⟩);exact hm h;exact ht h)] at Jf;refine dC M L IN (zA nH ht) ?_;grind
      .have M:sh.contains 42=false:=zg;have hle:ws.length=sh.length:=zg;have QQ:(ws.length:Int)=(sh.length:Int):=zo;have Jf:=S1 (.inr hle);by_cases hm:wd=[109,97,107,101]\/wd=[115,112,108,105,116]
       .have hnt:¬ wd=[116,101,115,116]:=zg;have aRQ:¬ bs wd=bs [116,101,115,116]:=zg;by_cases T:i.s.length<2
        .have X:(i.s.length:Int)<2:=zo;rw[zip (.inl ⟨hm,T⟩)] at Jf;rcases hm with rfl | rfl
         .refine cG M ?_;refine cQ (zi (ws.length:Int)) (fun w' j=>eQ) ?_;refine iJ QQ L X ?_;grind
         .refine cG M ?_;refine cQ (zi (ws.length:Int)) (fun w' j=>eQ) ?_;refine iJ QQ L X ?_;grind
        .have X:¬ (i.s.length:Int)<2:=zo;rw[bX (by rintro (⟨-,h⟩| ⟨h,-⟩);exact T h;exact hnt h)] at Jf;rcases hm with rfl | rfl
         .refine cG M ?_;refine cQ (zi (ws.length:Int)) (fun w' j=>eQ) ?_;refine iJ QQ L X ?_;grind
         .refine cG M ?_;refine cQ (zi (ws.length:Int)) (fun w' j=>eQ) ?_;refine iJ QQ L X ?_;grind
       .obtain⟨IN,nH⟩:=not_or.1 hm;by_cases ht:wd=[116,101,115,116]
        .subst ht;refine cG M ?_;refine cQ (zi (ws.length:Int)) (fun w' j=>eQ) ?_;refine dC QQ L IN nH ?_;refine cQ (pq xb 1) (fun w' j=>by have f:=j.ext _ _ E;have:=bf f;exact fg f) ?_;refine cQ (aM i.name) (fun w' j=>by have f:=j.ext _ _ E;have:=bf f;exact fg f) ?_;refine cQ (pq xb 3) (fun w' j=>by have f:=j.ext _ _ E;have:=bf f;exact fg f) ?_;refine cQ (.slice a i.s.length c) (fun w' j=>by have f:=j.ext _ _ E;have:=bf f;exact fg f) ?_;refine cQ (zi (i.s.length:Int)) (fun w' j=>eQ) ?_;refine a0c (Mx i.name) ?_;rintro e W ⟨rfl,rfl⟩;refine⟨zu,?_⟩;by_cases kP:jK i.name=(i.s.length:Int)
         .refine cG kP ?_;grind
         .refine cG kP ?_;refine⟨A,J,fun _=>?_,zg⟩;rw[Jf,zip (.inr ⟨J,kP⟩)]
        .rw[bX (by rintro (⟨h,-⟩| ⟨h,-⟩);exact hm h;exact ht h)] at Jf;refine cG M ?_;refine cQ (zi (ws.length:Int)) (fun w' j=>eQ) ?_;refine dC QQ L IN (zA nH ht) ?_;grind
    .rintro z w8 ⟨rfl,b,hz,iT,ff⟩ dd;rw[hz];cases b with
     | true=>
      refine bD ?_;exact CL _ yF (iT J) _
     | false=>
      refine bD ?_;grind
   .rintro z w8 ⟨rfl,hi⟩ dd;have hr8:=(qM N r5 zo);have N3:=zu.ext _ _ hr8;have lr9:=bf N3;have jb:=C.con.cases;rcases jb with rfl | ⟨t1,u1,rfl⟩
    .refine dy L N3 ?_;refine hR _ _ ⟨yF,?_⟩;rw[hi];refine⟨ai,.slice a i.s.length c,zg,C.con,?_⟩;have dR:=jM zu.ext C.row;refine⟨dR.1,?_⟩;rcases dR.2 with r | ⟨g,cap,cur,g1,g2,g3,g4⟩
     .exact yH
     .exact .inr ⟨g,cap,cur,g1,zo,yH,g4⟩
    .refine dy L N3 ?_;refine hR _ _ ⟨yF,?_⟩;rw[hi];refine⟨aj t1 u1,.slice a i.s.length c,zg,C.con,?_⟩;have dR:=jM zu.ext C.row;refine⟨dR.1,?_⟩;rcases dR.2 with r | ⟨g,cap,cur,g1,g2,g3,g4⟩
     .exact yH
     .exact .inr ⟨g,cap,cur,g1,zo,yH,g4⟩
def vI(w:Z):List Y->List P.In->Prop
 | vs,[]=>vs=[]
 | vs,i::r=>∃ cv sv rest,vs=[.string (bs i.word),.string (bs i.name),cv,sv]++rest/\x8 cv i.const/\fD (fun _=>True) w 3 sv (uC i.s)/\vI w rest r
theorem vI.bI{w w':Z}(hk:∀ (b:Nat) (cs:Array Y),w.heap[b]?=aN cs 3->w'.heap[b]?=aN cs 3):∀ {l:List P.In} {vs:List Y},vI w vs l->vI w' vs l
 | [],_,h=>h
 | _::_,_,⟨cv,sv,rest,a,c,d,e⟩=>⟨cv,sv,rest,a,c,d.mono zg yH,vI.bI hk e⟩
def vI.snoc{w:Z}{i:P.In}{l0:List Y}:∀ {l:List P.In} {vs:List Y},vI w vs l->vI w l0 [i]->vI w (vs++l0) (l++[i])
 | [],vs,a,b=>by subst a;grind
 | x::r,vs,⟨cv,sv,rest,a,c,d,e⟩,b=>⟨cv,sv,rest++l0,zg,c,d,vI.snoc e b⟩
theorem vI.at{w:Z}:∀ {l:List P.In} {vs:List Y} {j:Nat} {i:P.In},vI w vs l->l[j]?=O i->∃ cv sv,vs[j*4]?=O (aM i.word)/\vs[j*4+1]?=O (aM i.name)/\vs[j*4+2]?=O cv/\vs[j*4+3]?=O sv/\x8 cv i.const/\fD (fun _=>True) w 3 sv (uC i.s)
 | x::r,vs,0,i,⟨cv,sv,rest,e,b,c,d⟩,a=>by
  have a:x=i:=zg;subst a;exact⟨cv,sv,zg,zg,zg,zg,b,c⟩
 | x::r,vs,j+1,i,⟨cv,sv,rest,e,b,c,d⟩,a=>by
  obtain⟨g,f,g1,g2,g3,g4,g5,g6⟩:=vI.at d (by simpa using a);grind
def CU(w:Z)(a cb:Nat)(c:Co):Prop:=cb<a/\∃ insv vs,w.heap[cb]?=aN #[zi (c.slots:Int),insv] 196/\w.ownsRow 0 198 4 insv c.ins.length vs/\(∀ b,insv.ownBlock=O b->b<a)/\vI w vs c.ins
structure qn(w:Z)(lo ab:Nat)(insv:Y)(vs:List Y)(c:Co):Prop where
 cell:w.heap[ab]?=aN #[zi ((c.slots:Nat):Int),insv] 196
 low:lo<=ab
 row:w.ownsRow lo 198 4 insv c.ins.length vs
 ins:vI w vs c.ins
def aRS{size:Nat}(h:w.ownsRow pb e size v n xs)(c:k'<=pb):w.ownsRow k' e size v n xs:=by
 refine⟨h.1,?_⟩;rcases h.2 with r | ⟨g,cap,cur,a,d,b⟩
 .exact yH
 .exact .inr ⟨g,cap,cur,a,zo,b⟩
def qn.done{insv:Y}{c:Co}(h:qn w pb cap insv vs c):CU w w.heap.size cap c:=
 ⟨bf h.cell,insv,vs,h.cell,aRS h.row zo,fun _ a=>(Ef h.row a).2.1,h.ins⟩
theorem CU.mono{c:Co}(h:CU w pb cb c)(e:pb<=cap):CU w cap cb c:=by
 obtain⟨f,insv,vs,a,b,g,d⟩:=h;exact⟨zo,insv,vs,a,b,zg,d⟩
theorem CU.bI{w w':Z}{a cb:Nat}{c:Co}(h:CU w a cb c)(hk:∀ (b T:Nat) (cs:Array Y),b<a\/T=3->(T=3\/T=196\/T=198)->w.heap[b]?=aN cs T->w'.heap[b]?=aN cs T):CU w' a cb c:=by
 obtain⟨d,insv,vs,i,e,f,g⟩:=h;exact⟨d,insv,vs,yH,FJ e yH,f,g.bI yH⟩
def CU.coM{c:Co}(h:CU w pb cb c):Fu w cb c:=by
 obtain⟨l,insv,vs,b,d,m,e⟩:=h;refine⟨insv,b,?_⟩;rcases d.2 with⟨a,n⟩| ⟨g,cap,cur,a,-,f,p,q,r,s⟩
 .exact yH
 .refine .inr ⟨g,cap,cur,a,?_,f,?_,fun j i k=>?_⟩
  .omega
  .omega
  .obtain⟨cv,sv,g1,g2,g3,g4,g5,g6⟩:=e.at k;have t:∀ o,o<c.ins.length*4->cur[o]?=vs[o]?:=zg;exact⟨zg,zg,zg,zg⟩
abbrev Jg(l:List Nat):List Y:=l.map fun b=>pp b
def yk(w:Z)(a:Nat)(cbs:List Nat)(cs:List Co):Prop:=cbs.length=cs.length/\∀ (j:Nat) (c:Co),cs[j]?=O c->∃ cb,cbs[j]?=O cb/\CU w a cb c
def yk.snoc{cbs:List Nat}{cs:List Co}{c:Co}(h:yk w pb cbs cs)(f:CU w pb cb c):yk w pb (cbs++[cb]) (cs++[c]):=by
 refine⟨by simp [h.1],fun j x a=>?_⟩;by_cases g:j<cs.length
 .rw[List.getElem?_append_left g] at a;obtain⟨b,i,k⟩:=h.2 j x a;grind
 .have d:=(List.getElem?_eq_some_iff.1 a).1;rw[List.length_append,a0S] at d;have e:j=cs.length:=zo;subst e;rw[a3K] at a;cases a;exact⟨cb,by rw[<- h.1,a3K],f⟩
theorem yk.mono{w:Z}{a b:Nat}{cbs:List Nat}{cs:List Co}(h:yk w a cbs cs)(e:a<=b):yk w b cbs cs:=⟨h.1,fun j c d=>let ⟨cb,f,g⟩:=h.2 j c d;(by grind [CU.mono])⟩
abbrev Kept(w w':Z)(a:Nat):Prop:=∀ (b T:Nat) (cs:Array Y),b<a\/T=3->(T=3\/T=196\/T=198)->w.heap[b]?=O (ae cs T (0,0))->w'.heap[b]?=O (ae cs T (0,0))
theorem yk.bI{w w':Z}{a:Nat}{cbs:List Nat}{cs:List Co}(h:yk w a cbs cs)(hk:Kept w w' a):yk w' a cbs cs:=⟨h.1,fun j c b=>let ⟨cb,d,e⟩:=h.2 j c b;(by grind [CU.bI])⟩
theorem yk.aRU{cbs:List Nat}{cs:List Co}(h:yk w pb cbs cs):Br w (Jg cbs) cs:=
 ⟨by simp [h.1],fun j c a=>let ⟨cb,d,b⟩:=h.2 j c a;⟨cb,zg,b.coM⟩⟩
def yl(w:Z)(a cl:Nat)(v:Y)(q:Pd):Prop:=∃ b cap row cbs,v = cM b q.clauses.length cap/\q.clauses.length<=cap/\b<a/\w.heap[b]?=aN row 185/\row.toList.take q.clauses.length=Jg cbs/\yk w cl cbs q.clauses
theorem yl.mono{w:Z}{a c cl d:Nat}{v:Y}{q:Pd}(h:yl w a cl v q)(f:a<=c)(e:cl<=d):yl w c d v q:=by
 obtain⟨b,cap,row,cbs,g1,g2,g3,g4,g5,g6⟩:=h;exact⟨b,cap,row,cbs,g1,g2,zo,g4,g5,g6.mono e⟩
theorem yl.bI{w w':Z}{a cl:Nat}{v:Y}{q:Pd}(h:yl w a cl v q)(hk:Kept w w' cl)(hr:∀ (b:Nat) (cs:Array Y),b<a->w.heap[b]?=aN cs 185->w'.heap[b]?=aN cs 185):yl w' a cl v q:=by
 obtain⟨b,cap,row,cbs,g1,g2,g3,g4,g5,g6⟩:=h;exact⟨b,cap,row,cbs,g1,g2,g3,yH,g5,g6.bI hk⟩
def pO(w:Z)(a cl:Nat):List (Bs×Y)->List Pd->Prop
 | [],[]=>True
 | (k,v)::l,q::D=>(k=P.keyOf q.name q.arity/\q.arity<80/\yl w a cl v q)/\pO w a cl l D
 | _,_=>False
theorem pO.map{w w':Z}{a cl b c:Nat}(d:∀ v q,yl w a cl v q->yl w' b c v q):∀ {l:List (Bs×Y)} {D:List Pd},pO w a cl l D->pO w' b c l D
 | [],[],_=>trivial
 | (_,_)::_,_::_,⟨⟨e,f,g⟩,h⟩=>⟨zg,pO.map d h⟩
def pO.snoc{w:Z}{a cl:Nat}{v:Y}{q:Pd}(b:q.arity<80)(hv:yl w a cl v q):∀ {l:List (Bs×Y)} {D:List Pd},pO w a cl l D->pO w a cl (l++[(P.keyOf q.name q.arity,v)]) (D++[q])
 | [],[],_=>⟨zg,trivial⟩
 | (_,_)::_,_::_,⟨c,h⟩=>⟨c,pO.snoc b hv h⟩
theorem pO.find{w:Z}{a cl:Nat}{name:Bs}{n:Nat}(b:n<80):∀ {l:List (Bs×Y)} {D:List Pd} {j:Nat},pO w a cl l D->match fH (P.keyOf name n) l j with
  | none=>D.find? (fun p=>p.name == name && p.arity == n)=V
  | some (_,v)=>∃ p,D.find? (fun p=>p.name == name && p.arity == n)=O p/\yl w a cl v p
 | [],[],j,_=>rfl
 | (k,v)::l,q::D,j,⟨⟨c,d,e⟩,h⟩=>by
  have ih:=pO.find (name:=name) b (j:=j+1) h;rw[fH,List.find?_cons];by_cases hk:k=P.keyOf name n
  .rw[zip hk];obtain⟨f,g⟩:=(P.aeg d b).1 (c.symm.trans hk);grind
  grind
def pO.aRV{l:List (Bs×Y)}{D:List Pd}(h:pO w k' so l D)(hm:w.heap[pb]?=O (eJ l)):TK w pb D:=by
 refine⟨l,hm,fun name n a=>?_⟩;have:=h.find (name:=name) a (j:=0);cases c:fH (P.keyOf name n) l 0 with
 | none=>
  exact yH
 | some d=>
  obtain⟨k,v⟩:=d;rw[c] at this;obtain⟨p,e,b,cap,row,cbs,g1,g2,g3,g4,g5,g6⟩:=this;grind [yk.aRU]
open Go.Proofs.YtoegidfbnkaabaaGreatDoor.Sx
section
variable{p0 p1 p2 p3 p4 p5 p6 p7:Y}{w:Z}{R:Ending->Z->Prop}
def aRW:=cy w R [p0] (gd [(12,[6,7,45])] [(6000,[36]),(7002,[4]),(17000,[85]),(18001,[]),(20000,[90]),(24002,[]),(26000,[131]),(29000,[166]),(36001,[])] [] [(21,[10,0,1,2,3,5,6,7,8,4,9,10,11]),(28,[15,0,1,2,3,4,5,6,7,8,9,10,11,12,13,14]),(31,[19,0,1,2,3,4,5,6,7,8,9,10,11,12,13,14,15,16,17,18]),(33,[14,0,1,2,3,4,5,6,7,8,9,10,11,12,13])] [] [] [11,15,19,35,36,46,54,59,82,83,84,85,90,98,99,119,120,131,143,144,166,174,175,200,202,221]) func34
end
def aRX(v4 v5:Y)(w:Z):CallsD baj 66 #[v4,v5] .returning w fun e u' w'=>e = ah (ak #[])/\u' = .returning/\w'=w:=by
 refine callsD_of_wpS func66 J fun Ak cs hu=>?_;apply wpS_seq;apply wpS_region;simp [wpOpsS,go_sem,recoverD,hu,ntmps66,a0R,ace];apply wpS_seq;apply wpS_region;simp [wpOpsS,go_sem,recoverD,hu,ntmps66,a0R];refine wpS_cond (t:=false) (by simp [Act.eval]) ?_;simp only[Bool.false_eq_true,if_false];refine wpS_of_wp (wp_skip ?_);cases Ak;simp_all [bodyPostS,results,Tryz.results66]
def aRY(b4 b5:Nat)(o4 o5:Y)(v:Y)(xH:List PanicEntry)(w:Z)(h4:w.cell? ⟨b4,0,V⟩=O o4)(z4:w.frozen? ⟨b4,0,V⟩=G)
  (h5:(w.setCell ⟨b4,0,V⟩ (aq V)).cell? ⟨b5,0,V⟩=O o5) (z5:(w.setCell ⟨b4,0,V⟩ (aq V)).frozen? ⟨b5,0,V⟩=G) :
  CallsD baj 66 #[pp b4,pp b5] (.panicking ({ v:=aj 73 v,recovered:=false }::xH)) w fun e u' w'=>
   e = ah (ak #[])/\u' = .panicking ({ v:=aj 73 v,recovered:=true }::xH)/\w'=(w.setCell ⟨b4,0,V⟩ (aq V)).setCell ⟨b5,0,V⟩ (aj 73 v):=by
 refine callsD_of_wpS func66 J fun Ak cs hu=>?_;apply wpS_seq;apply wpS_region;simp [wpOpsS,go_sem,recoverD,hu,ntmps66,a0R,acf];apply wpS_seq;apply wpS_region;simp [wpOpsS,go_sem,recoverD,hu,ntmps66,a0R];refine wpS_cond (t:=true) (by simp [Act.eval]) ?_;simp only[if_true];apply wpS_region;simp [wpOpsS,go_sem,recoverD,hu,ntmps66,a0R,h4,z4,h5,z5];simp [bodyPostS,results,Tryz.results66]
def arV(h:res w) :
  LV baj res R [{ target:=.fn (.func 66) #[tv,vv],args:=#[]++#[] }] .returning w:=by
 refine BG zk zs ((aRX tv vv w).mono ?_);rintro e a w' ⟨rfl,rfl,rfl⟩;exact h
def aRZ(a:w.heap[pb]?=aN #[o4] 108)
  (d:w.heap[cap]?=aN #[o5] 57) (f:pb≠cap)
  (h:res (bO (bO w pb (ae #[aq V] 108)) cap (ae #[aj 73 v] 57))) :
  LV baj res R [{ target:=.fn (.func 66) #[pp pb,pp cap],args:=#[]++#[] }]
   (.panicking [{ v:=aj 73 v,recovered:=false }]) w:=by
 have b:w.setCell ⟨pb,0,V⟩ (aq V)=bO w pb (ae #[aq V] 108):=uO a _;have c:(bO w pb (ae #[aq V] 108)).heap[cap]?=aN #[o5] 57:=by
  exact yH
 refine BG zk zs ((aRY pb cap o4 o5 v [] w (by grind [World.cell?]) (jL a 0) (by grind [World.cell?]) (by grind [jL])).mono ?_);rintro e g w' ⟨rfl,rfl,rfl⟩;rw[b,uO c];exact h
section
variable{p0 p1 p2 p3 p4 p5 p6 p7:Y}{w:Z}{R:Ending->Z->Prop}
def aR0:=cz w R [p0,p1] (gc [] [] []) func67
end
def BB(e:Bs):List Bs->List Bs
 | []=>[]
 | [l]=>[l]
 | l::m::ls=>(l++e)::BB e (m::ls)
theorem arW:∀ (l:List Bs),BB [] l=l
 | []=>rfl
 | [_]=>rfl
 | l::m::ls=>by rw[BB,arW (m::ls),List.append_nil]
theorem aha(c:UInt8):∀ (s:Bs),gP c s≠[]
 | []=>by simp [gP]
 | x::r=>by
  unfold gP;split
  .simp
  .split<;>simp
def US(c:UInt8):∀ (s:Bs),(a2S s [c]=-1/\gP c s=[s]/\s.count c=0)\/∃ i:Nat,a2S s [c]=(i:Int)/\i<s.length/\gP c s=s.take i::gP c (s.drop (i+1))/\s.take (i+1)=s.take i++[c]/\(s.drop (i+1)).count c+1=s.count c
 | []=>.inl ⟨J,J,J⟩
 | x::r=>by
  by_cases hx:c=x
  .refine .inr ⟨0,?_,zs,?_,zg,zg⟩
   .unfold a2S;grind
   .conv=>lhs;unfold gP
    grind
  .have g:¬ x=c:=zg;have h:a2S (x::r) [c]=if a2S r [c] == -1 then -1 else a2S r [c]+1:=by
    conv=>lhs;unfold a2S
    grind
   have b:gP c (x::r)=match gP c r with
    | []=>[[x]]
    | l::ls=>(x::l)::ls:=by
    conv=>lhs;unfold gP
    grind
   rcases US c r with⟨d,e,a⟩| ⟨i,d,e,a,f,j⟩
   .grind
   .refine .inr ⟨i+1,?_,by simp;omega,by rw[b,a];rfl,by simp [f],?_⟩<;>grind
def ahb(c:UInt8)(save:Nat)(d:save<=1):∀ (k:Nat) (s:Bs),s.count c<=k->Go.Lib.splitK [c] save k s=BB ([c].take save) (gP c s)
 | 0,s,h=>by
  rcases US c s with⟨-,a,-⟩| ⟨i,-,-,-,-,e⟩
  .rw[a];rfl
  omega
 | k+1,s,h=>by
  unfold Go.Lib.splitK;rcases US c s with⟨b,a,-⟩| ⟨i,b,a,f,g,e⟩
  .rw[b,a];rfl
  .have:((i:Int) == -1)=false:=by
    grind
   rw[b,this,f];simp only[Bool.false_eq_true,if_false,Int.toNat_natCast,a0S];rw[ahb c save d k _ zo];have j:=aha c (s.drop (i+1));cases l:gP c (s.drop (i+1)) with
   | nil=>grind
   | cons m ls=>
    rw[BB]
    congr 1
    match save,d with
    | 0,_=>simp
    | 1,_=>grind
theorem UT(c:UInt8)(s:Bs):(gP c s).length=s.count c+1:=by
 have key:∀ (k:Nat) (s:Bs),s.count c<=k->(gP c s).length=s.count c+1:=by
  intro k;induction k with
  | zero=>
   intro s h;rcases US c s with⟨-,b,a⟩| ⟨i,-,-,-,-,d⟩<;>grind
  | succ k ih=>
   intro s h;rcases US c s with⟨-,b,a⟩| ⟨i,-,-,a,-,d⟩<;>grind
 exact key _ s (a0d _)
theorem arX(e:Bs):∀ (l:List Bs),(BB e l).length=l.length
 | []=>rfl
 | [_]=>rfl
 | l::m::ls=>by rw[BB,List.length_cons,arX e (m::ls)];rfl
def arY{L:List ByteArray}(h:L.map (·.data.toList)=vars):L.map a0u=vars.map fun s=>aM s:=by
 subst h;rw[List.map_map];apply List.map_congr_left;grind
def Ei(w:Z):Prop:=∃ m,w.cell? ⟨5,0,V⟩=O (zi m)
theorem Ei.ext{w w':Z}(h:Ei w)(a:Ext w w'):Ei w':=by
 obtain⟨m,b⟩:=h;exact⟨m,(by grind [Mb,bz.ext])⟩
abbrev ahc(l:List Bs):Obj:=ae (l.map fun s=>a0u (bs s)).toArray 9 (0,0)
def aR1(s:Bs)(c:UInt8)(w:Z)(h:s.length<=1000000)(d:Ei w):Calls baj 69 #[aM s,aM [c]] w fun e w'=>e = ah (.slice (O ⟨w.heap.size,0,V⟩) (gP c s).length (gP c s).length)/\w'=w.alloc (ahc (gP c s)):=by
 obtain⟨m,hm⟩:=d;have i:(bs s).size<=1000000:=by show s.toArray.size<=_;omega
 have j:(bs [c]).size=1:=rfl;have f:(bs s).data.toList=s:=zg;have g:(bs [c]).data.toList=[c]:=rfl;have a:Go.Lib.countB (bs s) (bs [c])=s.count c:=by
  grind [Go.Lib.count,Go.Lib.count_one,Lib.count_one]
 have b:=Go.Lib.splitB_data (bs [c]) 0 (s.count c) (bs s);rw[f,g,ahb c 0 zo _ s (a0d _)] at b;have b:(a3y (bs [c]) 0 (s.count c) (bs s)).map (·.data.toList)=gP c s:=by grind [arW]
 refine(Tryz.strings_Split (bs s) (bs [c]) m w zo hm zo).mono ?_;rintro e w' ⟨rfl,rfl⟩;rw[a,UT,arY b];exact yH
def aR2(s:Bs)(c:UInt8)(w:Z)(i:s.length<=1000000)(b:Ei w):Calls baj 67 #[aM s,aM [c]] w fun e w'=>e = ah (.slice (O ⟨w.heap.size,0,V⟩) (gP c s).length (gP c s).length)/\w'=w.alloc (ahc (BB [c] (gP c s))):=by
 obtain⟨m,hm⟩:=b;have j:(bs s).size=s.length:=by show s.toArray.size=_;simp
 have k:(bs [c]).size=1:=rfl;have d:(bs s).data.toList=s:=zg;have f:(bs [c]).data.toList=[c]:=rfl;have g:Go.Lib.countB (bs s) (bs [c])=s.count c:=by
  grind [Go.Lib.count,Go.Lib.count_one,Lib.count_one]
 have hle:s.count c<=s.length:=List.count_le_length;have a:=Go.Lib.splitB_data (bs [c]) 1 (s.count c) (bs s);rw[d,f,ahb c 1 zo _ s (a0d _)] at a;have a:(a3y (bs [c]) 1 (s.count c) (bs s)).map (·.data.toList)=BB [c] (gP c s):=a;have hlen:(a3y (bs [c]) 1 (s.count c) (bs s)).length=s.count c+1:=by
  have:=congrArg List.length a;grind [List.length_map,arX,UT]
 refine aR0 ?_;refine bD ?_;refine(Tryz.strings_genSplit (bs s) (bs [c]) 1 (-1) (s.count c+1) m w zo hm zo zo zo zo zo).mono ?_;rintro e w' ⟨rfl,rfl⟩;rw[Nat.add_sub_cancel];have h:Go.Lib.cellsOf (a3y (bs [c]) 1 (s.count c) (bs s)) (s.count c+1)=((a3y (bs [c]) 1 (s.count c) (bs s)).map a0u).toArray:=by grind [Go.Lib.cellsOf_full,Lib.cellsOf_full]
 rw[h,arY a,hlen,UT];exact⟨J,J⟩
def ar0(s:Bs)(c:UInt8)(w:Z)(a:s.length<=1000000):Calls baj 68 #[aM s,aM [c]] w fun e w'=>e = ah (ak #[aM (a3m s [c]),.bool (a17 s [c])])/\w'=w:=by
 have b:(bs s).size<=1000000:=by show s.toArray.size<=_;omega
 refine(Tryz.strings_CutSuffix (bs s) (bs [c]) w zo).mono ?_;grind
theorem aR3(l:Bs)(c:UInt8):a3m (l++[c]) [c]=l/\a17 (l++[c]) [c]=true:=by
 have h:a17 (l++[c]) [c]=true:=by
  unfold a17;grind
 refine⟨?_,h⟩;unfold a3m;rw[zip h];simp
theorem aR4{l:Bs}{c:UInt8}(h:c ∉ l):a17 l [c]=false:=by
 cases a:a17 l [c] with
 | false=>rfl
 | true=>
  unfold a17 at a;rw[List.isSuffixOf_iff_suffix] at a;obtain⟨t,ht⟩:=a;grind
theorem ar1:∀ {l l':List (Bs×Y)} {i:Nat},oC l i=oC l' i->l=l'
 | [],[],_,_=>rfl
 | [],(_,_)::_,_,h=>by grind [oC]
 | (_,_)::_,[],_,h=>by grind [oC]
 | (s,v)::l,(s',v')::l',i,h=>by
  simp only[oC,List.cons.injEq,MapEntry.mk.injEq,Value.string.injEq] at h;obtain⟨⟨a,b,-⟩,c⟩:=h;rw[ar1 c,b,show s=s' from by simpa [bs] using a]
theorem aR5{l l':List (Bs×Y)}(h:eJ l=eJ l'):l=l':=by
 grind [eJ,ar1]
abbrev vJ(pb:Nat)(ask:Y)(told:Int):Obj:=ae #[.map (O pb),ask,zi told] 187 (0,0)
abbrev ptr(b:Nat):Y:=pp b
inductive lZ(base:Nat)(w:Z)(kb pb:Nat):Bs->Y->Pv->Prop
 | zero (hk:w.heap[kb]?=O (vJ pb (aq V) 0)) (hm:w.heap[pb]?=O (eJ [])):lZ base w kb pb [] (aq V) ⟨[],G,V⟩
 | pred {l:List (Bs×Y)} {D:List Pd} {v:Y} {name:Bs} {ar pl:Nat} {C:List Co} {cbs:List Nat} (hk:w.heap[kb]?=O (vJ pb (aq V) 0)) (hm:w.heap[pb]?=O (eJ (l++[(P.keyOf name ar,v)])))
  (hu:fH (P.keyOf name ar) l 0=V) (kT:ar<80) (hD:pO w pl w.heap.size l D) (hr:w.ownsRow pl 185 1 v C.length (Jg cbs)) (hv:∃ b,v.ownBlock=O b) (hC:yk w w.heap.size cbs C) (jY:base<=pl) :
  lZ base w kb pb (P.keyOf name ar) (aq V) ⟨D++[⟨name,ar,C⟩],G,V⟩
 | cl {l:List (Bs×Y)} {D:List Pd} {v:Y} {name:Bs} {ar pl ol ab:Nat} {C:List Co} {cbs:List Nat} {insv:Y} {vs:List Y} {c:Co} (hk:w.heap[kb]?=O (vJ pb (aq V) 0)) (hm:w.heap[pb]?=O (eJ (l++[(P.keyOf name ar,v)])))
  (hu:fH (P.keyOf name ar) l 0=V) (kT:ar<80) (hD:pO w pl ol l D) (hr:w.ownsRow pl 185 1 v (C.length+1) (Jg (cbs++[ab]))) (hv:∃ b,v.ownBlock=O b) (hC:yk w ol cbs C) (oE:ol<=w.heap.size) (hO:qn w ol ab insv vs c) (jY:base<=pl) (eX:base<=ol) :
  lZ base w kb pb (P.keyOf name ar) (ptr ab) ⟨D++[⟨name,ar,C++[c]⟩],A,V⟩
 | ask {l:List (Bs×Y)} {D:List Pd} {key:Bs} {ol ab told:Nat} {insv:Y} {vs:List Y} {c:Co} (hk:w.heap[kb]?=O (vJ pb (ptr ab) (told:Int))) (hm:w.heap[pb]?=O (eJ l)) (hD:pO w ol ol l D) (oE:ol<=w.heap.size) (hO:qn w ol ab insv vs c) (eX:base<=ol) :
  lZ base w kb pb key (ptr ab) ⟨D,A,O (c,told)⟩
section
variable{base:Nat}{w w':Z}{kb pb:Nat}{key:Bs}{at_:Y}{p:Pv}
def ar2{pl pb:Nat}{q:Pd}{cbs:List Nat}(hr:w.ownsRow pl 185 1 v q.clauses.length (Jg cbs))(hv:∃ b,v.ownBlock=O b)(hC:yk w pb cbs q.clauses):yl w w.heap.size pb v q:=by
 obtain⟨b,hv⟩:=hv;rcases hr.2 with⟨a,-⟩| ⟨g,cap,cur,a,-,c,d,e,f,h⟩
 .rw[a] at hv;cases hv
 .exact⟨g,cap,cur,cbs,a,d,yH,c,zg,hC⟩
def lZ.close(h:lZ base w kb pb key at_ p):∃ l,w.heap[pb]?=O (eJ l)/\pO w w.heap.size w.heap.size l p.dI:=by
 cases h with
 | zero hk hm=>exact⟨_,hm,trivial⟩
 | pred hk hm hu kT hD hr hv hC jY=>
  refine⟨_,hm,pO.snoc (q:=⟨_,_,_⟩) kT (ar2 (q:=⟨_,_,_⟩) hr hv hC) (hD.map fun v q h=>h.mono ?_ zo)⟩;rcases hr.2 with⟨a,-⟩| ⟨g,cap,cur,a,c,d,-⟩
  .obtain⟨b,hv⟩:=hv;rw[a] at hv;cases hv
  exact yH
 | cl hk hm hu kT hD hr hv hC oE hO jY eX=>
  refine⟨_,hm,pO.snoc (q:=⟨_,_,_⟩) kT (ar2 (q:=⟨_,_,_⟩) (by simpa using hr) hv ((hC.mono oE).snoc hO.done)) (hD.map fun v q h=>h.mono ?_ oE)⟩;rcases hr.2 with⟨a,-⟩| ⟨g,cap,cur,a,c,d,-⟩
  .obtain⟨b,hv⟩:=hv;rw[a] at hv;cases hv
  exact yH
 | ask hk hm hD oE hO eX=>exact⟨_,hm,hD.map fun v q h=>h.mono oE oE⟩
def lZ.code(h:lZ base w kb pb key at_ p):match p.ask with
  | none=>w.heap[kb]?=O (vJ pb (aq V) 0)
  | some (_,n)=>∃ ab,at_=ptr ab/\w.heap[kb]?=O (vJ pb (ptr ab) (n:Int)):=by
 cases h with
 | zero hk hm=>omega
 | pred hk hm hu kT hD hr hv hC jY=>omega
 | cl hk hm hu kT hD hr hv hC oE hO jY eX=>omega
 | ask hk hm hD oE hO eX=>exact yH
theorem Kept.ea{a:Nat}(b:Ext w w'):Kept w w' a:=(by grind [bz.ext])
theorem qn.ext{lo ab:Nat}{insv:Y}{vs:List Y}{c:Co}(h:qn w lo ab insv vs c)(a:Ext w w'):qn w' lo ab insv vs c:=⟨a.ext _ _ h.cell,h.low,jM a.ext h.row,h.ins.bI (by grind [bz.ext])⟩
theorem lZ.ext(h:lZ base w kb pb key at_ p)(a:Ext w w'):lZ base w' kb pb key at_ p:=by
 have b:=a.size;cases h with
 | zero hk hm=>exact .zero (a.ext _ _ hk) (a.ext _ _ hm)
 | pred hk hm hu kT hD hr hv hC jY=>exact .pred (a.ext _ _ hk) (a.ext _ _ hm) hu kT (hD.map fun v q h=>(h.bI (.ea a) fun _ _ _ c=>a.ext _ _ c).mono zo b) (jM a.ext hr) hv ((hC.bI (.ea a)).mono b) jY
 | cl hk hm hu kT hD hr hv hC oE hO jY eX=>exact .cl (a.ext _ _ hk) (a.ext _ _ hm) hu kT (by grind [pO.map,yl.bI,Kept.ea,bz.ext]) (jM a.ext hr) hv (hC.bI (.ea a)) zo (hO.ext a) jY eX
 | ask hk hm hD oE hO eX=>exact .ask (a.ext _ _ hk) (a.ext _ _ hm) (by grind [pO.map,yl.bI,Kept.ea,bz.ext]) zo (hO.ext a) eX
def lZ.aR6(h:lZ base w kb pb key at_ p)(g:p.ask=V){name:Bs}{l:List (Bs×Y)}(kT:cap<80)(c:w.heap[pb]?=O (eJ l))(i:fH (P.keyOf name cap) l 0=V)
  (d:bz (fun b _=>b=pb) w w') (j:w'.heap[k']?=aN #[] 185) (k:w.heap.size<=k') (a:base<=w.heap.size) (hm:w'.heap[pb]?=O (eJ (l++[(P.keyOf name cap,cM k' 0 0)]))) :
  lZ base w' kb pb (P.keyOf name cap) (aq V) ⟨p.dI++[⟨name,cap,[]⟩],G,V⟩:=by
 obtain⟨l',m,n⟩:=h.close;rw[c] at m;have o:=h.code;rw[g] at o;have r:l'=l:=by
  grind [aR5]
 subst r;have s:=d.size;have f:∀ (b:Nat) (T:Nat) (cs:Array Y),w.heap[b]?=aN cs T->w'.heap[b]?=aN cs T:=fun b T cs a=>d.block _ _ a fun e=>by
  rw[e,c] at a;cases a
 refine .pred (l:=l') (pl:=w.heap.size) (C:=[]) (cbs:=[]) yH hm i kT (n.map fun v q t=>((t.bI (fun b T cs _ _ a=>f b T cs a) fun b cs _ a=>f b _ cs a).mono zo s)) ?_ ⟨k',J⟩ ⟨J,yH⟩ a;exact⟨J,.inr ⟨k',0,#[],J,k,j,a0d _,a0r _,J,J⟩⟩
end
section
variable{base:Nat}{w w':Z}{kb pb:Nat}{key:Bs}{at_:Y}{p:Pv}
def ar3{pb size:Nat}(hr:w.ownsRow pb e size v n xs)(hv:∃ b,v.ownBlock=O b):pb<=w.heap.size:=by
 obtain⟨b,hv⟩:=hv;obtain⟨a,c,-⟩:=Ef hr hv;omega
def lZ.aR7(a:base<=w.heap.size)(h:lZ base w kb pb key at_ p)(j:p.ask=V)(u:p.dI≠[]):∃ l v cbs pl q D,p.dI=D++[q]/\key=P.keyOf q.name q.arity/\w.heap[pb]?=O (eJ (l++[(key,v)]))/\fH key l 0=V/\w.ownsRow pl 185 1 v q.clauses.length (Jg cbs)/\pl<=w.heap.size/\base<=pl /\
  ∀ w' v' cb slots,bz (fun b o=>b=pb\/(pl<=b/\∃ cs,o = ae cs 185 (0,0))) w w'->w'.heap[pb]?=O (eJ (l++[(key,v')]))->w'.ownsRow pl 185 1 v' (q.clauses.length+1) (Jg cbs++[ptr cb])->(∃ b,v'.ownBlock=O b) ->
   w'.heap[cb]?=aN #[zi ((slots:Nat):Int),bH] 196->w.heap.size<=cb->lZ base w' kb pb key (ptr cb) ⟨D++[⟨q.name,q.arity,q.clauses++[⟨slots,[]⟩]⟩],A,V⟩:=by
 have d:=h.code;rw[j] at d;have d:w.heap[kb]?=O (vJ pb (aq V) 0):=d;have f:∀ {l:List (Bs×Y)} {D:List Pd} {v:Y} {name:Bs} {ar pl:Nat} {C:List Co} {cbs:List Nat},w.heap[pb]?=O (eJ (l++[(P.keyOf name ar,v)]))->fH (P.keyOf name ar) l 0=V->ar<80->pO w pl w.heap.size l D->yk w w.heap.size cbs C->base<=pl ->
   ∀ w' v' cb slots,bz (fun b o=>b=pb\/(pl<=b/\∃ cs,o = ae cs 185 (0,0))) w w'->w'.heap[pb]?=O (eJ (l++[(P.keyOf name ar,v')]))->w'.ownsRow pl 185 1 v' (C.length+1) (Jg cbs++[ptr cb])->(∃ b,v'.ownBlock=O b) ->
   w'.heap[cb]?=aN #[zi ((slots:Nat):Int),bH] 196->w.heap.size<=cb->lZ base w' kb pb (P.keyOf name ar) (ptr cb) ⟨D++[⟨name,ar,C++[⟨slots,[]⟩]⟩],A,V⟩:=by
  intro l D v name ar pl C cbs hm hu kT hD hC jY w' v' cb slots g k x m n r;have y:∀ (b:Nat) (T:Nat) (cs:Array Y),b<pl\/T≠185->w.heap[b]?=aN cs T->w'.heap[b]?=aN cs T:=fun b T cs z a=>g.block _ _ a (by
   rintro (e | ⟨i,cs',B⟩)
   .rw[e,hm] at a;cases a
   grind)
  have s:∀ t,Kept w w' t:=zg;refine .cl (ol:=w.heap.size) (c:=⟨slots,[]⟩) (vs:=[]) yH k hu kT (by grind [pO.map,yl.bI]) ?_ m (hC.bI (s _)) g.size ⟨n,r,a0z _ _ _ _,J⟩ jY a;grind
 cases h with
 | zero hk hm=>exact yH
 | pred hk hm hu kT hD hr hv hC jY=>exact⟨_,_,_,_,_,_,J,J,hm,hu,hr,ar3 hr hv,jY,yH⟩
 | @cl l D v name ar pl ol ab C cbs insv vs c hk hm hu kT hD hr hv hC oE hO jY eX=>
  have i:=f hm hu kT (hD.map fun v q h=>h.mono zo oE) ((hC.mono oE).snoc hO.done) jY;exact⟨_,_,cbs++[ab],_,⟨name,ar,C++[c]⟩,_,J,J,hm,hu,zg,ar3 hr hv,jY,i⟩
 | ask hk hm hD oE hO eX=>grind
def lZ.aR9(i:base<=w.heap.size)(h:lZ base w kb pb key at_ p){slots:Nat}(g:bz (fun b _=>b=kb) w w')(hk:w'.heap[kb]?=O (vJ pb (ptr cap) (told:Int)))(j:w'.heap[cap]?=aN #[zi (slots:Int),bH] 196)(k:w.heap.size<=cap)(d:∃ a n,w.heap[kb]?=O (vJ pb a n)) :
  lZ base w' kb pb key (ptr cap) ⟨p.dI,A,O (⟨slots,[]⟩,told)⟩:=by
 obtain⟨l,f,o⟩:=h.close;obtain⟨a0,q,d⟩:=d;have r:∀ (b:Nat) (T:Nat) (cs:Array Y),T≠187->w.heap[b]?=aN cs T->w'.heap[b]?=aN cs T:=(by grind [bz.block]);have s:∀ m,Kept w w' m:=zg;refine .ask (l:=l) (ol:=w.heap.size) (c:=⟨slots,[]⟩) (vs:=[]) hk (g.block _ _ f ?_) (by grind [pO.map,yl.bI]) g.size ⟨j,k,a0z _ _ _ _,J⟩ i;intro e;rw[e,d] at f;cases f
def lZ.aSa(h:lZ base w kb pb key at_ p)(x:at_≠aq V):∃ ab ol insv vs c,at_=ptr ab/\p.cur=O c/\qn w ol ab insv vs c/\ol<=w.heap.size/\base<=ol /\
  ∀ w' a l0 i,bz (fun b o=>b=ab\/(ol<=b/\∃ cs,o = ae cs 198 (0,0))) w w'->w'.heap[ab]?=aN #[zi (c.slots:Int),a] 196->w'.ownsRow ol 198 4 a (c.ins.length+1) (vs++l0)->vI w' l0 [i]->lZ base w' kb pb key (ptr ab) (p.add i):=by
 have main:∀ {ab ol:Nat} {insv:Y} {vs:List Y} {c:Co},qn w ol ab insv vs c->∀ w' a l0 i,bz (fun b o=>b=ab\/(ol<=b/\∃ cs,o = ae cs 198 (0,0))) w w'->w'.heap[ab]?=aN #[zi (c.slots:Int),a] 196->w'.ownsRow ol 198 4 a (c.ins.length+1) (vs++l0)->vI w' l0 [i] ->
   qn w' ol ab a (vs++l0) { c with ins:=c.ins++[i] }/\(∀ (b:Nat) (T:Nat) (cs:Array Y),b<ol\/(T≠198/\T≠196)->w.heap[b]?=aN cs T->w'.heap[b]?=aN cs T)/\(∀ (b:Nat) (l:List (Bs×Y)),w.heap[b]?=O (eJ l)->w'.heap[b]?=O (eJ l)):=by
  intro ab ol insv vs c hO w' a l0 i d g hr j;have r:∀ (b:Nat) (T:Nat) (cs:Array Y),b<ol\/(T≠198/\T≠196)->w.heap[b]?=aN cs T->w'.heap[b]?=aN cs T:=fun b T cs s f=>d.block _ _ f (by
   rintro (e | ⟨t,cs',n⟩)
   .rcases s with h | h
    .have:=hO.low;omega
    .rw[e,hO.cell] at f;grind
   grind)
  refine⟨⟨g,hO.low,zg,(hO.ins.bI yH).snoc j⟩,r,fun b l f=>d.block _ _ f ?_⟩;rintro (e | ⟨t,cs',n⟩)
  .rw[e,hO.cell] at f;cases f
  .cases n
 cases h with
 | zero hk hm=>exact yH
 | pred hk hm hu kT hD hr hv hC jY=>exact yH
 | @cl l D v name ar pl ol ab C cbs insv vs c hk hm hu kT hD hr hv hC oE hO jY eX=>
  refine⟨_,_,_,_,_,J,?_,hO,oE,eX,fun w' a l0 i d g k j=>?_⟩
  .show(if A=A then oB.Pe (D++[⟨name,ar,C++[c]⟩]) else V)=O c;rw[zip rfl];grind [oB.Pe,List.getLast?_concat]
  .obtain⟨g1,g2,g3⟩:=main hO w' a l0 i d g k j;have m:Kept w w' ol:=zg;have e:(Pv.mk (D++[⟨name,ar,C++[c]⟩]) A V).add i=⟨D++[⟨name,ar,C++[{ c with ins:=c.ins++[i] }]⟩],A,V⟩:=by
    grind [Pv.add,am1,aIj]
   rw[e];exact .cl yH yH hu kT (by grind [pO.map,yl.bI]) (by grind [FJ]) hv (hC.bI m) (Nat.le_trans oE d.size) g1 jY eX
 | @ask l D key ol ab told insv vs c hk hm hD oE hO eX=>
  refine⟨_,_,_,_,_,J,J,hO,oE,eX,fun w' a l0 i d g k j=>?_⟩;obtain⟨g1,g2,g3⟩:=main hO w' a l0 i d g k j;have m:Kept w w' ol:=zg;exact .ask (g2 _ _ _ (.inr ⟨zd,zd⟩) hk) (g3 _ _ hm) (hD.map fun v q h=>h.bI m fun b cs _ u=>g2 b _ cs (.inr ⟨zd,zd⟩) u) (Nat.le_trans oE d.size) g1 eX
def lZ.done(h:lZ base w kb pb key at_ p){c:Co}{n:Nat}(a:p.ask=O (c,n)):∃ ab,yf w kb pb ab n p.dI/\Fu w ab c:=by
 cases h with
 | zero hk hm=>grind
 | pred hk hm hu kT hD hr hv hC jY=>grind
 | cl hk hm hu kT hD hr hv hC oE hO jY eX=>grind
 | @ask l D key ol ab told insv vs b hk hm hD oE hO eX=>
  have a:O (b,told)=O (c,n):=a;cases a;exact⟨ab,⟨hk,hD.aRV hm⟩,hO.done.coM⟩
end
