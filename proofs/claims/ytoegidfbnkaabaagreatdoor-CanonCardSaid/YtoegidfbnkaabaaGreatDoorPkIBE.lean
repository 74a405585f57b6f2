/- A part of one proof (VP6, VP7, ShX4c, VP8, ShX4e, VP9, VP10, VP11). -/
import Derived.Test.YtoegidfbnkaabaaGreatDoorPkIBD
set_option linter.all false
set_option maxRecDepth 100000
set_option maxHeartbeats 8000000
open Option renaming some → O, none → V
open Go renaming Value → Y, World → Z
open Bool renaming true → A, false → G
open Go.Obj renaming cells → ae
open Go.Ending renaming returned → ah
open Go.Value renaming nilIface → ai, iface → aj, tuple → ak, pointer → aq
open Go.Calls renaming mono → a1a
open Nat renaming le_refl → a1c, zero_le → a1q
open List renaming drop_eq_getElem_cons → a1h, length_singleton → a1Q, drop_of_length_le → a23, getElem?_concat_length → a4P
open Go.Value renaming string → a1u
open Go.World renaming ownsRow_nil → a1A
open Go.Exit renaming thenS → a1P
open UInt8 renaming toNat_inj → a18
open Go.Lib renaming hasSuffix → a29, index → a3Z, trimSuffix → a4q, splitB → a4C
open Go.Proofs.Tryz renaming prog → bby
open Go.Proofs.Tryz
namespace Go.Proofs.YtoegidfbnkaabaaGreatDoor
open P
open Go.RowKit Sx
variable{R:Ending->Z->Prop}{base cap cb e k' n pb so told wb xb:Nat}{cs:Array Y}{o4 o5 tv v vv:Y}{res:Z->Prop}{vars:List Bs}{vs xs:List Y}{wd:Bs}
def asO{w:Z}{size:Nat}{o:Obj}(h:w.ownsRow base e size v n xs)(hx:xb<base):(bS w xb o).ownsRow base e size v n xs:=by
 refine⟨h.1,?_⟩;rcases h.2 with r | ⟨g,cap,cur,a,b,d,c⟩
 .exact yH
 .exact .inr ⟨g,cap,cur,a,b,yH,c⟩
def asP(slots:Nat)(ws:List Bs)(k:Int)(w:Z)(e:Ending)(w':Z):Prop:=Ext w w'/\match vN slots ws with
 | some i=>∃ cv sv,e = ah (.agg #[.string (bs i.word),.string (bs i.name),cv,sv])/\yD cv i.const/\w'.ownsRow w.heap.size 3 1 sv i.s.length (uY i.s)
 | none=>nA 5 k w w' e
def aSn{w:Z}{ws:List Bs}{slots:Nat}{insv:Y}{k:Int}(hw:w.heap[wb]?=O (ae ((wd::ws).map fun s=>a1u (bs s)).toArray 9 (0,0)))
  (hc:w.heap[cb]?=aN #[zi (slots:Int),insv] 196) (jd:slots<=100000) (hlen:ws.length<=100000) (EL:∀ s∈wd::ws,s.length<=1000000) (hT:Cd w) (hP:kZ w) :
  Calls bby 74 #[cV wb (ws.length+1) (ws.length+1),pp cb,zi k] w (asP slots (wd::ws) k w):=by
 suffices H:∀ R:Ending->Z->Prop,(∀ e w',asP slots (wd::ws) k w e w'->R e w')->Calls bby 74 #[cV wb (ws.length+1) (ws.length+1),pp cb,zi k] w R from H _ zg;intro R hR;have lw:=bh hw;have lc:=bh hc;have yO:∀ w2,Ext w w2->vN slots (wd::ws)=V->∀ e w3,Ext w2 w3->nA 5 k w2 w3 e->∃ b,e = .panicked [{ v:=aj 73 (pp b),recovered:=false }]/\R e w3:=fun w2 dU hu e w3 eK hf=>by
  have DU:=hf;obtain⟨b,rfl,T,h3⟩:=DU;exact⟨b,J,hR _ _ ⟨yF,by rw[hu];exact hf.ext dU⟩⟩
 have Dx:∀ w2,Ext w w2->vN slots (wd::ws)=V->∀ K:Y->Z->Prop,Calls bby 70 #[zi k] w2 (ends K (PC R)):=fun w2 dU hu K=>by
  refine(VO k w2).mono ?_;rintro e w3 ⟨eK,hf⟩;obtain⟨b,rfl,h⟩:=yO w2 dU hu e w3 eK hf;exact h
 obtain⟨cs,jC⟩:=cg (((wd::ws).map fun s=>a1u (bs s)).toArray);have asQ:cs[0]?=O (aT wd):=zg;have ah8:∀ q,(hq:q<ws.length)->cs[q+1]?=O (aT (ws[q])):=zg;rw[<- jC] at hw;refine aSj ?_;refine dF hw asQ ?_;obtain⟨w2,jx⟩:=cg (bS ((w.alloc (ae #[aT [],aT [],ai,bX] 198 (0,0))).alloc (ae #[aT [],aT [],ai,bX] 198 (0,0))) (w.heap.size+1) (ae (pD #[a1u (bs []),aT [],ai,bX] 0 (Value.agg #[aT wd,aT [],ai,bX]).cells.toList) 198 (0,0)));rw[<- jx];have dU:Ext w w2:=yF;have r2:w2.heap[w.heap.size]?=aN #[aT [],aT [],ai,bX] 198:=yH;have x2:w2.heap[w.heap.size+1]?=aN #[aT wd,aT [],ai,bX] 198:=by rw[jx];exact qJ J (yH)
 clear jx;obtain⟨rb,Mg⟩:=cg w.heap.size;obtain⟨xb,uD⟩:=cg (w.heap.size+1);rw[<- Mg] at r2;rw[<- uD] at x2;have dK:Ext w2 w2.drew:=yF;have lJ:(w.alloc (ae #[aT [],aT [],ai,bX] 198 (0,0))).heap.size=xb:=yH;rw[lJ,<- Mg];refine⟨fun w'=>Ext w2 w',dK,?_⟩;have jx:=dU.ext _ _ hw;refine cS (pp wb) (fun w' j=>by have f:=j.ext _ _ jx;have:=bh f;exact fm f) ?_;refine cS (aT wd) (fun w' j=>by have f:=j.ext _ _ jx;have:=bh f;exact mn f asQ) ?_;refine a1a (aq8 w2.drew) ?_;rintro e w5 ⟨uf,sm,sl,rfl,hsm,VA,ahG⟩;have LG:Ext w2 w5:=yF;have Ik:=dU.trans LG;refine⟨LG,?_⟩;rw[LZ (k:=9) (e:=98) (z:=bX) zk zk zk VA.map wd A];have P5:=VA.find ahG wd;cases hf:fO wd sl 0 with
 | none=>
  rw[hf] at P5;simp only;refine cS bX (fun w' j=>eV) ?_;refine cS (.bool G) (fun w' j=>eV) ?_;refine⟨fun _ _=>False,?_,by rintro _ _ h;exact h.elim⟩;refine bG ?_;exact Dx w5 Ik (by grind [P.asN]) _
 | some p=>
  obtain⟨q0,ZG⟩:=p;rw[hf] at P5;obtain⟨sh,tG,RH⟩:=P5;simp only;refine cS ZG (fun w' j=>eV) ?_;refine cS (.bool A) (fun w' j=>eV) ?_;refine⟨fun _ w'=>w'=w5,?_,?_⟩
  .exact eV
  rintro s0 O9 rfl d0;have Jl:vN slots (wd::ws)=match nj slots sh ws ⟨wd,[],V,[]⟩with
   | some (i,[])=>if ((wd=[109,97,107,101]\/wd=[115,112,108,105,116])/\i.s.length<2)\/(wd=nM/\jW i.name≠i.s.length) then V else O i
   | _=>none:=by grind [P.asN]
  have aRf:sh.length<=3:=asa tG;have ahH:∀ x∈sh,x=115\/x=112\/x=99\/x=110\/x=42:=by
   rcases Qk tG with⟨-,rfl⟩| ⟨-,rfl⟩| ⟨-,rfl⟩| ⟨-,rfl⟩| ⟨-,rfl⟩| ⟨-,rfl⟩| ⟨-,rfl⟩<;>decide
  obtain⟨ZH,shc,ahI⟩:∃ a c,ZG = .slice a sh.length c:=by
   rcases RH with⟨h1,T⟩| ⟨b,zz,-,h1,-⟩<;>grind
  subst ahI;have h1i:(1:Int)<=((ws.length+1:Nat):Int):=zo;refine cO h1i ?_;obtain⟨off,aSp,aSq⟩:∃ off,sliced (O ⟨wb,0,V⟩) 1 (ws.length+1) (ws.length+1) 1 = .slice (O ⟨wb,off,V⟩) ws.length ws.length/\(0<ws.length->off=1):=by
   by_cases h:ws.length=0
   .exact⟨0,by grind [sliced],zo⟩
   .exact⟨1,by grind [acZ],zg⟩
  rw[aSp];obtain⟨base,lD⟩:=cg O9.heap.size;have Uj:=LG.size;have lx2:=bh x2;have uD:xb<base:=zo;have x5:=LG.ext _ _ x2;have r5:=LG.ext _ _ r2;have oN:=Ik.ext _ _ hw;have hc5:=Ik.ext _ _ hc;have hlw:wb≠xb:=zo;have hlc:cb≠xb:=zo;have ry:∀ {b:Nat} {o:Obj} {w':Z},MF base xb O9 w'->O9.heap[b]?=O o->b≠xb->w'.heap[b]?=O o:=(by grind [bh,bB.block]);have LF:∀ {w':Z},MF base xb O9 w'->Ext w w':=fun{w'} hF=>⟨hF.os.trans Ik.os,hF.tape.trans Ik.tape,hF.output.trans Ik.output,yH,(by grind [bh,bB.ext])⟩;have CN:∀ {a b c:Z},MF base xb a b->Ext b c->MF base xb a c:=yF;have a0f:∀ q,(hq:q<ws.length)->(ws[q]).length<=1000000:=zg;have ye:nj slots sh ws ⟨wd,[],V,[]⟩=V->vN slots (wd::ws)=none:=zg;refine⟨fun _ w'=>∃ i cv a c,MF base xb O9 w'/\ME base xb cv (.slice a i.s.length c) w' i/\i.word=wd/\i.s.length<=200000 /\
   ((42∈sh/\nj slots sh ws ⟨wd,[],V,[]⟩=O (i,[]))\/(¬ 42∈sh/\sh.length<=ws.length/\nj slots sh ws ⟨wd,[],V,[]⟩=O (i,ws.drop sh.length))),?_,?_⟩
  .refine bG ?_;refine⟨fun m z w'=>∃ q i cv a c,z 35=zi ((q:Nat):Int)/\q<=sh.length/\q<=ws.length/\m=sh.length-q/\MF base xb O9 w'/\ME base xb cv (.slice a i.s.length c) w' i/\i.word=wd/\(∀ y∈sh.take q,y≠42)/\nj slots sh ws ⟨wd,[],V,[]⟩=nj slots (sh.drop q) (ws.drop q) i/\i.s.length<=q,
    ⟨_,0,⟨wd,[],V,[]⟩,ai,V,0,J,a1q _,a1q _,J,bB.refl _ _,⟨x5,J,a1A _ _ _ _⟩,J,zs,J,a1c _⟩,?_⟩
   intro m z d w6 hI;refine toPr ?_;obtain⟨q,i,cv,a,c,Q,hq,hqw,rfl,N,C,S,wJ,n,RP⟩:=hI;have ln:=LF N;have pQ:=ry N oN hlw;have J3:=ry N hc5 hlc;have Iq:=hT.ext ln;have vE:=hP.ext ln;have yN:((q:Nat):Int).toNat=q:=zo;by_cases VB:q<sh.length
   .have rN:((q:Nat):Int)<(sh.length:Int):=zo;obtain⟨shb,shz,mW,Ip⟩:∃ b z,ZH=O ⟨b,0,V⟩/\w6.heap[b]?=O (ae (uP sh).toArray 5 z):=by
     rcases RH with⟨h1,-⟩| ⟨b,zz,-,h1,-,T⟩<;>grind
    subst mW;obtain⟨x,Zr⟩:=cg (sh[q]);have jL:(uP sh).toArray[q]?=O (.int .u8 (x.toNat:Int)):=zg;have O4:sh.drop q=x::sh.drop (q+1):=by grind [a1h]
    have CF:x∈sh:=zg;obtain⟨B,hB⟩:=cg ((uP sh).toArray);rw[<- hB] at Ip jL;rw[O4,P.aSm] at n;have ti:=ahH x CF;by_cases RL:x=42
    .have U:(x.toNat:Int)=42:=by rw[RL];rfl
     rw[zip RL] at n;refine dM Q rN Ip (zA jL (zA @yN U)) ?_;obtain⟨a0g,aSs,aSt⟩:∃ o,sliced (O ⟨wb,off,V⟩) q ws.length ws.length 1 = .slice (O ⟨wb,o,V⟩) (ws.length-q) (ws.length-q)/\(q<ws.length->o=q+1):=by
      by_cases h:ws.length=q
      .exact⟨off,by unfold sliced;grind,zo⟩
      .exact⟨q+1,by grind [acZ],zg⟩
     rw[yN,aSs];refine bG ?_;refine⟨fun m z w'=>∃ p i' cv a c,z 46=zi ((p:Nat):Int)/\p<=ws.length-q/\m=ws.length-q-p/\MF base xb O9 w'/\ME base xb cv (.slice a i'.s.length c) w' i'/\i'.word=wd/\i'.s.length<=q+p /\
      nj slots sh ws ⟨wd,[],V,[]⟩=match yp slots (ws.drop (q+p)) with
       | some l=>O ({ i' with s:=i'.s++l },[])
       | none=>V,⟨_,0,i,cv,a,c,J,a1q _,J,N,C,S,RP,n⟩,?_⟩
     clear n C S RP N ln pQ J3 Iq vE Ip;intro m z2 d2 w8 hI;refine toPr ?_;obtain⟨p,i,cv,a,c,BH,hp,rfl,J5,hX8,S,RP,n⟩:=hI;have we:=LF J5;have MC:=ry J5 oN hlw;have hc8:=ry J5 hc5 hlc;have hx8:=hX8.cell;have lx8:=bh hx8;have epn:((p:Nat):Int).toNat=p:=zo;by_cases kg:p<ws.length-q
     .have zK:((p:Nat):Int)<((ws.length-q:Nat):Int):=zo;have hqp:q+p<ws.length:=zo;have oV:cs[q+1+p]?=O (aT (ws[q+p])):=zg;have asU:Ext w8 w8.drew:=yF;rw[a1h hqp] at n;rw[aSt zo];refine dM BH zK MC (zA oV @epn) ?_;refine⟨fun w'=>Ext w8 w',asU,?_⟩;refine cS (pq xb 3) (fun w' j=>by have f:=j.ext _ _ hx8;have:=bh f;exact fm f) ?_;refine cS (.slice a i.s.length c) (fun w' j=>by have f:=j.ext _ _ hx8;have:=bh f;exact fm f) ?_;refine cS (pp cb) (fun w' j=>by have f:=j.ext _ _ hc8;have:=bh f;exact fm f) ?_;refine cS (zi (slots:Int)) (fun w' j=>by have f:=j.ext _ _ hc8;have:=bh f;exact fm f) ?_;refine a1a (O7 ws[q+p] slots k w8.drew zg jd (by grind [Cd.ext]) (by grind [kZ.ext])) ?_;rintro e W ⟨D,hu⟩;cases F:kz ws[q+p] slots with
      | none=>
       rw[F] at hu;have hn:yp slots (ws[q+p]::ws.drop (q+p+1))=none:=by unfold yp;rw[F]
       rw[hn] at n;obtain⟨b,rfl,h⟩:=yO w8.drew yF zg e W D hu;exact fun _=>h
      | some s=>
       rw[F] at hu;subst hu;have aib:=asU.trans D;have kF:=CN J5 aib;refine⟨aib,?_⟩;refine bG ?_;refine⟨yF,?_⟩;refine ah7 (hX8.ext aib) (by rw[lD];exact kF.size) uD zo s fun a' n' c' jP VQ Bf vG=>?_;refine dF VQ BH ?_;have D7:yp slots (ws[q+p]::ws.drop (q+p+1))=match yp slots (ws.drop (q+p+1)) with
        | some l=>O (s::l)
        | none=>none:=by
        conv=>lhs;unfold yp
        rw[F];cases yp slots (ws.drop (q+p+1))<;>rfl
       obtain⟨a2,c2,kl⟩:=il Bf.row;cases kl;refine⟨_,?_,p+1,_,cv,a',c',J,zo,J,kF.trans vG,Bf,S,zg,?_⟩
       .omega
       .rw[n,D7,show q+(p+1)=q+p+1 from rfl];grind [yp]
     .have zK:¬ ((p:Nat):Int)<((ws.length-q:Nat):Int):=zo;refine dF BH zK ?_;rw[a23 zo] at n;have n:nj slots sh ws ⟨wd,[],V,[]⟩=O (i,[]):=by rw[n];simp [yp]
      grind
    .have U:¬ (x.toNat:Int)=42:=fun e=>RL (a18.1 zg);rw[bI RL] at n;refine dM Q rN Ip (zA jL (zA @yN U)) ?_;refine⟨fun _ w'=>w'=w6/\q<ws.length,?_,?_⟩
     .by_cases asV:q<ws.length
      .have ed:¬ ((q:Nat):Int)=(ws.length:Int):=zo;refine dF Q ed ?_;omega
      .have EP:((q:Nat):Int)=(ws.length:Int):=zo;rw[a23 zo] at n;refine dF Q EP ?_;exact Dx w6 ln zg _
     .rintro s2 I ⟨rfl,asV⟩ d2;have ZW:((q:Nat):Int)<(ws.length:Int):=zo;have oV:cs[1+q]?=O (aT (ws[q])):=zg;have MG:Ext I I.drew:=yF;have E:=C.cell;have lx6:=bh E;have jo:=C.con.cases;have ZX:∀ y∈sh.take (q+1),y≠42:=zg;rw[a1h asV] at n;simp only at n;rw[aSq zo];by_cases RI:x=115
      .have U:(x.toNat:Int)=115:=by rw[RI];rfl
       rw[zip RI] at n;refine cO U ?_;refine⟨fun w'=>Ext I w',MG,?_⟩;refine cS (pq xb 3) (fun w' j=>by have f:=j.ext _ _ E;have:=bh f;exact fm f) ?_;refine cS (.slice a i.s.length c) (fun w' j=>by have f:=j.ext _ _ E;have:=bh f;exact fm f) ?_;refine cS (pq wb (1+q)) (fun w' j=>by have f:=j.ext _ _ pQ;have:=bh f;exact Bt f Q ZW @yN) ?_;refine cS (aT (ws[q])) (fun w' j=>by have f:=j.ext _ _ pQ;have:=bh f;exact mn f oV) ?_;refine cS (pp cb) (fun w' j=>by have f:=j.ext _ _ J3;have:=bh f;exact fm f) ?_;refine cS (zi (slots:Int)) (fun w' j=>by have f:=j.ext _ _ J3;have:=bh f;exact fm f) ?_;refine a1a (O7 ws[q] slots k I.drew zg jd (Iq.ext MG) (vE.ext MG)) ?_;rintro e W ⟨D,hu⟩;cases F:kz ws[q] slots with
       | none=>
        rw[F] at hu n;obtain⟨b,rfl,h⟩:=yO I.drew yF zg e W D hu;exact fun _=>h
       | some s=>
        rw[F] at hu n;subst hu;have tL:=MG.trans D;have kF:=CN N tL;refine⟨tL,?_⟩;refine bG ?_;refine⟨yF,?_⟩;refine ah7 (C.ext tL) (by rw[lD];exact kF.size) uD zo s fun a' n' c' jP VQ Bf vG=>?_;refine dF VQ Q ?_;obtain⟨a2,c2,kl⟩:=il Bf.row;cases kl;refine⟨_,?_,q+1,_,cv,a',c',J,zo,zo,J,kF.trans vG,Bf,S,ZX,n,zg⟩;omega
      .rw[bI RI] at n;have aic:¬ (x.toNat:Int)=115:=fun e=>RI (a18.1 zg);by_cases vQ:x=99
       .have U:(x.toNat:Int)=99:=by rw[vQ];rfl
        rw[zip vQ] at n;refine dM aic U pQ (zA oV (zA Q (zA ZW @yN))) ?_;refine a1a (aSk ws[q] k I zg Iq vE) ?_;rintro e W ⟨D,hu⟩;cases F:Es ws[q] with
        | none=>
         rw[F] at hu n;obtain⟨b,rfl,h⟩:=yO I ln zg e W D hu;exact h
        | some t=>
         rw[F] at hu n;obtain⟨YB,rfl,RG⟩:=hu;obtain⟨t1,u1,rfl⟩:∃ t u,YB = aj t u:=by
          rcases RG.cases with rfl | h
          .cases t<;>(first | exact RG.elim | exact absurd RG (by intro h;cases h))
          omega
         have xH:=D.ext _ _ E;have lx9:=bh xH;refine dF xH Q ?_;refine⟨_,?_,q+1,{ i with const:=O t },aj t1 u1,a,c,J,zo,zo,J,(CN N D).bS yH,⟨yH,RG,?_⟩,S,ZX,n,Nat.le_succ_of_le RP⟩
         .omega
         .exact asO (jY D.ext C.row) uD
       .rw[bI vQ] at n;have VC:¬ (x.toNat:Int)=99:=fun e=>vQ (a18.1 zg);by_cases A8:x=110
        .have U:(x.toNat:Int)=110:=by rw[A8];rfl
         rw[zip A8] at n;refine dM aic VC U (zA pQ (zA oV (zA Q (zA ZW @yN)))) ?_;refine a1a (ah5 ws[q] k I zg) ?_;rintro e W ⟨D,hu⟩;cases F:ql ws[q] with
         | none=>
          rw[F] at hu n;obtain⟨b,rfl,h⟩:=yO I ln zg e W D hu;exact h
         | some t=>
          rw[F] at hu n;subst hu;have xH:=D.ext _ _ E;have lx9:=bh xH;refine dF xH Q ?_;refine⟨_,?_,q+1,{ i with name:=t },cv,a,c,J,zo,zo,J,(CN N D).bS yH,⟨yH,C.con,?_⟩,S,ZX,n,Nat.le_succ_of_le RP⟩
          .omega
          .exact asO (jY D.ext C.row) uD
        .rw[bI A8] at n;have ahO:¬ (x.toNat:Int)=110:=fun e=>A8 (a18.1 zg);have ahN:x=112:=by
          grind
         have U:(x.toNat:Int)=112:=by rw[ahN];rfl
         refine dM aic VC ahO U ?_;refine⟨fun w'=>Ext I w',MG,?_⟩;refine cS (pq xb 3) (fun w' j=>by have f:=j.ext _ _ E;have:=bh f;exact fm f) ?_;refine cS (.slice a i.s.length c) (fun w' j=>by have f:=j.ext _ _ E;have:=bh f;exact fm f) ?_;refine cS (pq wb (1+q)) (fun w' j=>by have f:=j.ext _ _ pQ;have:=bh f;exact Bt f Q ZW @yN) ?_;refine cS (aT (ws[q])) (fun w' j=>by have f:=j.ext _ _ pQ;have:=bh f;exact mn f oV) ?_;refine a1a (O7 ws[q] 10000 k I.drew zg zo (Iq.ext MG) (vE.ext MG)) ?_;rintro e W ⟨D,hu⟩;cases F:kz ws[q] 10000 with
         | none=>
          rw[F] at hu n;obtain⟨b,rfl,h⟩:=yO I.drew yF zg e W D hu;exact fun _=>h
         | some s=>
          rw[F] at hu n;subst hu;have tL:=MG.trans D;have kF:=CN N tL;refine⟨tL,?_⟩;refine bG ?_;refine⟨yF,?_⟩;refine ah7 (C.ext tL) (by rw[lD];exact kF.size) uD zo s fun a' n' c' jP VQ Bf vG=>?_;refine dF VQ Q ?_;obtain⟨a2,c2,kl⟩:=il Bf.row;cases kl;refine⟨_,?_,q+1,_,cv,a',c',J,zo,zo,J,kF.trans vG,Bf,S,ZX,n,zg⟩;omega
   .have rN:¬ ((q:Nat):Int)<(sh.length:Int):=zo;have EP:q=sh.length:=zo;refine dF Q rN ?_;subst EP;rw[List.drop_length,List.take_length] at *;exact⟨i,cv,a,c,N,C,S,zo,.inr ⟨zg,hqw,n⟩⟩
  .rintro s6 w6 ⟨i,cv,a,c,N,C,S,RP,Bb⟩ d6;have ln:=LF N;have Ad:Ext w6 w6.drew:=yF;have hX7:=C.ext Ad;have L:=hX7.cell;have lx7:=bh L;rw[S] at L;have aSx:JV w6 sm (.slice ZH sh.length shc) sh:=by
    rcases RH with h | ⟨b,zz,h1,T,h3,h4⟩
    .exact .inl h
    .refine .inr ⟨b,zz,h1,T,h3,ry N h4 ?_⟩;grind
   refine a1a (aSl aSx 42 zo) ?_;rintro e I ⟨rfl,rfl⟩;have ll:∀ rest,nj slots sh ws ⟨wd,[],V,[]⟩=O (i,rest)->(rest=[]->vN slots (wd::ws)=if ((wd=[109,97,107,101]\/wd=[115,112,108,105,116])/\i.s.length<2)\/(wd=nM/\jW i.name≠i.s.length) then V else O i)/\(rest≠[]->vN slots (wd::ws)=V):=zg;have T5:(42∈sh\/ws.length=sh.length)->vN slots (wd::ws)=if ((wd=[109,97,107,101]\/wd=[115,112,108,105,116])/\i.s.length<2)\/(wd=nM/\jW i.name≠i.s.length) then V else O i:=zg
   refine⟨fun _ w'=>w'=I.drew/\vN slots (wd::ws)=O i,?_,?_⟩
   .refine⟨fun z w'=>w'=I.drew/\∃ b,z 159 = .bool b/\(b=A->vN slots (wd::ws)=V)/\(b=G->vN slots (wd::ws)=O i),?_,?_⟩
    .refine⟨fun w'=>Ext I w',Ad,?_⟩;by_cases aSy:sh.contains 42=G/\¬ ws.length=sh.length
     .obtain⟨M,ed⟩:=aSy;have aSz:¬ (ws.length:Int)=(sh.length:Int):=zo;refine cO M ?_;refine cS (zi (ws.length:Int)) (fun w' j=>eV) ?_;refine cO aSz ?_;refine⟨A,J,fun _=>?_,zg⟩;rcases Bb with⟨h1,-⟩| ⟨h1,T,h3⟩
      .grind
      .refine(ll _ h3).2 (fun e=>?_);have:=congrArg List.length e;grind
     .have E:=C.cell;rw[S] at E;by_cases M:sh.contains 42=A
      .have Ka:=T5 (.inl (by simpa using M));by_cases hm:wd=[109,97,107,101]\/wd=[115,112,108,105,116]
       .have hnt:¬ wd=[116,101,115,116]:=zg;have aSA:¬ bs wd=bs [116,101,115,116]:=zg;by_cases T:i.s.length<2
        .have X:(i.s.length:Int)<2:=zo;rw[zip (.inl ⟨hm,T⟩)] at Ka;rcases hm with rfl | rfl
         .refine jk M L X ?_;grind
         .refine jk M L X ?_;grind
        .have X:¬ (i.s.length:Int)<2:=zo;rw[bI (by rintro (⟨-,h⟩| ⟨h,-⟩);exact T h;exact hnt h)] at Ka;rcases hm with rfl | rfl
         .refine jk M L X ?_;grind
         .refine jk M L X ?_;grind
       .obtain⟨JH,oc⟩:=not_or.1 hm;by_cases ht:wd=[116,101,115,116]
        .subst ht;refine dM M L JH oc ?_;refine cS (pq xb 1) (fun w' j=>by have f:=j.ext _ _ E;have:=bh f;exact fm f) ?_;refine cS (aT i.name) (fun w' j=>by have f:=j.ext _ _ E;have:=bh f;exact fm f) ?_;refine cS (pq xb 3) (fun w' j=>by have f:=j.ext _ _ E;have:=bh f;exact fm f) ?_;refine cS (.slice a i.s.length c) (fun w' j=>by have f:=j.ext _ _ E;have:=bh f;exact fm f) ?_;refine cS (zi (i.s.length:Int)) (fun w' j=>eV) ?_;refine a1a (NL i.name) ?_;rintro e W ⟨rfl,rfl⟩;refine⟨Ad,?_⟩;by_cases ld:jW i.name=(i.s.length:Int)
         .refine cO ld ?_;grind
         .refine cO ld ?_;refine⟨A,J,fun _=>?_,zg⟩;rw[Ka,zip (.inr ⟨J,ld⟩)]
        .rw[bI (by rintro (⟨h,-⟩| ⟨h,-⟩);exact hm h;exact ht h)] at Ka;refine dM M L JH (zA oc ht) ?_;grind
      .have M:sh.contains 42=false:=zg;have hle:ws.length=sh.length:=zg;have RQ:(ws.length:Int)=(sh.length:Int):=zo;have Ka:=T5 (.inr hle);by_cases hm:wd=[109,97,107,101]\/wd=[115,112,108,105,116]
       .have hnt:¬ wd=[116,101,115,116]:=zg;have aSA:¬ bs wd=bs [116,101,115,116]:=zg;by_cases T:i.s.length<2
        .have X:(i.s.length:Int)<2:=zo;rw[zip (.inl ⟨hm,T⟩)] at Ka;rcases hm with rfl | rfl
         .refine cO M ?_;refine cS (zi (ws.length:Int)) (fun w' j=>eV) ?_;refine jk RQ L X ?_;grind
         .refine cO M ?_;refine cS (zi (ws.length:Int)) (fun w' j=>eV) ?_;refine jk RQ L X ?_;grind
        .have X:¬ (i.s.length:Int)<2:=zo;rw[bI (by rintro (⟨-,h⟩| ⟨h,-⟩);exact T h;exact hnt h)] at Ka;rcases hm with rfl | rfl
         .refine cO M ?_;refine cS (zi (ws.length:Int)) (fun w' j=>eV) ?_;refine jk RQ L X ?_;grind
         .refine cO M ?_;refine cS (zi (ws.length:Int)) (fun w' j=>eV) ?_;refine jk RQ L X ?_;grind
       .obtain⟨JH,oc⟩:=not_or.1 hm;by_cases ht:wd=[116,101,115,116]
        .subst ht;refine cO M ?_;refine cS (zi (ws.length:Int)) (fun w' j=>eV) ?_;refine dM RQ L JH oc ?_;refine cS (pq xb 1) (fun w' j=>by have f:=j.ext _ _ E;have:=bh f;exact fm f) ?_;refine cS (aT i.name) (fun w' j=>by have f:=j.ext _ _ E;have:=bh f;exact fm f) ?_;refine cS (pq xb 3) (fun w' j=>by have f:=j.ext _ _ E;have:=bh f;exact fm f) ?_;refine cS (.slice a i.s.length c) (fun w' j=>by have f:=j.ext _ _ E;have:=bh f;exact fm f) ?_;refine cS (zi (i.s.length:Int)) (fun w' j=>eV) ?_;refine a1a (NL i.name) ?_;rintro e W ⟨rfl,rfl⟩;refine⟨Ad,?_⟩;by_cases ld:jW i.name=(i.s.length:Int)
         .refine cO ld ?_;grind
         .refine cO ld ?_;refine⟨A,J,fun _=>?_,zg⟩;rw[Ka,zip (.inr ⟨J,ld⟩)]
        .rw[bI (by rintro (⟨h,-⟩| ⟨h,-⟩);exact hm h;exact ht h)] at Ka;refine cO M ?_;refine cS (zi (ws.length:Int)) (fun w' j=>eV) ?_;refine dM RQ L JH (zA oc ht) ?_;grind
    .rintro z w8 ⟨rfl,b,hz,jf,fk⟩ dd;rw[hz];cases b with
     | true=>
      refine bG ?_;exact Dx _ yF (jf J) _
     | false=>
      refine bG ?_;grind
   .rintro z w8 ⟨rfl,hi⟩ dd;have hr8:=(ry N r5 zo);have O5:=Ad.ext _ _ hr8;have lr9:=bh O5;have jo:=C.con.cases;rcases jo with rfl | ⟨t1,u1,rfl⟩
    .refine dF L O5 ?_;refine hR _ _ ⟨yF,?_⟩;rw[hi];refine⟨ai,.slice a i.s.length c,zg,C.con,?_⟩;have dY:=jY Ad.ext C.row;refine⟨dY.1,?_⟩;rcases dY.2 with r | ⟨g,cap,cur,g1,g2,g3,g4⟩
     .exact yH
     .exact .inr ⟨g,cap,cur,g1,zo,yH,g4⟩
    .refine dF L O5 ?_;refine hR _ _ ⟨yF,?_⟩;rw[hi];refine⟨aj t1 u1,.slice a i.s.length c,zg,C.con,?_⟩;have dY:=jY Ad.ext C.row;refine⟨dY.1,?_⟩;rcases dY.2 with r | ⟨g,cap,cur,g1,g2,g3,g4⟩
     .exact yH
     .exact .inr ⟨g,cap,cur,g1,zo,yH,g4⟩
def wq(w:Z):List Y->List P.In->Prop
 | vs,[]=>vs=[]
 | vs,i::r=>∃ cv sv rest,vs=[.string (bs i.word),.string (bs i.name),cv,sv]++rest/\yD cv i.const/\fJ (fun _=>True) w 3 sv (uY i.s)/\wq w rest r
theorem wq.bK{w w':Z}(hk:∀ (b:Nat) (cs:Array Y),w.heap[b]?=aN cs 3->w'.heap[b]?=aN cs 3):∀ {l:List P.In} {vs:List Y},wq w vs l->wq w' vs l
 | [],_,h=>h
 | _::_,_,⟨cv,sv,rest,a,c,d,e⟩=>⟨cv,sv,rest,a,c,d.mono zg yH,wq.bK hk e⟩
def wq.snoc{w:Z}{i:P.In}{l0:List Y}:∀ {l:List P.In} {vs:List Y},wq w vs l->wq w l0 [i]->wq w (vs++l0) (l++[i])
 | [],vs,a,b=>by subst a;grind
 | x::r,vs,⟨cv,sv,rest,a,c,d,e⟩,b=>⟨cv,sv,rest++l0,zg,c,d,wq.snoc e b⟩
theorem wq.at{w:Z}:∀ {l:List P.In} {vs:List Y} {j:Nat} {i:P.In},wq w vs l->l[j]?=O i->∃ cv sv,vs[j*4]?=O (aT i.word)/\vs[j*4+1]?=O (aT i.name)/\vs[j*4+2]?=O cv/\vs[j*4+3]?=O sv/\yD cv i.const/\fJ (fun _=>True) w 3 sv (uY i.s)
 | x::r,vs,0,i,⟨cv,sv,rest,e,b,c,d⟩,a=>by
  have a:x=i:=zg;subst a;exact⟨cv,sv,zg,zg,zg,zg,b,c⟩
 | x::r,vs,j+1,i,⟨cv,sv,rest,e,b,c,d⟩,a=>by
  obtain⟨g,f,g1,g2,g3,g4,g5,g6⟩:=wq.at d (by simpa using a);grind
def DG(w:Z)(a cb:Nat)(c:Co):Prop:=cb<a/\∃ insv vs,w.heap[cb]?=aN #[zi (c.slots:Int),insv] 196/\w.ownsRow 0 198 4 insv c.ins.length vs/\(∀ b,insv.ownBlock=O b->b<a)/\wq w vs c.ins
structure qU(w:Z)(lo ab:Nat)(insv:Y)(vs:List Y)(c:Co):Prop where
 cell:w.heap[ab]?=aN #[zi ((c.slots:Nat):Int),insv] 196
 low:lo<=ab
 row:w.ownsRow lo 198 4 insv c.ins.length vs
 ins:wq w vs c.ins
def aSC{w:Z}{size:Nat}(h:w.ownsRow pb e size v n xs)(c:k'<=pb):w.ownsRow k' e size v n xs:=by
 refine⟨h.1,?_⟩;rcases h.2 with r | ⟨g,cap,cur,a,d,b⟩
 .exact yH
 .exact .inr ⟨g,cap,cur,a,zo,b⟩
def qU.done{w:Z}{insv:Y}{c:Co}(h:qU w pb cap insv vs c):DG w w.heap.size cap c:=
 ⟨bh h.cell,insv,vs,h.cell,aSC h.row zo,fun _ a=>(EW h.row a).2.1,h.ins⟩
theorem DG.mono{w:Z}{c:Co}(h:DG w pb cb c)(e:pb<=cap):DG w cap cb c:=by
 obtain⟨f,insv,vs,a,b,g,d⟩:=h;exact⟨zo,insv,vs,a,b,zg,d⟩
theorem DG.bK{w w':Z}{a cb:Nat}{c:Co}(h:DG w a cb c)(hk:∀ (b T:Nat) (cs:Array Y),b<a\/T=3->(T=3\/T=196\/T=198)->w.heap[b]?=aN cs T->w'.heap[b]?=aN cs T):DG w' a cb c:=by
 obtain⟨d,insv,vs,i,e,f,g⟩:=h;exact⟨d,insv,vs,yH,Gl e yH,f,g.bK yH⟩
def DG.coM{w:Z}{c:Co}(h:DG w pb cb c):F5 w cb c:=by
 obtain⟨l,insv,vs,b,d,m,e⟩:=h;refine⟨insv,b,?_⟩;rcases d.2 with⟨a,n⟩| ⟨g,cap,cur,a,-,f,p,q,r,s⟩
 .exact yH
 .refine .inr ⟨g,cap,cur,a,?_,f,?_,fun j i k=>?_⟩
  .omega
  .omega
  .obtain⟨cv,sv,g1,g2,g3,g4,g5,g6⟩:=e.at k;have t:∀ o,o<c.ins.length*4->cur[o]?=vs[o]?:=zg;exact⟨zg,zg,zg,zg⟩
abbrev Kb(l:List Nat):List Y:=l.map fun b=>pp b
def yP(w:Z)(a:Nat)(cbs:List Nat)(cs:List Co):Prop:=cbs.length=cs.length/\∀ (j:Nat) (c:Co),cs[j]?=O c->∃ cb,cbs[j]?=O cb/\DG w a cb c
def yP.snoc{w:Z}{cbs:List Nat}{cs:List Co}{c:Co}(h:yP w pb cbs cs)(f:DG w pb cb c):yP w pb (cbs++[cb]) (cs++[c]):=by
 refine⟨by simp [h.1],fun j x a=>?_⟩;by_cases g:j<cs.length
 .rw[List.getElem?_append_left g] at a;obtain⟨b,i,k⟩:=h.2 j x a;grind
 .have d:=(List.getElem?_eq_some_iff.1 a).1;rw[List.length_append,a1Q] at d;have e:j=cs.length:=zo;subst e;rw[a4P] at a;cases a;exact⟨cb,by rw[<- h.1,a4P],f⟩
theorem yP.mono{w:Z}{a b:Nat}{cbs:List Nat}{cs:List Co}(h:yP w a cbs cs)(e:a<=b):yP w b cbs cs:=⟨h.1,fun j c d=>let ⟨cb,f,g⟩:=h.2 j c d;(by grind [DG.mono])⟩
abbrev Kept(w w':Z)(a:Nat):Prop:=∀ (b T:Nat) (cs:Array Y),b<a\/T=3->(T=3\/T=196\/T=198)->w.heap[b]?=O (ae cs T (0,0))->w'.heap[b]?=O (ae cs T (0,0))
theorem yP.bK{w w':Z}{a:Nat}{cbs:List Nat}{cs:List Co}(h:yP w a cbs cs)(hk:Kept w w' a):yP w' a cbs cs:=⟨h.1,fun j c b=>let ⟨cb,d,e⟩:=h.2 j c b;(by grind [DG.bK])⟩
theorem yP.aSE{w:Z}{cbs:List Nat}{cs:List Co}(h:yP w pb cbs cs):B4 w (Kb cbs) cs:=
 ⟨by simp [h.1],fun j c a=>let ⟨cb,d,b⟩:=h.2 j c a;⟨cb,zg,b.coM⟩⟩
def yQ(w:Z)(a cl:Nat)(v:Y)(q:Pd):Prop:=∃ b cap row cbs,v = cV b q.clauses.length cap/\q.clauses.length<=cap/\b<a/\w.heap[b]?=aN row 185/\row.toList.take q.clauses.length=Kb cbs/\yP w cl cbs q.clauses
theorem yQ.mono{w:Z}{a c cl d:Nat}{v:Y}{q:Pd}(h:yQ w a cl v q)(f:a<=c)(e:cl<=d):yQ w c d v q:=by
 obtain⟨b,cap,row,cbs,g1,g2,g3,g4,g5,g6⟩:=h;exact⟨b,cap,row,cbs,g1,g2,zo,g4,g5,g6.mono e⟩
theorem yQ.bK{w w':Z}{a cl:Nat}{v:Y}{q:Pd}(h:yQ w a cl v q)(hk:Kept w w' cl)(hr:∀ (b:Nat) (cs:Array Y),b<a->w.heap[b]?=aN cs 185->w'.heap[b]?=aN cs 185):yQ w' a cl v q:=by
 obtain⟨b,cap,row,cbs,g1,g2,g3,g4,g5,g6⟩:=h;exact⟨b,cap,row,cbs,g1,g2,g3,yH,g5,g6.bK hk⟩
def qC(w:Z)(a cl:Nat):List (Bs×Y)->List Pd->Prop
 | [],[]=>True
 | (k,v)::l,q::D=>(k=P.keyOf q.name q.arity/\q.arity<80/\yQ w a cl v q)/\qC w a cl l D
 | _,_=>False
theorem qC.map{w w':Z}{a cl b c:Nat}(d:∀ v q,yQ w a cl v q->yQ w' b c v q):∀ {l:List (Bs×Y)} {D:List Pd},qC w a cl l D->qC w' b c l D
 | [],[],_=>trivial
 | (_,_)::_,_::_,⟨⟨e,f,g⟩,h⟩=>⟨zg,qC.map d h⟩
def qC.snoc{w:Z}{a cl:Nat}{v:Y}{q:Pd}(b:q.arity<80)(hv:yQ w a cl v q):∀ {l:List (Bs×Y)} {D:List Pd},qC w a cl l D->qC w a cl (l++[(P.keyOf q.name q.arity,v)]) (D++[q])
 | [],[],_=>⟨zg,trivial⟩
 | (_,_)::_,_::_,⟨c,h⟩=>⟨c,qC.snoc b hv h⟩
theorem qC.find{w:Z}{a cl:Nat}{name:Bs}{n:Nat}(b:n<80):∀ {l:List (Bs×Y)} {D:List Pd} {j:Nat},qC w a cl l D->match fO (P.keyOf name n) l j with
  | none=>D.find? (fun p=>p.name == name && p.arity == n)=V
  | some (_,v)=>∃ p,D.find? (fun p=>p.name == name && p.arity == n)=O p/\yQ w a cl v p
 | [],[],j,_=>rfl
 | (k,v)::l,q::D,j,⟨⟨c,d,e⟩,h⟩=>by
  have ih:=qC.find (name:=name) b (j:=j+1) h;rw[fO,List.find?_cons];by_cases hk:k=P.keyOf name n
  .rw[zip hk];obtain⟨f,g⟩:=(P.afi d b).1 (c.symm.trans hk);grind
  grind
def qC.aSF{w:Z}{l:List (Bs×Y)}{D:List Pd}(h:qC w k' so l D)(hm:w.heap[pb]?=O (eO l)):UK w pb D:=by
 refine⟨l,hm,fun name n a=>?_⟩;have:=h.find (name:=name) a (j:=0);cases c:fO (P.keyOf name n) l 0 with
 | none=>
  exact yH
 | some d=>
  obtain⟨k,v⟩:=d;rw[c] at this;obtain⟨p,e,b,cap,row,cbs,g1,g2,g3,g4,g5,g6⟩:=this;grind [yP.aSE]
open Go.Proofs.YtoegidfbnkaabaaGreatDoor.Sx
section
variable{p0 p1 p2 p3 p4 p5 p6 p7:Y}{w:Z}{R:Ending->Z->Prop}
def aSG:=cy w R [p0] (gd [(12,[6,7,45])] [(6000,[36]),(7002,[4]),(17000,[85]),(18001,[]),(20000,[90]),(24002,[]),(26000,[131]),(29000,[166]),(36001,[])] [] [(21,[10,0,1,2,3,5,6,7,8,4,9,10,11]),(28,[15,0,1,2,3,4,5,6,7,8,9,10,11,12,13,14]),(31,[19,0,1,2,3,4,5,6,7,8,9,10,11,12,13,14,15,16,17,18]),(33,[14,0,1,2,3,4,5,6,7,8,9,10,11,12,13])] [] [] [11,15,19,35,36,46,54,59,82,83,84,85,90,98,99,119,120,131,143,144,166,174,175,200,202,221]) func34
end
def aSH(v4 v5:Y)(w:Z):CallsD bby 66 #[v4,v5] .returning w fun e u' w'=>e = ah (ak #[])/\u' = .returning/\w'=w:=by
 refine callsD_of_wpS func66 J fun AM cs hu=>?_;apply wpS_seq;apply wpS_region;simp [wpOpsS,go_sem,recoverD,hu,ntmps66,a1P,adj];apply wpS_seq;apply wpS_region;simp [wpOpsS,go_sem,recoverD,hu,ntmps66,a1P];refine wpS_cond (t:=false) (by simp [Act.eval]) ?_;simp only[Bool.false_eq_true,if_false];refine wpS_of_wp (wp_skip ?_);cases AM;simp_all [bodyPostS,results,Tryz.results66]
def aSI(b4 b5:Nat)(o4 o5:Y)(v:Y)(yj:List PanicEntry)(w:Z)(h4:w.cell? ⟨b4,0,V⟩=O o4)(z4:w.frozen? ⟨b4,0,V⟩=G)
  (h5:(w.setCell ⟨b4,0,V⟩ (aq V)).cell? ⟨b5,0,V⟩=O o5) (z5:(w.setCell ⟨b4,0,V⟩ (aq V)).frozen? ⟨b5,0,V⟩=G) :
  CallsD bby 66 #[pp b4,pp b5] (.panicking ({ v:=aj 73 v,recovered:=false }::yj)) w fun e u' w'=>
   e = ah (ak #[])/\u' = .panicking ({ v:=aj 73 v,recovered:=true }::yj)/\w'=(w.setCell ⟨b4,0,V⟩ (aq V)).setCell ⟨b5,0,V⟩ (aj 73 v):=by
 refine callsD_of_wpS func66 J fun AM cs hu=>?_;apply wpS_seq;apply wpS_region;simp [wpOpsS,go_sem,recoverD,hu,ntmps66,a1P,adk];apply wpS_seq;apply wpS_region;simp [wpOpsS,go_sem,recoverD,hu,ntmps66,a1P];refine wpS_cond (t:=true) (by simp [Act.eval]) ?_;simp only[if_true];apply wpS_region;simp [wpOpsS,go_sem,recoverD,hu,ntmps66,a1P,h4,z4,h5,z5];simp [bodyPostS,results,Tryz.results66]
def asX{w:Z}(h:res w) :
  LV bby res R [{ target:=.fn (.func 66) #[tv,vv],args:=#[]++#[] }] .returning w:=by
 refine Cj zk zs ((aSH tv vv w).mono ?_);rintro e a w' ⟨rfl,rfl,rfl⟩;exact h
def aSJ{w:Z}(a:w.heap[pb]?=aN #[o4] 108)
  (d:w.heap[cap]?=aN #[o5] 57) (f:pb≠cap)
  (h:res (bS (bS w pb (ae #[aq V] 108)) cap (ae #[aj 73 v] 57))) :
  LV bby res R [{ target:=.fn (.func 66) #[pp pb,pp cap],args:=#[]++#[] }]
   (.panicking [{ v:=aj 73 v,recovered:=false }]) w:=by
 have b:w.setCell ⟨pb,0,V⟩ (aq V)=bS w pb (ae #[aq V] 108):=vq a _;have c:(bS w pb (ae #[aq V] 108)).heap[cap]?=aN #[o5] 57:=by
  exact yH
 refine Cj zk zs ((aSI pb cap o4 o5 v [] w (by grind [World.cell?]) (jX a 0) (by grind [World.cell?]) (by grind [jX])).mono ?_);rintro e g w' ⟨rfl,rfl,rfl⟩;rw[b,vq c];exact h
section
variable{p0 p1 p2 p3 p4 p5 p6 p7:Y}{w:Z}{R:Ending->Z->Prop}
def aSK:=cz w R [p0,p1] (gc [] [] []) func67
end
def Ce(e:Bs):List Bs->List Bs
 | []=>[]
 | [l]=>[l]
 | l::m::ls=>(l++e)::Ce e (m::ls)
theorem asY:∀ (l:List Bs),Ce [] l=l
 | []=>rfl
 | [_]=>rfl
 | l::m::ls=>by rw[Ce,asY (m::ls),List.append_nil]
theorem aie(c:UInt8):∀ (s:Bs),gU c s≠[]
 | []=>by simp [gU]
 | x::r=>by
  unfold gU;split
  .simp
  .split<;>simp
def VU(c:UInt8):∀ (s:Bs),(a3Z s [c]=-1/\gU c s=[s]/\s.count c=0)\/∃ i:Nat,a3Z s [c]=(i:Int)/\i<s.length/\gU c s=s.take i::gU c (s.drop (i+1))/\s.take (i+1)=s.take i++[c]/\(s.drop (i+1)).count c+1=s.count c
 | []=>.inl ⟨J,J,J⟩
 | x::r=>by
  by_cases hx:c=x
  .refine .inr ⟨0,?_,zs,?_,zg,zg⟩
   .unfold a3Z;grind
   .conv=>lhs;unfold gU
    grind
  .have g:¬ x=c:=zg;have h:a3Z (x::r) [c]=if a3Z r [c] == -1 then -1 else a3Z r [c]+1:=by
    conv=>lhs;unfold a3Z
    grind
   have b:gU c (x::r)=match gU c r with
    | []=>[[x]]
    | l::ls=>(x::l)::ls:=by
    conv=>lhs;unfold gU
    grind
   rcases VU c r with⟨d,e,a⟩| ⟨i,d,e,a,f,j⟩
   .grind
   .refine .inr ⟨i+1,?_,by simp;omega,by rw[b,a];rfl,by simp [f],?_⟩<;>grind
def aif(c:UInt8)(save:Nat)(d:save<=1):∀ (k:Nat) (s:Bs),s.count c<=k->Go.Lib.splitK [c] save k s=Ce ([c].take save) (gU c s)
 | 0,s,h=>by
  rcases VU c s with⟨-,a,-⟩| ⟨i,-,-,-,-,e⟩
  .rw[a];rfl
  omega
 | k+1,s,h=>by
  unfold Go.Lib.splitK;rcases VU c s with⟨b,a,-⟩| ⟨i,b,a,f,g,e⟩
  .rw[b,a];rfl
  .have:((i:Int) == -1)=false:=by
    grind
   rw[b,this,f];simp only[Bool.false_eq_true,if_false,Int.toNat_natCast,a1Q];rw[aif c save d k _ zo];have j:=aie c (s.drop (i+1));cases l:gU c (s.drop (i+1)) with
   | nil=>grind
   | cons m ls=>
    rw[Ce]
    congr 1
    match save,d with
    | 0,_=>simp
    | 1,_=>grind
theorem VV(c:UInt8)(s:Bs):(gU c s).length=s.count c+1:=by
 have key:∀ (k:Nat) (s:Bs),s.count c<=k->(gU c s).length=s.count c+1:=by
  intro k;induction k with
  | zero=>
   intro s h;rcases VU c s with⟨-,b,a⟩| ⟨i,-,-,-,-,d⟩<;>grind
  | succ k ih=>
   intro s h;rcases VU c s with⟨-,b,a⟩| ⟨i,-,-,a,-,d⟩<;>grind
 exact key _ s (a1c _)
theorem asZ(e:Bs):∀ (l:List Bs),(Ce e l).length=l.length
 | []=>rfl
 | [_]=>rfl
 | l::m::ls=>by rw[Ce,List.length_cons,asZ e (m::ls)];rfl
def as0{L:List ByteArray}(h:L.map (·.data.toList)=vars):L.map a1u=vars.map fun s=>aT s:=by
 subst h;rw[List.map_map];apply List.map_congr_left;grind
def Gp(w:Z):Prop:=∃ m,w.cell? ⟨5,0,V⟩=O (zi m)
theorem Gp.ext{w w':Z}(h:Gp w)(a:Ext w w'):Gp w':=by
 obtain⟨m,b⟩:=h;exact⟨m,(by grind [Ng,bB.ext])⟩
abbrev aih(l:List Bs):Obj:=ae (l.map fun s=>a1u (bs s)).toArray 9 (0,0)
def aSL(s:Bs)(c:UInt8)(w:Z)(h:s.length<=1000000)(d:Gp w):Calls bby 69 #[aT s,aT [c]] w fun e w'=>e = ah (.slice (O ⟨w.heap.size,0,V⟩) (gU c s).length (gU c s).length)/\w'=w.alloc (aih (gU c s)):=by
 obtain⟨m,hm⟩:=d;have i:(bs s).size<=1000000:=by show s.toArray.size<=_;omega
 have j:(bs [c]).size=1:=rfl;have f:(bs s).data.toList=s:=zg;have g:(bs [c]).data.toList=[c]:=rfl;have a:Go.Lib.countB (bs s) (bs [c])=s.count c:=by
  grind [Go.Lib.count,Go.Lib.count_one,Lib.count_one]
 have b:=Go.Lib.splitB_data (bs [c]) 0 (s.count c) (bs s);rw[f,g,aif c 0 zo _ s (a1c _)] at b;have b:(a4C (bs [c]) 0 (s.count c) (bs s)).map (·.data.toList)=gU c s:=by grind [asY]
 refine(Tryz.strings_Split (bs s) (bs [c]) m w zo hm zo).mono ?_;rintro e w' ⟨rfl,rfl⟩;rw[a,VV,as0 b];exact yH
def aSM(s:Bs)(c:UInt8)(w:Z)(i:s.length<=1000000)(b:Gp w):Calls bby 67 #[aT s,aT [c]] w fun e w'=>e = ah (.slice (O ⟨w.heap.size,0,V⟩) (gU c s).length (gU c s).length)/\w'=w.alloc (aih (Ce [c] (gU c s))):=by
 obtain⟨m,hm⟩:=b;have j:(bs s).size=s.length:=by show s.toArray.size=_;simp
 have k:(bs [c]).size=1:=rfl;have d:(bs s).data.toList=s:=zg;have f:(bs [c]).data.toList=[c]:=rfl;have g:Go.Lib.countB (bs s) (bs [c])=s.count c:=by
  grind [Go.Lib.count,Go.Lib.count_one,Lib.count_one]
 have hle:s.count c<=s.length:=List.count_le_length;have a:=Go.Lib.splitB_data (bs [c]) 1 (s.count c) (bs s);rw[d,f,aif c 1 zo _ s (a1c _)] at a;have a:(a4C (bs [c]) 1 (s.count c) (bs s)).map (·.data.toList)=Ce [c] (gU c s):=a;have hlen:(a4C (bs [c]) 1 (s.count c) (bs s)).length=s.count c+1:=by
  have:=congrArg List.length a;grind [List.length_map,asZ,VV]
 refine aSK ?_;refine bG ?_;refine(Tryz.strings_genSplit (bs s) (bs [c]) 1 (-1) (s.count c+1) m w zo hm zo zo zo zo zo).mono ?_;rintro e w' ⟨rfl,rfl⟩;rw[Nat.add_sub_cancel];have h:Go.Lib.cellsOf (a4C (bs [c]) 1 (s.count c) (bs s)) (s.count c+1)=((a4C (bs [c]) 1 (s.count c) (bs s)).map a1u).toArray:=by grind [Go.Lib.cellsOf_full,Lib.cellsOf_full]
 rw[h,as0 a,hlen,VV];exact⟨J,J⟩
def as3(s:Bs)(c:UInt8)(w:Z)(a:s.length<=1000000):Calls bby 68 #[aT s,aT [c]] w fun e w'=>e = ah (ak #[aT (a4q s [c]),.bool (a29 s [c])])/\w'=w:=by
 have b:(bs s).size<=1000000:=by show s.toArray.size<=_;omega
 refine(Tryz.strings_CutSuffix (bs s) (bs [c]) w zo).mono ?_;grind
theorem aSN(l:Bs)(c:UInt8):a4q (l++[c]) [c]=l/\a29 (l++[c]) [c]=true:=by
 have h:a29 (l++[c]) [c]=true:=by
  unfold a29;grind
 refine⟨?_,h⟩;unfold a4q;rw[zip h];simp
theorem aSO{l:Bs}{c:UInt8}(h:c ∉ l):a29 l [c]=false:=by
 cases a:a29 l [c] with
 | false=>rfl
 | true=>
  unfold a29 at a;rw[List.isSuffixOf_iff_suffix] at a;obtain⟨t,ht⟩:=a;grind
theorem as4:∀ {l l':List (Bs×Y)} {i:Nat},pj l i=pj l' i->l=l'
 | [],[],_,_=>rfl
 | [],(_,_)::_,_,h=>by grind [pj]
 | (_,_)::_,[],_,h=>by grind [pj]
 | (s,v)::l,(s',v')::l',i,h=>by
  simp only[pj,List.cons.injEq,MapEntry.mk.injEq,Value.string.injEq] at h;obtain⟨⟨a,b,-⟩,c⟩:=h;rw[as4 c,b,show s=s' from by simpa [bs] using a]
theorem aSP{l l':List (Bs×Y)}(h:eO l=eO l'):l=l':=by
 grind [eO,as4]
abbrev wu(pb:Nat)(ask:Y)(told:Int):Obj:=ae #[.map (O pb),ask,zi told] 187 (0,0)
abbrev ptr(b:Nat):Y:=pp b
inductive mB(base:Nat)(w:Z)(kb pb:Nat):Bs->Y->Pv->Prop
 | zero (hk:w.heap[kb]?=O (wu pb (aq V) 0)) (hm:w.heap[pb]?=O (eO [])):mB base w kb pb [] (aq V) ⟨[],G,V⟩
 | pred {l:List (Bs×Y)} {D:List Pd} {v:Y} {name:Bs} {ar pl:Nat} {C:List Co} {cbs:List Nat} (hk:w.heap[kb]?=O (wu pb (aq V) 0)) (hm:w.heap[pb]?=O (eO (l++[(P.keyOf name ar,v)])))
  (hu:fO (P.keyOf name ar) l 0=V) (lp:ar<80) (hD:qC w pl w.heap.size l D) (hr:w.ownsRow pl 185 1 v C.length (Kb cbs)) (hv:∃ b,v.ownBlock=O b) (hC:yP w w.heap.size cbs C) (kg:base<=pl) :
  mB base w kb pb (P.keyOf name ar) (aq V) ⟨D++[⟨name,ar,C⟩],G,V⟩
 | cl {l:List (Bs×Y)} {D:List Pd} {v:Y} {name:Bs} {ar pl ol ab:Nat} {C:List Co} {cbs:List Nat} {insv:Y} {vs:List Y} {c:Co} (hk:w.heap[kb]?=O (wu pb (aq V) 0)) (hm:w.heap[pb]?=O (eO (l++[(P.keyOf name ar,v)])))
  (hu:fO (P.keyOf name ar) l 0=V) (lp:ar<80) (hD:qC w pl ol l D) (hr:w.ownsRow pl 185 1 v (C.length+1) (Kb (cbs++[ab]))) (hv:∃ b,v.ownBlock=O b) (hC:yP w ol cbs C) (pw:ol<=w.heap.size) (hO:qU w ol ab insv vs c) (kg:base<=pl) (fg:base<=ol) :
  mB base w kb pb (P.keyOf name ar) (ptr ab) ⟨D++[⟨name,ar,C++[c]⟩],A,V⟩
 | ask {l:List (Bs×Y)} {D:List Pd} {key:Bs} {ol ab told:Nat} {insv:Y} {vs:List Y} {c:Co} (hk:w.heap[kb]?=O (wu pb (ptr ab) (told:Int))) (hm:w.heap[pb]?=O (eO l)) (hD:qC w ol ol l D) (pw:ol<=w.heap.size) (hO:qU w ol ab insv vs c) (fg:base<=ol) :
  mB base w kb pb key (ptr ab) ⟨D,A,O (c,told)⟩
section
variable{base:Nat}{w w':Z}{kb pb:Nat}{key:Bs}{at_:Y}{p:Pv}
def as5{pl pb:Nat}{q:Pd}{cbs:List Nat}(hr:w.ownsRow pl 185 1 v q.clauses.length (Kb cbs))(hv:∃ b,v.ownBlock=O b)(hC:yP w pb cbs q.clauses):yQ w w.heap.size pb v q:=by
 obtain⟨b,hv⟩:=hv;rcases hr.2 with⟨a,-⟩| ⟨g,cap,cur,a,-,c,d,e,f,h⟩
 .rw[a] at hv;cases hv
 .exact⟨g,cap,cur,cbs,a,d,yH,c,zg,hC⟩
def mB.close(h:mB base w kb pb key at_ p):∃ l,w.heap[pb]?=O (eO l)/\qC w w.heap.size w.heap.size l p.dO:=by
 cases h with
 | zero hk hm=>exact⟨_,hm,trivial⟩
 | pred hk hm hu lp hD hr hv hC kg=>
  refine⟨_,hm,qC.snoc (q:=⟨_,_,_⟩) lp (as5 (q:=⟨_,_,_⟩) hr hv hC) (hD.map fun v q h=>h.mono ?_ zo)⟩;rcases hr.2 with⟨a,-⟩| ⟨g,cap,cur,a,c,d,-⟩
  .obtain⟨b,hv⟩:=hv;rw[a] at hv;cases hv
  exact yH
 | cl hk hm hu lp hD hr hv hC pw hO kg fg=>
  refine⟨_,hm,qC.snoc (q:=⟨_,_,_⟩) lp (as5 (q:=⟨_,_,_⟩) (by simpa using hr) hv ((hC.mono pw).snoc hO.done)) (hD.map fun v q h=>h.mono ?_ pw)⟩;rcases hr.2 with⟨a,-⟩| ⟨g,cap,cur,a,c,d,-⟩
  .obtain⟨b,hv⟩:=hv;rw[a] at hv;cases hv
  exact yH
 | ask hk hm hD pw hO fg=>exact⟨_,hm,hD.map fun v q h=>h.mono pw pw⟩
def mB.code(h:mB base w kb pb key at_ p):match p.ask with
  | none=>w.heap[kb]?=O (wu pb (aq V) 0)
  | some (_,n)=>∃ ab,at_=ptr ab/\w.heap[kb]?=O (wu pb (ptr ab) (n:Int)):=by
 cases h with
 | zero hk hm=>omega
 | pred hk hm hu lp hD hr hv hC kg=>omega
 | cl hk hm hu lp hD hr hv hC pw hO kg fg=>omega
 | ask hk hm hD pw hO fg=>exact yH
theorem Kept.eo{a:Nat}(b:Ext w w'):Kept w w' a:=(by grind [bB.ext])
theorem qU.ext{lo ab:Nat}{insv:Y}{vs:List Y}{c:Co}(h:qU w lo ab insv vs c)(a:Ext w w'):qU w' lo ab insv vs c:=⟨a.ext _ _ h.cell,h.low,jY a.ext h.row,h.ins.bK (by grind [bB.ext])⟩
theorem mB.ext(h:mB base w kb pb key at_ p)(a:Ext w w'):mB base w' kb pb key at_ p:=by
 have b:=a.size;cases h with
 | zero hk hm=>exact .zero (a.ext _ _ hk) (a.ext _ _ hm)
 | pred hk hm hu lp hD hr hv hC kg=>exact .pred (a.ext _ _ hk) (a.ext _ _ hm) hu lp (hD.map fun v q h=>(h.bK (.eo a) fun _ _ _ c=>a.ext _ _ c).mono zo b) (jY a.ext hr) hv ((hC.bK (.eo a)).mono b) kg
 | cl hk hm hu lp hD hr hv hC pw hO kg fg=>exact .cl (a.ext _ _ hk) (a.ext _ _ hm) hu lp (by grind [qC.map,yQ.bK,Kept.eo,bB.ext]) (jY a.ext hr) hv (hC.bK (.eo a)) zo (hO.ext a) kg fg
 | ask hk hm hD pw hO fg=>exact .ask (a.ext _ _ hk) (a.ext _ _ hm) (by grind [qC.map,yQ.bK,Kept.eo,bB.ext]) zo (hO.ext a) fg
def mB.aSQ(h:mB base w kb pb key at_ p)(g:p.ask=V){name:Bs}{l:List (Bs×Y)}(lp:cap<80)(c:w.heap[pb]?=O (eO l))(i:fO (P.keyOf name cap) l 0=V)
  (d:bB (fun b _=>b=pb) w w') (j:w'.heap[k']?=aN #[] 185) (k:w.heap.size<=k') (a:base<=w.heap.size) (hm:w'.heap[pb]?=O (eO (l++[(P.keyOf name cap,cV k' 0 0)]))) :
  mB base w' kb pb (P.keyOf name cap) (aq V) ⟨p.dO++[⟨name,cap,[]⟩],G,V⟩:=by
 obtain⟨l',m,n⟩:=h.close;rw[c] at m;have o:=h.code;rw[g] at o;have r:l'=l:=by
  grind [aSP]
 subst r;have s:=d.size;have f:∀ (b:Nat) (T:Nat) (cs:Array Y),w.heap[b]?=aN cs T->w'.heap[b]?=aN cs T:=fun b T cs a=>d.block _ _ a fun e=>by
  rw[e,c] at a;cases a
 refine .pred (l:=l') (pl:=w.heap.size) (C:=[]) (cbs:=[]) yH hm i lp (n.map fun v q t=>((t.bK (fun b T cs _ _ a=>f b T cs a) fun b cs _ a=>f b _ cs a).mono zo s)) ?_ ⟨k',J⟩ ⟨J,yH⟩ a;exact⟨J,.inr ⟨k',0,#[],J,k,j,a1c _,a1q _,J,J⟩⟩
end
section
variable{base:Nat}{w w':Z}{kb pb:Nat}{key:Bs}{at_:Y}{p:Pv}
def as6{pb size:Nat}(hr:w.ownsRow pb e size v n xs)(hv:∃ b,v.ownBlock=O b):pb<=w.heap.size:=by
 obtain⟨b,hv⟩:=hv;obtain⟨a,c,-⟩:=EW hr hv;omega
def mB.aSR(a:base<=w.heap.size)(h:mB base w kb pb key at_ p)(j:p.ask=V)(u:p.dO≠[]):∃ l v cbs pl q D,p.dO=D++[q]/\key=P.keyOf q.name q.arity/\w.heap[pb]?=O (eO (l++[(key,v)]))/\fO key l 0=V/\w.ownsRow pl 185 1 v q.clauses.length (Kb cbs)/\pl<=w.heap.size/\base<=pl /\
  ∀ w' v' cb slots,bB (fun b o=>b=pb\/(pl<=b/\∃ cs,o = ae cs 185 (0,0))) w w'->w'.heap[pb]?=O (eO (l++[(key,v')]))->w'.ownsRow pl 185 1 v' (q.clauses.length+1) (Kb cbs++[ptr cb])->(∃ b,v'.ownBlock=O b) ->
   w'.heap[cb]?=aN #[zi ((slots:Nat):Int),bX] 196->w.heap.size<=cb->mB base w' kb pb key (ptr cb) ⟨D++[⟨q.name,q.arity,q.clauses++[⟨slots,[]⟩]⟩],A,V⟩:=by
 have d:=h.code;rw[j] at d;have d:w.heap[kb]?=O (wu pb (aq V) 0):=d;have f:∀ {l:List (Bs×Y)} {D:List Pd} {v:Y} {name:Bs} {ar pl:Nat} {C:List Co} {cbs:List Nat},w.heap[pb]?=O (eO (l++[(P.keyOf name ar,v)]))->fO (P.keyOf name ar) l 0=V->ar<80->qC w pl w.heap.size l D->yP w w.heap.size cbs C->base<=pl ->
   ∀ w' v' cb slots,bB (fun b o=>b=pb\/(pl<=b/\∃ cs,o = ae cs 185 (0,0))) w w'->w'.heap[pb]?=O (eO (l++[(P.keyOf name ar,v')]))->w'.ownsRow pl 185 1 v' (C.length+1) (Kb cbs++[ptr cb])->(∃ b,v'.ownBlock=O b) ->
   w'.heap[cb]?=aN #[zi ((slots:Nat):Int),bX] 196->w.heap.size<=cb->mB base w' kb pb (P.keyOf name ar) (ptr cb) ⟨D++[⟨name,ar,C++[⟨slots,[]⟩]⟩],A,V⟩:=by
  intro l D v name ar pl C cbs hm hu lp hD hC kg w' v' cb slots g k x m n r;have y:∀ (b:Nat) (T:Nat) (cs:Array Y),b<pl\/T≠185->w.heap[b]?=aN cs T->w'.heap[b]?=aN cs T:=fun b T cs z a=>g.block _ _ a (by
   rintro (e | ⟨i,cs',B⟩)
   .rw[e,hm] at a;cases a
   grind)
  have s:∀ t,Kept w w' t:=zg;refine .cl (ol:=w.heap.size) (c:=⟨slots,[]⟩) (vs:=[]) yH k hu lp (by grind [qC.map,yQ.bK]) ?_ m (hC.bK (s _)) g.size ⟨n,r,a1A _ _ _ _,J⟩ kg a;grind
 cases h with
 | zero hk hm=>exact yH
 | pred hk hm hu lp hD hr hv hC kg=>exact⟨_,_,_,_,_,_,J,J,hm,hu,hr,as6 hr hv,kg,yH⟩
 | @cl l D v name ar pl ol ab C cbs insv vs c hk hm hu lp hD hr hv hC pw hO kg fg=>
  have i:=f hm hu lp (hD.map fun v q h=>h.mono zo pw) ((hC.mono pw).snoc hO.done) kg;exact⟨_,_,cbs++[ab],_,⟨name,ar,C++[c]⟩,_,J,J,hm,hu,zg,as6 hr hv,kg,i⟩
 | ask hk hm hD pw hO fg=>grind
def mB.aST(i:base<=w.heap.size)(h:mB base w kb pb key at_ p){slots:Nat}(g:bB (fun b _=>b=kb) w w')(hk:w'.heap[kb]?=O (wu pb (ptr cap) (told:Int)))(j:w'.heap[cap]?=aN #[zi (slots:Int),bX] 196)(k:w.heap.size<=cap)(d:∃ a n,w.heap[kb]?=O (wu pb a n)) :
  mB base w' kb pb key (ptr cap) ⟨p.dO,A,O (⟨slots,[]⟩,told)⟩:=by
 obtain⟨l,f,o⟩:=h.close;obtain⟨a0,q,d⟩:=d;have r:∀ (b:Nat) (T:Nat) (cs:Array Y),T≠187->w.heap[b]?=aN cs T->w'.heap[b]?=aN cs T:=(by grind [bB.block]);have s:∀ m,Kept w w' m:=zg;refine .ask (l:=l) (ol:=w.heap.size) (c:=⟨slots,[]⟩) (vs:=[]) hk (g.block _ _ f ?_) (by grind [qC.map,yQ.bK]) g.size ⟨j,k,a1A _ _ _ _,J⟩ i;intro e;rw[e,d] at f;cases f
def mB.aSU(h:mB base w kb pb key at_ p)(x:at_≠aq V):∃ ab ol insv vs c,at_=ptr ab/\p.cur=O c/\qU w ol ab insv vs c/\ol<=w.heap.size/\base<=ol /\
  ∀ w' a l0 i,bB (fun b o=>b=ab\/(ol<=b/\∃ cs,o = ae cs 198 (0,0))) w w'->w'.heap[ab]?=aN #[zi (c.slots:Int),a] 196->w'.ownsRow ol 198 4 a (c.ins.length+1) (vs++l0)->wq w' l0 [i]->mB base w' kb pb key (ptr ab) (p.add i):=by
 have main:∀ {ab ol:Nat} {insv:Y} {vs:List Y} {c:Co},qU w ol ab insv vs c->∀ w' a l0 i,bB (fun b o=>b=ab\/(ol<=b/\∃ cs,o = ae cs 198 (0,0))) w w'->w'.heap[ab]?=aN #[zi (c.slots:Int),a] 196->w'.ownsRow ol 198 4 a (c.ins.length+1) (vs++l0)->wq w' l0 [i] ->
   qU w' ol ab a (vs++l0) { c with ins:=c.ins++[i] }/\(∀ (b:Nat) (T:Nat) (cs:Array Y),b<ol\/(T≠198/\T≠196)->w.heap[b]?=aN cs T->w'.heap[b]?=aN cs T)/\(∀ (b:Nat) (l:List (Bs×Y)),w.heap[b]?=O (eO l)->w'.heap[b]?=O (eO l)):=by
  intro ab ol insv vs c hO w' a l0 i d g hr j;have r:∀ (b:Nat) (T:Nat) (cs:Array Y),b<ol\/(T≠198/\T≠196)->w.heap[b]?=aN cs T->w'.heap[b]?=aN cs T:=fun b T cs s f=>d.block _ _ f (by
   rintro (e | ⟨t,cs',n⟩)
   .rcases s with h | h
    .have:=hO.low;omega
    .rw[e,hO.cell] at f;grind
   grind)
  refine⟨⟨g,hO.low,zg,(hO.ins.bK yH).snoc j⟩,r,fun b l f=>d.block _ _ f ?_⟩;rintro (e | ⟨t,cs',n⟩)
  .rw[e,hO.cell] at f;cases f
  .cases n
 cases h with
 | zero hk hm=>exact yH
 | pred hk hm hu lp hD hr hv hC kg=>exact yH
 | @cl l D v name ar pl ol ab C cbs insv vs c hk hm hu lp hD hr hv hC pw hO kg fg=>
  refine⟨_,_,_,_,_,J,?_,hO,pw,fg,fun w' a l0 i d g k j=>?_⟩
  .show(if A=A then pf.Qj (D++[⟨name,ar,C++[c]⟩]) else V)=O c;rw[zip rfl];grind [pf.Qj,List.getLast?_concat]
  .obtain⟨g1,g2,g3⟩:=main hO w' a l0 i d g k j;have m:Kept w w' ol:=zg;have e:(Pv.mk (D++[⟨name,ar,C++[c]⟩]) A V).add i=⟨D++[⟨name,ar,C++[{ c with ins:=c.ins++[i] }]⟩],A,V⟩:=by
    grind [Pv.add,an6,aI8]
   rw[e];exact .cl yH yH hu lp (by grind [qC.map,yQ.bK]) (by grind [Gl]) hv (hC.bK m) (Nat.le_trans pw d.size) g1 kg fg
 | @ask l D key ol ab told insv vs c hk hm hD pw hO fg=>
  refine⟨_,_,_,_,_,J,J,hO,pw,fg,fun w' a l0 i d g k j=>?_⟩;obtain⟨g1,g2,g3⟩:=main hO w' a l0 i d g k j;have m:Kept w w' ol:=zg;exact .ask (g2 _ _ _ (.inr ⟨zd,zd⟩) hk) (g3 _ _ hm) (hD.map fun v q h=>h.bK m fun b cs _ u=>g2 b _ cs (.inr ⟨zd,zd⟩) u) (Nat.le_trans pw d.size) g1 fg
def mB.done(h:mB base w kb pb key at_ p){c:Co}{n:Nat}(a:p.ask=O (c,n)):∃ ab,yJ w kb pb ab n p.dO/\F5 w ab c:=by
 cases h with
 | zero hk hm=>grind
 | pred hk hm hu lp hD hr hv hC kg=>grind
 | cl hk hm hu lp hD hr hv hC pw hO kg fg=>grind
 | @ask l D key ol ab told insv vs b hk hm hD pw hO fg=>
  have a:O (b,told)=O (c,n):=a;cases a;exact⟨ab,⟨hk,hD.aSF hm⟩,hO.done.coM⟩
end
