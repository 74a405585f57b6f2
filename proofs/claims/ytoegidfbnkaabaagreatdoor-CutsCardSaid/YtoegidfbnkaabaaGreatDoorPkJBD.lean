/- A part of one proof (VP6, VP7, ShX4c, VP8, ShX4e, VP9, VP10, VP11). -/
import Derived.Test.YtoegidfbnkaabaaGreatDoorPkJBC
set_option linter.all false
set_option maxRecDepth 100000
set_option maxHeartbeats 8000000
open Option renaming some → O, none → V
open Go renaming Value → Y, World → Z
open Bool renaming true → A, false → G
open Go.Obj renaming cells → ae
open Go.Ending renaming returned → ah
open Go.Value renaming nilIface → ai, iface → aj, tuple → ak, pointer → aq
open Go.Calls renaming mono → aZJ
open Nat renaming le_refl → aZK, zero_le → aZY
open List renaming drop_eq_getElem_cons → aZP, length_singleton → a0p, drop_of_length_le → a1t, getElem?_concat_length → a3g
open Go.Value renaming string → aZ1
open Go.World renaming ownsRow_nil → aZ8
open Go.Exit renaming thenS → a0o
open UInt8 renaming toNat_inj → a0z
open Go.Lib renaming hasSuffix → a1v, index → a2m, trimSuffix → a2L, splitB → a2Z
open Go.Proofs.Tryz renaming prog → a9O
open Go.Proofs.Tryz
namespace Go.Proofs.YtoegidfbnkaabaaGreatDoor
open P
open Go.RowKit Sx
variable{R:Ending->Z->Prop}{base cap cb e k' n pb so told wb xb:Nat}{cs:Array Y}{o4 o5 tv v vv:Y}{res:Z->Prop}{vars:List Bs}{vs xs:List Y}{w:Z}{wd:Bs}
def arx{size:Nat}{o:Obj}(h:w.ownsRow base e size v n xs)(hx:xb<base):(bO w xb o).ownsRow base e size v n xs:=by
 refine⟨h.1,?_⟩;rcases h.2 with r | ⟨g,cap,cur,a,b,d,c⟩
 .exact yH
 .exact .inr ⟨g,cap,cur,a,b,yH,c⟩
def ary(slots:Nat)(ws:List Bs)(k:Int)(w:Z)(e:Ending)(w':Z):Prop:=Ext w w'/\match uV slots ws with
 | some i=>∃ cv sv,e = ah (.agg #[.string (bs i.word),.string (bs i.name),cv,sv])/\xO cv i.const/\w'.ownsRow w.heap.size 3 1 sv i.s.length (um i.s)
 | none=>mN 5 k w w' e
def aQQ{ws:List Bs}{slots:Nat}{insv:Y}{k:Int}(hw:w.heap[wb]?=O (ae ((wd::ws).map fun s=>aZ1 (bs s)).toArray 9 (0,0)))
  (hc:w.heap[cb]?=aM #[zi (slots:Int),insv] 196) (iH:slots<=100000) (hlen:ws.length<=100000) (GZ:∀ s∈wd::ws,s.length<=1000000) (hT:Bx w) (hP:lH w) :
  Calls a9O 74 #[cR wb (ws.length+1) (ws.length+1),pp cb,zi k] w (ary slots (wd::ws) k w):=by
 suffices H:∀ R:Ending->Z->Prop,(∀ e w',ary slots (wd::ws) k w e w'->R e w')->Calls a9O 74 #[cR wb (ws.length+1) (ws.length+1),pp cb,zi k] w R from H _ zg;intro R hR;have lw:=bg hw;have lc:=bg hc;have xX:∀ w2,Ext w w2->uV slots (wd::ws)=V->∀ e w3,Ext w2 w3->mN 5 k w2 w3 e->∃ b,e = .panicked [{ v:=aj 73 (pp b),recovered:=false }]/\R e w3:=fun w2 dS hu e w3 eD hf=>by
  have C8:=hf;obtain⟨b,rfl,T,h3⟩:=C8;exact⟨b,J,hR _ _ ⟨yF,by rw[hu];exact hf.ext dS⟩⟩
 have CG:∀ w2,Ext w w2->uV slots (wd::ws)=V->∀ K:Y->Z->Prop,Calls a9O 70 #[zi k] w2 (ends K (PC R)):=fun w2 dS hu K=>by
  refine(UM k w2).mono ?_;rintro e w3 ⟨eD,hf⟩;obtain⟨b,rfl,h⟩:=xX w2 dS hu e w3 eD hf;exact h
 obtain⟨cs,jI⟩:=cd (((wd::ws).map fun s=>aZ1 (bs s)).toArray);have arz:cs[0]?=O (aT wd):=zg;have ag1:∀ q,(hq:q<ws.length)->cs[q+1]?=O (aT (ws[q])):=zg;rw[<- jI] at hw;refine aQM ?_;refine du hw arz ?_;obtain⟨w2,jR⟩:=cd (bO ((w.alloc (ae #[aT [],aT [],ai,bV] 198 (0,0))).alloc (ae #[aT [],aT [],ai,bV] 198 (0,0))) (w.heap.size+1) (ae (oF #[aZ1 (bs []),aT [],ai,bV] 0 (Value.agg #[aT wd,aT [],ai,bV]).cells.toList) 198 (0,0)));rw[<- jR];have dS:Ext w w2:=yF;have r2:w2.heap[w.heap.size]?=aM #[aT [],aT [],ai,bV] 198:=yH;have x2:w2.heap[w.heap.size+1]?=aM #[aT wd,aT [],ai,bV] 198:=by rw[jR];exact pS J (yH)
 clear jR;obtain⟨rb,KX⟩:=cd w.heap.size;obtain⟨xb,tM⟩:=cd (w.heap.size+1);rw[<- KX] at r2;rw[<- tM] at x2;have dC:Ext w2 w2.drew:=yF;have lR:(w.alloc (ae #[aT [],aT [],ai,bV] 198 (0,0))).heap.size=xb:=yH;rw[lR,<- KX];refine⟨fun w'=>Ext w2 w',dC,?_⟩;have jR:=dS.ext _ _ hw;refine cO (pp wb) (fun w' j=>by have f:=j.ext _ _ jR;have:=bg f;exact fa f) ?_;refine cO (aT wd) (fun w' j=>by have f:=j.ext _ _ jR;have:=bg f;exact lP f arz) ?_;refine aZJ (apU w2.drew) ?_;rintro e w5 ⟨ud,sm,sl,rfl,hsm,UA,agy⟩;have KC:Ext w2 w5:=yF;have G5:=dS.trans KC;refine⟨KC,?_⟩;rw[KQ (k:=9) (e:=98) (z:=bV) zk zk zk UA.map wd A];have OU:=UA.find agy wd;cases hf:fL wd sl 0 with
 | none=>
  rw[hf] at OU;simp only;refine cO bV (fun w' j=>eR) ?_;refine cO (.bool G) (fun w' j=>eR) ?_;refine⟨fun _ _=>False,?_,by rintro _ _ h;exact h.elim⟩;refine bE ?_;exact CG w5 G5 (by grind [P.arw]) _
 | some p=>
  obtain⟨q0,YF⟩:=p;rw[hf] at OU;obtain⟨sh,rZ,QE⟩:=OU;simp only;refine cO YF (fun w' j=>eR) ?_;refine cO (.bool A) (fun w' j=>eR) ?_;refine⟨fun _ w'=>w'=w5,?_,?_⟩
  .exact eR
  rintro s0 N4 rfl d0;have Iw:uV slots (wd::ws)=match mC slots sh ws ⟨wd,[],V,[]⟩with
   | some (i,[])=>if ((wd=[109,97,107,101]\/wd=[115,112,108,105,116])/\i.s.length<2)\/(wd=ni/\jG i.name≠i.s.length) then V else O i
   | _=>none:=by grind [P.arw]
  have aPH:sh.length<=3:=aqT rZ;have agz:∀ x∈sh,x=115\/x=112\/x=99\/x=110\/x=42:=by
   rcases Pb rZ with⟨-,rfl⟩| ⟨-,rfl⟩| ⟨-,rfl⟩| ⟨-,rfl⟩| ⟨-,rfl⟩| ⟨-,rfl⟩| ⟨-,rfl⟩<;>decide
  obtain⟨YG,shc,agA⟩:∃ a c,YF = .slice a sh.length c:=by
   rcases QE with⟨h1,T⟩| ⟨b,zz,-,h1,-⟩<;>grind
  subst agA;have h1i:(1:Int)<=((ws.length+1:Nat):Int):=zo;refine cH h1i ?_;obtain⟨off,aQS,aQT⟩:∃ off,sliced (O ⟨wb,0,V⟩) 1 (ws.length+1) (ws.length+1) 1 = .slice (O ⟨wb,off,V⟩) ws.length ws.length/\(0<ws.length->off=1):=by
   by_cases h:ws.length=0
   .exact⟨0,by grind [sliced],zo⟩
   .exact⟨1,by grind [abT],zg⟩
  rw[aQS];obtain⟨base,kV⟩:=cd N4.heap.size;have Th:=KC.size;have lx2:=bg x2;have tM:xb<base:=zo;have x5:=KC.ext _ _ x2;have r5:=KC.ext _ _ r2;have nZ:=G5.ext _ _ hw;have hc5:=G5.ext _ _ hc;have hlw:wb≠xb:=zo;have hlc:cb≠xb:=zo;have qF:∀ {b:Nat} {o:Obj} {w':Z},Lm base xb N4 w'->N4.heap[b]?=O o->b≠xb->w'.heap[b]?=O o:=(by grind [bg,bB.block]);have KB:∀ {w':Z},Lm base xb N4 w'->Ext w w':=fun{w'} hF=>⟨hF.os.trans G5.os,hF.tape.trans G5.tape,hF.output.trans G5.output,yH,(by grind [bg,bB.ext])⟩;have B4:∀ {a b c:Z},Lm base xb a b->Ext b c->Lm base xb a c:=yF;have aYM:∀ q,(hq:q<ws.length)->(ws[q]).length<=1000000:=zg;have xl:mC slots sh ws ⟨wd,[],V,[]⟩=V->uV slots (wd::ws)=none:=zg;refine⟨fun _ w'=>∃ i cv a c,Lm base xb N4 w'/\Ll base xb cv (.slice a i.s.length c) w' i/\i.word=wd/\i.s.length<=200000 /\
   ((42∈sh/\mC slots sh ws ⟨wd,[],V,[]⟩=O (i,[]))\/(¬ 42∈sh/\sh.length<=ws.length/\mC slots sh ws ⟨wd,[],V,[]⟩=O (i,ws.drop sh.length))),?_,?_⟩
  .refine bE ?_;refine⟨fun m z w'=>∃ q i cv a c,z 35=zi ((q:Nat):Int)/\q<=sh.length/\q<=ws.length/\m=sh.length-q/\Lm base xb N4 w'/\Ll base xb cv (.slice a i.s.length c) w' i/\i.word=wd/\(∀ y∈sh.take q,y≠42)/\mC slots sh ws ⟨wd,[],V,[]⟩=mC slots (sh.drop q) (ws.drop q) i/\i.s.length<=q,
    ⟨_,0,⟨wd,[],V,[]⟩,ai,V,0,J,aZY _,aZY _,J,bB.refl _ _,⟨x5,J,aZ8 _ _ _ _⟩,J,zs,J,aZK _⟩,?_⟩
   intro m z d w6 hI;refine toPr ?_;obtain⟨q,i,cv,a,c,Q,hq,hqw,rfl,N,C,S,vy,n,QK⟩:=hI;have j5:=KB N;have oP:=qF N nZ hlw;have I7:=qF N hc5 hlc;have Ha:=hT.ext j5;have uK:=hP.ext j5;have xW:((q:Nat):Int).toNat=q:=zo;by_cases UB:q<sh.length
   .have qR:((q:Nat):Int)<(sh.length:Int):=zo;obtain⟨shb,shz,mn,G9⟩:∃ b z,YG=O ⟨b,0,V⟩/\w6.heap[b]?=O (ae (tX sh).toArray 5 z):=by
     rcases QE with⟨h1,-⟩| ⟨b,zz,-,h1,-,T⟩<;>grind
    subst mn;obtain⟨x,Yp⟩:=cd (sh[q]);have jy:(tX sh).toArray[q]?=O (.int .u8 (x.toNat:Int)):=zg;have NZ:sh.drop q=x::sh.drop (q+1):=by grind [aZP]
    have BW:x∈sh:=zg;obtain⟨B,hB⟩:=cd ((tX sh).toArray);rw[<- hB] at G9 jy;rw[NZ,P.aQP] at n;have p8:=agz x BW;by_cases QG:x=42
    .have U:(x.toNat:Int)=42:=by rw[QG];rfl
     rw[zip QG] at n;refine dH Q qR G9 (zA jy (zA @xW U)) ?_;obtain⟨aYN,aQV,aQW⟩:∃ o,sliced (O ⟨wb,off,V⟩) q ws.length ws.length 1 = .slice (O ⟨wb,o,V⟩) (ws.length-q) (ws.length-q)/\(q<ws.length->o=q+1):=by
      by_cases h:ws.length=q
      .exact⟨off,by unfold sliced;grind,zo⟩
      .exact⟨q+1,by grind [abT],zg⟩
     rw[xW,aQV];refine bE ?_;refine⟨fun m z w'=>∃ p i' cv a c,z 46=zi ((p:Nat):Int)/\p<=ws.length-q/\m=ws.length-q-p/\Lm base xb N4 w'/\Ll base xb cv (.slice a i'.s.length c) w' i'/\i'.word=wd/\i'.s.length<=q+p /\
      mC slots sh ws ⟨wd,[],V,[]⟩=match xC slots (ws.drop (q+p)) with
       | some l=>O ({ i' with s:=i'.s++l },[])
       | none=>V,⟨_,0,i,cv,a,c,J,aZY _,J,N,C,S,QK,n⟩,?_⟩
     clear n C S QK N j5 oP I7 Ha uK G9;intro m z2 d2 w8 hI;refine toPr ?_;obtain⟨p,i,cv,a,c,Dl,hp,rfl,I9,hX8,S,QK,n⟩:=hI;have vl:=KB I9;have Lj:=qF I9 nZ hlw;have hc8:=qF I9 hc5 hlc;have hx8:=hX8.cell;have lx8:=bg hx8;have epn:((p:Nat):Int).toNat=p:=zo;by_cases jS:p<ws.length-q
     .have yP:((p:Nat):Int)<((ws.length-q:Nat):Int):=zo;have hqp:q+p<ws.length:=zo;have ns:cs[q+1+p]?=O (aT (ws[q+p])):=zg;have arD:Ext w8 w8.drew:=yF;rw[aZP hqp] at n;rw[aQW zo];refine dH Dl yP Lj (zA ns @epn) ?_;refine⟨fun w'=>Ext w8 w',arD,?_⟩;refine cO (pq xb 3) (fun w' j=>by have f:=j.ext _ _ hx8;have:=bg f;exact fa f) ?_;refine cO (.slice a i.s.length c) (fun w' j=>by have f:=j.ext _ _ hx8;have:=bg f;exact fa f) ?_;refine cO (pp cb) (fun w' j=>by have f:=j.ext _ _ hc8;have:=bg f;exact fa f) ?_;refine cO (zi (slots:Int)) (fun w' j=>by have f:=j.ext _ _ hc8;have:=bg f;exact fa f) ?_;refine aZJ (N2 ws[q+p] slots k w8.drew zg iH (by grind [Bx.ext]) (by grind [lH.ext])) ?_;rintro e W ⟨D,hu⟩;cases F:j6 ws[q+p] slots with
      | none=>
       rw[F] at hu;have hn:xC slots (ws[q+p]::ws.drop (q+p+1))=none:=by unfold xC;rw[F]
       rw[hn] at n;obtain⟨b,rfl,h⟩:=xX w8.drew yF zg e W D hu;exact fun _=>h
      | some s=>
       rw[F] at hu;subst hu;have ag4:=arD.trans D;have ke:=B4 I9 ag4;refine⟨ag4,?_⟩;refine bE ?_;refine⟨yF,?_⟩;refine agZ (hX8.ext ag4) (by rw[kV];exact ke.size) tM zo s fun a' n' c' jg UO Aw uM=>?_;refine du UO Dl ?_;have Dk:xC slots (ws[q+p]::ws.drop (q+p+1))=match xC slots (ws.drop (q+p+1)) with
        | some l=>O (s::l)
        | none=>none:=by
        conv=>lhs;unfold xC
        rw[F];cases xC slots (ws.drop (q+p+1))<;>rfl
       obtain⟨a2,c2,jU⟩:=gV Aw.row;cases jU;refine⟨_,?_,p+1,_,cv,a',c',J,zo,J,ke.trans uM,Aw,S,zg,?_⟩
       .omega
       .rw[n,Dk,show q+(p+1)=q+p+1 from rfl];grind [xC]
     .have yP:¬ ((p:Nat):Int)<((ws.length-q:Nat):Int):=zo;refine du Dl yP ?_;rw[a1t zo] at n;have n:mC slots sh ws ⟨wd,[],V,[]⟩=O (i,[]):=by rw[n];simp [xC]
      grind
    .have U:¬ (x.toNat:Int)=42:=fun e=>QG (a0z.1 zg);rw[bZ QG] at n;refine dH Q qR G9 (zA jy (zA @xW U)) ?_;refine⟨fun _ w'=>w'=w6/\q<ws.length,?_,?_⟩
     .by_cases arE:q<ws.length
      .have ed:¬ ((q:Nat):Int)=(ws.length:Int):=zo;refine du Q ed ?_;omega
      .have D4:((q:Nat):Int)=(ws.length:Int):=zo;rw[a1t zo] at n;refine du Q D4 ?_;exact CG w6 j5 zg _
     .rintro s2 I ⟨rfl,arE⟩ d2;have YX:((q:Nat):Int)<(ws.length:Int):=zo;have ns:cs[1+q]?=O (aT (ws[q])):=zg;have Ln:Ext I I.drew:=yF;have E:=C.cell;have lx6:=bg E;have iX:=C.con.cases;have YY:∀ y∈sh.take (q+1),y≠42:=zg;rw[aZP arE] at n;simp only at n;rw[aQT zo];by_cases QF:x=115
      .have U:(x.toNat:Int)=115:=by rw[QF];rfl
       rw[zip QF] at n;refine cH U ?_;refine⟨fun w'=>Ext I w',Ln,?_⟩;refine cO (pq xb 3) (fun w' j=>by have f:=j.ext _ _ E;have:=bg f;exact fa f) ?_;refine cO (.slice a i.s.length c) (fun w' j=>by have f:=j.ext _ _ E;have:=bg f;exact fa f) ?_;refine cO (pq wb (1+q)) (fun w' j=>by have f:=j.ext _ _ oP;have:=bg f;exact AK f Q YX @xW) ?_;refine cO (aT (ws[q])) (fun w' j=>by have f:=j.ext _ _ oP;have:=bg f;exact lP f ns) ?_;refine cO (pp cb) (fun w' j=>by have f:=j.ext _ _ I7;have:=bg f;exact fa f) ?_;refine cO (zi (slots:Int)) (fun w' j=>by have f:=j.ext _ _ I7;have:=bg f;exact fa f) ?_;refine aZJ (N2 ws[q] slots k I.drew zg iH (Ha.ext Ln) (uK.ext Ln)) ?_;rintro e W ⟨D,hu⟩;cases F:j6 ws[q] slots with
       | none=>
        rw[F] at hu n;obtain⟨b,rfl,h⟩:=xX I.drew yF zg e W D hu;exact fun _=>h
       | some s=>
        rw[F] at hu n;subst hu;have sk:=Ln.trans D;have ke:=B4 N sk;refine⟨sk,?_⟩;refine bE ?_;refine⟨yF,?_⟩;refine agZ (C.ext sk) (by rw[kV];exact ke.size) tM zo s fun a' n' c' jg UO Aw uM=>?_;refine du UO Q ?_;obtain⟨a2,c2,jU⟩:=gV Aw.row;cases jU;refine⟨_,?_,q+1,_,cv,a',c',J,zo,zo,J,ke.trans uM,Aw,S,YY,n,zg⟩;omega
      .rw[bZ QF] at n;have ag5:¬ (x.toNat:Int)=115:=fun e=>QF (a0z.1 zg);by_cases uY:x=99
       .have U:(x.toNat:Int)=99:=by rw[uY];rfl
        rw[zip uY] at n;refine dH ag5 U oP (zA ns (zA Q (zA YX @xW))) ?_;refine aZJ (aQN ws[q] k I zg Ha uK) ?_;rintro e W ⟨D,hu⟩;cases F:DG ws[q] with
        | none=>
         rw[F] at hu n;obtain⟨b,rfl,h⟩:=xX I j5 zg e W D hu;exact h
        | some t=>
         rw[F] at hu n;obtain⟨Xz,rfl,QD⟩:=hu;obtain⟨t1,u1,rfl⟩:∃ t u,Xz = aj t u:=by
          rcases QD.cases with rfl | h
          .cases t<;>(first | exact QD.elim | exact absurd QD (by intro h;cases h))
          omega
         have wi:=D.ext _ _ E;have lx9:=bg wi;refine du wi Q ?_;refine⟨_,?_,q+1,{ i with const:=O t },aj t1 u1,a,c,J,zo,zo,J,(B4 N D).bO yH,⟨yH,QD,?_⟩,S,YY,n,Nat.le_succ_of_le QK⟩
         .omega
         .exact arx (jJ D.ext C.row) tM
       .rw[bZ uY] at n;have UC:¬ (x.toNat:Int)=99:=fun e=>uY (a0z.1 zg);by_cases Ap:x=110
        .have U:(x.toNat:Int)=110:=by rw[Ap];rfl
         rw[zip Ap] at n;refine dH ag5 UC U (zA oP (zA ns (zA Q (zA YX @xW)))) ?_;refine aZJ (agX ws[q] k I zg) ?_;rintro e W ⟨D,hu⟩;cases F:px ws[q] with
         | none=>
          rw[F] at hu n;obtain⟨b,rfl,h⟩:=xX I j5 zg e W D hu;exact h
         | some t=>
          rw[F] at hu n;subst hu;have wi:=D.ext _ _ E;have lx9:=bg wi;refine du wi Q ?_;refine⟨_,?_,q+1,{ i with name:=t },cv,a,c,J,zo,zo,J,(B4 N D).bO yH,⟨yH,C.con,?_⟩,S,YY,n,Nat.le_succ_of_le QK⟩
          .omega
          .exact arx (jJ D.ext C.row) tM
        .rw[bZ Ap] at n;have agG:¬ (x.toNat:Int)=110:=fun e=>Ap (a0z.1 zg);have agF:x=112:=by
          grind
         have U:(x.toNat:Int)=112:=by rw[agF];rfl
         refine dH ag5 UC agG U ?_;refine⟨fun w'=>Ext I w',Ln,?_⟩;refine cO (pq xb 3) (fun w' j=>by have f:=j.ext _ _ E;have:=bg f;exact fa f) ?_;refine cO (.slice a i.s.length c) (fun w' j=>by have f:=j.ext _ _ E;have:=bg f;exact fa f) ?_;refine cO (pq wb (1+q)) (fun w' j=>by have f:=j.ext _ _ oP;have:=bg f;exact AK f Q YX @xW) ?_;refine cO (aT (ws[q])) (fun w' j=>by have f:=j.ext _ _ oP;have:=bg f;exact lP f ns) ?_;refine aZJ (N2 ws[q] 10000 k I.drew zg zo (Ha.ext Ln) (uK.ext Ln)) ?_;rintro e W ⟨D,hu⟩;cases F:j6 ws[q] 10000 with
         | none=>
          rw[F] at hu n;obtain⟨b,rfl,h⟩:=xX I.drew yF zg e W D hu;exact fun _=>h
         | some s=>
          rw[F] at hu n;subst hu;have sk:=Ln.trans D;have ke:=B4 N sk;refine⟨sk,?_⟩;refine bE ?_;refine⟨yF,?_⟩;refine agZ (C.ext sk) (by rw[kV];exact ke.size) tM zo s fun a' n' c' jg UO Aw uM=>?_;refine du UO Q ?_;obtain⟨a2,c2,jU⟩:=gV Aw.row;cases jU;refine⟨_,?_,q+1,_,cv,a',c',J,zo,zo,J,ke.trans uM,Aw,S,YY,n,zg⟩;omega
   .have qR:¬ ((q:Nat):Int)<(sh.length:Int):=zo;have D4:q=sh.length:=zo;refine du Q qR ?_;subst D4;rw[List.drop_length,List.take_length] at *;exact⟨i,cv,a,c,N,C,S,zo,.inr ⟨zg,hqw,n⟩⟩
  .rintro s6 w6 ⟨i,cv,a,c,N,C,S,QK,As⟩ d6;have j5:=KB N;have y5:Ext w6 w6.drew:=yF;have hX7:=C.ext y5;have L:=hX7.cell;have lx7:=bg L;rw[S] at L;have aQ0:IZ w6 sm (.slice YG sh.length shc) sh:=by
    rcases QE with h | ⟨b,zz,h1,T,h3,h4⟩
    .exact .inl h
    .refine .inr ⟨b,zz,h1,T,h3,qF N h4 ?_⟩;grind
   refine aZJ (aQO aQ0 42 zo) ?_;rintro e I ⟨rfl,rfl⟩;have kK:∀ rest,mC slots sh ws ⟨wd,[],V,[]⟩=O (i,rest)->(rest=[]->uV slots (wd::ws)=if ((wd=[109,97,107,101]\/wd=[115,112,108,105,116])/\i.s.length<2)\/(wd=ni/\jG i.name≠i.s.length) then V else O i)/\(rest≠[]->uV slots (wd::ws)=V):=zg;have S1:(42∈sh\/ws.length=sh.length)->uV slots (wd::ws)=if ((wd=[109,97,107,101]\/wd=[115,112,108,105,116])/\i.s.length<2)\/(wd=ni/\jG i.name≠i.s.length) then V else O i:=zg
   refine⟨fun _ w'=>w'=I.drew/\uV slots (wd::ws)=O i,?_,?_⟩
   .refine⟨fun z w'=>w'=I.drew/\∃ b,z 159 = .bool b/\(b=A->uV slots (wd::ws)=V)/\(b=G->uV slots (wd::ws)=O i),?_,?_⟩
    .refine⟨fun w'=>Ext I w',y5,?_⟩;by_cases aQ1:sh.contains 42=G/\¬ ws.length=sh.length
     .obtain⟨M,ed⟩:=aQ1;have aQ2:¬ (ws.length:Int)=(sh.length:Int):=zo;refine cH M ?_;refine cO (zi (ws.length:Int)) (fun w' j=>eR) ?_;refine cH aQ2 ?_;refine⟨A,J,fun _=>?_,zg⟩;rcases As with⟨h1,-⟩| ⟨h1,T,h3⟩
      .grind
      .refine(kK _ h3).2 (fun e=>?_);have:=congrArg List.length e;grind
     .have E:=C.cell;rw[S] at E;by_cases M:sh.contains 42=A
      .have Je:=S1 (.inl (by simpa using M));by_cases hm:wd=[109,97,107,101]\/wd=[115,112,108,105,116]
       .have hnt:¬ wd=[116,101,115,116]:=zg;have aQ3:¬ bs wd=bs [116,101,115,116]:=zg;by_cases T:i.s.length<2
        .have X:(i.s.length:Int)<2:=zo;rw[zip (.inl ⟨hm,T⟩)] at Je;rcases hm with rfl | rfl
         .refine iZ M L X ?_;grind
         .refine iZ M L X ?_;grind
        .have X:¬ (i.s.length:Int)<2:=zo;rw[bZ (by rintro (⟨-,h⟩| ⟨h,-⟩);exact T h;exact hnt h)] at Je;rcases hm with rfl | rfl
         .refine iZ M L X ?_;grind
         .refine iZ M L X ?_;grind
       .obtain⟨IM,nB⟩:=not_or.1 hm;by_cases ht:wd=[116,101,115,116]
        .subst ht;refine dH M L IM nB ?_;refine cO (pq xb 1) (fun w' j=>by have f:=j.ext _ _ E;have:=bg f;exact fa f) ?_;refine cO (aT i.name) (fun w' j=>by have f:=j.ext _ _ E;have:=bg f;exact fa f) ?_;refine cO (pq xb 3) (fun w' j=>by have f:=j.ext _ _ E;have:=bg f;exact fa f) ?_;refine cO (.slice a i.s.length c) (fun w' j=>by have f:=j.ext _ _ E;have:=bg f;exact fa f) ?_;refine cO (zi (i.s.length:Int)) (fun w' j=>eR) ?_;refine aZJ (Mq i.name) ?_;rintro e W ⟨rfl,rfl⟩;refine⟨y5,?_⟩;by_cases kH:jG i.name=(i.s.length:Int)
         .refine cH kH ?_;grind
         .refine cH kH ?_;refine⟨A,J,fun _=>?_,zg⟩;rw[Je,zip (.inr ⟨J,kH⟩)]
        .rw[bZ (by rintro (⟨h,-⟩| ⟨h,-⟩);exact hm h;exact ht h)] at Je;refine dH M L IM (zA nB ht) ?_;grind
      .have M:sh.contains 42=false:=zg;have hle:ws.length=sh.length:=zg;have QL:(ws.length:Int)=(sh.length:Int):=zo;have Je:=S1 (.inr hle);by_cases hm:wd=[109,97,107,101]\/wd=[115,112,108,105,116]
       .have hnt:¬ wd=[116,101,115,116]:=zg;have aQ3:¬ bs wd=bs [116,101,115,116]:=zg;by_cases T:i.s.length<2
        .have X:(i.s.length:Int)<2:=zo;rw[zip (.inl ⟨hm,T⟩)] at Je;rcases hm with rfl | rfl
         .refine cH M ?_;refine cO (zi (ws.length:Int)) (fun w' j=>eR) ?_;refine iZ QL L X ?_;grind
         .refine cH M ?_;refine cO (zi (ws.length:Int)) (fun w' j=>eR) ?_;refine iZ QL L X ?_;grind
        .have X:¬ (i.s.length:Int)<2:=zo;rw[bZ (by rintro (⟨-,h⟩| ⟨h,-⟩);exact T h;exact hnt h)] at Je;rcases hm with rfl | rfl
         .refine cH M ?_;refine cO (zi (ws.length:Int)) (fun w' j=>eR) ?_;refine iZ QL L X ?_;grind
         .refine cH M ?_;refine cO (zi (ws.length:Int)) (fun w' j=>eR) ?_;refine iZ QL L X ?_;grind
       .obtain⟨IM,nB⟩:=not_or.1 hm;by_cases ht:wd=[116,101,115,116]
        .subst ht;refine cH M ?_;refine cO (zi (ws.length:Int)) (fun w' j=>eR) ?_;refine dH QL L IM nB ?_;refine cO (pq xb 1) (fun w' j=>by have f:=j.ext _ _ E;have:=bg f;exact fa f) ?_;refine cO (aT i.name) (fun w' j=>by have f:=j.ext _ _ E;have:=bg f;exact fa f) ?_;refine cO (pq xb 3) (fun w' j=>by have f:=j.ext _ _ E;have:=bg f;exact fa f) ?_;refine cO (.slice a i.s.length c) (fun w' j=>by have f:=j.ext _ _ E;have:=bg f;exact fa f) ?_;refine cO (zi (i.s.length:Int)) (fun w' j=>eR) ?_;refine aZJ (Mq i.name) ?_;rintro e W ⟨rfl,rfl⟩;refine⟨y5,?_⟩;by_cases kH:jG i.name=(i.s.length:Int)
         .refine cH kH ?_;grind
         .refine cH kH ?_;refine⟨A,J,fun _=>?_,zg⟩;rw[Je,zip (.inr ⟨J,kH⟩)]
        .rw[bZ (by rintro (⟨h,-⟩| ⟨h,-⟩);exact hm h;exact ht h)] at Je;refine cH M ?_;refine cO (zi (ws.length:Int)) (fun w' j=>eR) ?_;refine dH QL L IM (zA nB ht) ?_;grind
    .rintro z w8 ⟨rfl,b,hz,iS,fh⟩ dd;rw[hz];cases b with
     | true=>
      refine bE ?_;exact CG _ yF (iS J) _
     | false=>
      refine bE ?_;grind
   .rintro z w8 ⟨rfl,hi⟩ dd;have hr8:=(qF N r5 zo);have N0:=y5.ext _ _ hr8;have lr9:=bg N0;have iX:=C.con.cases;rcases iX with rfl | ⟨t1,u1,rfl⟩
    .refine du L N0 ?_;refine hR _ _ ⟨yF,?_⟩;rw[hi];refine⟨ai,.slice a i.s.length c,zg,C.con,?_⟩;have dR:=jJ y5.ext C.row;refine⟨dR.1,?_⟩;rcases dR.2 with r | ⟨g,cap,cur,g1,g2,g3,g4⟩
     .exact yH
     .exact .inr ⟨g,cap,cur,g1,zo,yH,g4⟩
    .refine du L N0 ?_;refine hR _ _ ⟨yF,?_⟩;rw[hi];refine⟨aj t1 u1,.slice a i.s.length c,zg,C.con,?_⟩;have dR:=jJ y5.ext C.row;refine⟨dR.1,?_⟩;rcases dR.2 with r | ⟨g,cap,cur,g1,g2,g3,g4⟩
     .exact yH
     .exact .inr ⟨g,cap,cur,g1,zo,yH,g4⟩
def vq(w:Z):List Y->List P.In->Prop
 | vs,[]=>vs=[]
 | vs,i::r=>∃ cv sv rest,vs=[.string (bs i.word),.string (bs i.name),cv,sv]++rest/\xO cv i.const/\fK (fun _=>True) w 3 sv (um i.s)/\vq w rest r
theorem vq.bH{w w':Z}(hk:∀ (b:Nat) (cs:Array Y),w.heap[b]?=aM cs 3->w'.heap[b]?=aM cs 3):∀ {l:List P.In} {vs:List Y},vq w vs l->vq w' vs l
 | [],_,h=>h
 | _::_,_,⟨cv,sv,rest,a,c,d,e⟩=>⟨cv,sv,rest,a,c,d.mono zg yH,vq.bH hk e⟩
def vq.snoc{w:Z}{i:P.In}{l0:List Y}:∀ {l:List P.In} {vs:List Y},vq w vs l->vq w l0 [i]->vq w (vs++l0) (l++[i])
 | [],vs,a,b=>by subst a;grind
 | x::r,vs,⟨cv,sv,rest,a,c,d,e⟩,b=>⟨cv,sv,rest++l0,zg,c,d,vq.snoc e b⟩
theorem vq.at{w:Z}:∀ {l:List P.In} {vs:List Y} {j:Nat} {i:P.In},vq w vs l->l[j]?=O i->∃ cv sv,vs[j*4]?=O (aT i.word)/\vs[j*4+1]?=O (aT i.name)/\vs[j*4+2]?=O cv/\vs[j*4+3]?=O sv/\xO cv i.const/\fK (fun _=>True) w 3 sv (um i.s)
 | x::r,vs,0,i,⟨cv,sv,rest,e,b,c,d⟩,a=>by
  have a:x=i:=zg;subst a;exact⟨cv,sv,zg,zg,zg,zg,b,c⟩
 | x::r,vs,j+1,i,⟨cv,sv,rest,e,b,c,d⟩,a=>by
  obtain⟨g,f,g1,g2,g3,g4,g5,g6⟩:=vq.at d (by simpa using a);grind
def CP(w:Z)(a cb:Nat)(c:Co):Prop:=cb<a/\∃ insv vs,w.heap[cb]?=aM #[zi (c.slots:Int),insv] 196/\w.ownsRow 0 198 4 insv c.ins.length vs/\(∀ b,insv.ownBlock=O b->b<a)/\vq w vs c.ins
structure qi(w:Z)(lo ab:Nat)(insv:Y)(vs:List Y)(c:Co):Prop where
 cell:w.heap[ab]?=aM #[zi ((c.slots:Nat):Int),insv] 196
 low:lo<=ab
 row:w.ownsRow lo 198 4 insv c.ins.length vs
 ins:vq w vs c.ins
def aQ5{size:Nat}(h:w.ownsRow pb e size v n xs)(c:k'<=pb):w.ownsRow k' e size v n xs:=by
 refine⟨h.1,?_⟩;rcases h.2 with r | ⟨g,cap,cur,a,d,b⟩
 .exact yH
 .exact .inr ⟨g,cap,cur,a,zo,b⟩
def qi.done{insv:Y}{c:Co}(h:qi w pb cap insv vs c):CP w w.heap.size cap c:=
 ⟨bg h.cell,insv,vs,h.cell,aQ5 h.row zo,fun _ a=>(Ea h.row a).2.1,h.ins⟩
theorem CP.mono{c:Co}(h:CP w pb cb c)(e:pb<=cap):CP w cap cb c:=by
 obtain⟨f,insv,vs,a,b,g,d⟩:=h;exact⟨zo,insv,vs,a,b,zg,d⟩
theorem CP.bH{w w':Z}{a cb:Nat}{c:Co}(h:CP w a cb c)(hk:∀ (b T:Nat) (cs:Array Y),b<a\/T=3->(T=3\/T=196\/T=198)->w.heap[b]?=aM cs T->w'.heap[b]?=aM cs T):CP w' a cb c:=by
 obtain⟨d,insv,vs,i,e,f,g⟩:=h;exact⟨d,insv,vs,yH,Fy e yH,f,g.bH yH⟩
def CP.coM{c:Co}(h:CP w pb cb c):Fj w cb c:=by
 obtain⟨l,insv,vs,b,d,m,e⟩:=h;refine⟨insv,b,?_⟩;rcases d.2 with⟨a,n⟩| ⟨g,cap,cur,a,-,f,p,q,r,s⟩
 .exact yH
 .refine .inr ⟨g,cap,cur,a,?_,f,?_,fun j i k=>?_⟩
  .omega
  .omega
  .obtain⟨cv,sv,g1,g2,g3,g4,g5,g6⟩:=e.at k;have t:∀ o,o<c.ins.length*4->cur[o]?=vs[o]?:=zg;exact⟨zg,zg,zg,zg⟩
abbrev Jf(l:List Nat):List Y:=l.map fun b=>pp b
def xY(w:Z)(a:Nat)(cbs:List Nat)(cs:List Co):Prop:=cbs.length=cs.length/\∀ (j:Nat) (c:Co),cs[j]?=O c->∃ cb,cbs[j]?=O cb/\CP w a cb c
def xY.snoc{cbs:List Nat}{cs:List Co}{c:Co}(h:xY w pb cbs cs)(f:CP w pb cb c):xY w pb (cbs++[cb]) (cs++[c]):=by
 refine⟨by simp [h.1],fun j x a=>?_⟩;by_cases g:j<cs.length
 .rw[List.getElem?_append_left g] at a;obtain⟨b,i,k⟩:=h.2 j x a;grind
 .have d:=(List.getElem?_eq_some_iff.1 a).1;rw[List.length_append,a0p] at d;have e:j=cs.length:=zo;subst e;rw[a3g] at a;cases a;exact⟨cb,by rw[<- h.1,a3g],f⟩
theorem xY.mono{w:Z}{a b:Nat}{cbs:List Nat}{cs:List Co}(h:xY w a cbs cs)(e:a<=b):xY w b cbs cs:=⟨h.1,fun j c d=>let ⟨cb,f,g⟩:=h.2 j c d;(by grind [CP.mono])⟩
abbrev Kept(w w':Z)(a:Nat):Prop:=∀ (b T:Nat) (cs:Array Y),b<a\/T=3->(T=3\/T=196\/T=198)->w.heap[b]?=O (ae cs T (0,0))->w'.heap[b]?=O (ae cs T (0,0))
theorem xY.bH{w w':Z}{a:Nat}{cbs:List Nat}{cs:List Co}(h:xY w a cbs cs)(hk:Kept w w' a):xY w' a cbs cs:=⟨h.1,fun j c b=>let ⟨cb,d,e⟩:=h.2 j c b;(by grind [CP.bH])⟩
theorem xY.aQ7{cbs:List Nat}{cs:List Co}(h:xY w pb cbs cs):Bk w (Jf cbs) cs:=
 ⟨by simp [h.1],fun j c a=>let ⟨cb,d,b⟩:=h.2 j c a;⟨cb,zg,b.coM⟩⟩
def xZ(w:Z)(a cl:Nat)(v:Y)(q:Pd):Prop:=∃ b cap row cbs,v = cR b q.clauses.length cap/\q.clauses.length<=cap/\b<a/\w.heap[b]?=aM row 185/\row.toList.take q.clauses.length=Jf cbs/\xY w cl cbs q.clauses
theorem xZ.mono{w:Z}{a c cl d:Nat}{v:Y}{q:Pd}(h:xZ w a cl v q)(f:a<=c)(e:cl<=d):xZ w c d v q:=by
 obtain⟨b,cap,row,cbs,g1,g2,g3,g4,g5,g6⟩:=h;exact⟨b,cap,row,cbs,g1,g2,zo,g4,g5,g6.mono e⟩
theorem xZ.bH{w w':Z}{a cl:Nat}{v:Y}{q:Pd}(h:xZ w a cl v q)(hk:Kept w w' cl)(hr:∀ (b:Nat) (cs:Array Y),b<a->w.heap[b]?=aM cs 185->w'.heap[b]?=aM cs 185):xZ w' a cl v q:=by
 obtain⟨b,cap,row,cbs,g1,g2,g3,g4,g5,g6⟩:=h;exact⟨b,cap,row,cbs,g1,g2,g3,yH,g5,g6.bH hk⟩
def pK(w:Z)(a cl:Nat):List (Bs×Y)->List Pd->Prop
 | [],[]=>True
 | (k,v)::l,q::D=>(k=P.keyOf q.name q.arity/\q.arity<80/\xZ w a cl v q)/\pK w a cl l D
 | _,_=>False
theorem pK.map{w w':Z}{a cl b c:Nat}(d:∀ v q,xZ w a cl v q->xZ w' b c v q):∀ {l:List (Bs×Y)} {D:List Pd},pK w a cl l D->pK w' b c l D
 | [],[],_=>trivial
 | (_,_)::_,_::_,⟨⟨e,f,g⟩,h⟩=>⟨zg,pK.map d h⟩
def pK.snoc{w:Z}{a cl:Nat}{v:Y}{q:Pd}(b:q.arity<80)(hv:xZ w a cl v q):∀ {l:List (Bs×Y)} {D:List Pd},pK w a cl l D->pK w a cl (l++[(P.keyOf q.name q.arity,v)]) (D++[q])
 | [],[],_=>⟨zg,trivial⟩
 | (_,_)::_,_::_,⟨c,h⟩=>⟨c,pK.snoc b hv h⟩
theorem pK.find{w:Z}{a cl:Nat}{name:Bs}{n:Nat}(b:n<80):∀ {l:List (Bs×Y)} {D:List Pd} {j:Nat},pK w a cl l D->match fL (P.keyOf name n) l j with
  | none=>D.find? (fun p=>p.name == name && p.arity == n)=V
  | some (_,v)=>∃ p,D.find? (fun p=>p.name == name && p.arity == n)=O p/\xZ w a cl v p
 | [],[],j,_=>rfl
 | (k,v)::l,q::D,j,⟨⟨c,d,e⟩,h⟩=>by
  have ih:=pK.find (name:=name) b (j:=j+1) h;rw[fL,List.find?_cons];by_cases hk:k=P.keyOf name n
  .rw[zip hk];obtain⟨f,g⟩:=(P.aee d b).1 (c.symm.trans hk);grind
  grind
def pK.aQ8{l:List (Bs×Y)}{D:List Pd}(h:pK w k' so l D)(hm:w.heap[pb]?=O (eI l)):TK w pb D:=by
 refine⟨l,hm,fun name n a=>?_⟩;have:=h.find (name:=name) a (j:=0);cases c:fL (P.keyOf name n) l 0 with
 | none=>
  exact yH
 | some d=>
  obtain⟨k,v⟩:=d;rw[c] at this;obtain⟨p,e,b,cap,row,cbs,g1,g2,g3,g4,g5,g6⟩:=this;grind [xY.aQ7]
open Go.Proofs.YtoegidfbnkaabaaGreatDoor.Sx
section
variable{p0 p1 p2 p3 p4 p5 p6 p7:Y}{w:Z}{R:Ending->Z->Prop}
def aQ9:=cy w R [p0] (gd [(12,[6,7,45])] [(6000,[36]),(7002,[4]),(17000,[85]),(18001,[]),(20000,[90]),(24002,[]),(26000,[131]),(29000,[166]),(36001,[])] [] [(21,[10,0,1,2,3,5,6,7,8,4,9,10,11]),(28,[15,0,1,2,3,4,5,6,7,8,9,10,11,12,13,14]),(31,[19,0,1,2,3,4,5,6,7,8,9,10,11,12,13,14,15,16,17,18]),(33,[14,0,1,2,3,4,5,6,7,8,9,10,11,12,13])] [] [] [11,15,19,35,36,46,54,59,82,83,84,85,90,98,99,119,120,131,143,144,166,174,175,200,202,221]) func34
end
def aRa(v4 v5:Y)(w:Z):CallsD a9O 66 #[v4,v5] .returning w fun e u' w'=>e = ah (ak #[])/\u' = .returning/\w'=w:=by
 refine callsD_of_wpS func66 J fun Ab cs hu=>?_;apply wpS_seq;apply wpS_region;simp [wpOpsS,go_sem,recoverD,hu,ntmps66,a0o,acf];apply wpS_seq;apply wpS_region;simp [wpOpsS,go_sem,recoverD,hu,ntmps66,a0o];refine wpS_cond (t:=false) (by simp [Act.eval]) ?_;simp only[Bool.false_eq_true,if_false];refine wpS_of_wp (wp_skip ?_);cases Ab;simp_all [bodyPostS,results,Tryz.results66]
def aRb(b4 b5:Nat)(o4 o5:Y)(v:Y)(xt:List PanicEntry)(w:Z)(h4:w.cell? ⟨b4,0,V⟩=O o4)(z4:w.frozen? ⟨b4,0,V⟩=G)
  (h5:(w.setCell ⟨b4,0,V⟩ (aq V)).cell? ⟨b5,0,V⟩=O o5) (z5:(w.setCell ⟨b4,0,V⟩ (aq V)).frozen? ⟨b5,0,V⟩=G) :
  CallsD a9O 66 #[pp b4,pp b5] (.panicking ({ v:=aj 73 v,recovered:=false }::xt)) w fun e u' w'=>
   e = ah (ak #[])/\u' = .panicking ({ v:=aj 73 v,recovered:=true }::xt)/\w'=(w.setCell ⟨b4,0,V⟩ (aq V)).setCell ⟨b5,0,V⟩ (aj 73 v):=by
 refine callsD_of_wpS func66 J fun Ab cs hu=>?_;apply wpS_seq;apply wpS_region;simp [wpOpsS,go_sem,recoverD,hu,ntmps66,a0o,acg];apply wpS_seq;apply wpS_region;simp [wpOpsS,go_sem,recoverD,hu,ntmps66,a0o];refine wpS_cond (t:=true) (by simp [Act.eval]) ?_;simp only[if_true];apply wpS_region;simp [wpOpsS,go_sem,recoverD,hu,ntmps66,a0o,h4,z4,h5,z5];simp [bodyPostS,results,Tryz.results66]
def arG(h:res w) :
  LV a9O res R [{ target:=.fn (.func 66) #[tv,vv],args:=#[]++#[] }] .returning w:=by
 refine BD zk zs ((aRa tv vv w).mono ?_);rintro e a w' ⟨rfl,rfl,rfl⟩;exact h
def aRc(a:w.heap[pb]?=aM #[o4] 108)
  (d:w.heap[cap]?=aM #[o5] 57) (f:pb≠cap)
  (h:res (bO (bO w pb (ae #[aq V] 108)) cap (ae #[aj 73 v] 57))) :
  LV a9O res R [{ target:=.fn (.func 66) #[pp pb,pp cap],args:=#[]++#[] }]
   (.panicking [{ v:=aj 73 v,recovered:=false }]) w:=by
 have b:w.setCell ⟨pb,0,V⟩ (aq V)=bO w pb (ae #[aq V] 108):=uD a _;have c:(bO w pb (ae #[aq V] 108)).heap[cap]?=aM #[o5] 57:=by
  exact yH
 refine BD zk zs ((aRb pb cap o4 o5 v [] w (by grind [World.cell?]) (jH a 0) (by grind [World.cell?]) (by grind [jH])).mono ?_);rintro e g w' ⟨rfl,rfl,rfl⟩;rw[b,uD c];exact h
section
variable{p0 p1 p2 p3 p4 p5 p6 p7:Y}{w:Z}{R:Ending->Z->Prop}
def aRd:=cz w R [p0,p1] (gc [] [] []) func67
end
def By(e:Bs):List Bs->List Bs
 | []=>[]
 | [l]=>[l]
 | l::m::ls=>(l++e)::By e (m::ls)
theorem arH:∀ (l:List Bs),By [] l=l
 | []=>rfl
 | [_]=>rfl
 | l::m::ls=>by rw[By,arH (m::ls),List.append_nil]
theorem ag7(c:UInt8):∀ (s:Bs),gN c s≠[]
 | []=>by simp [gN]
 | x::r=>by
  unfold gN;split
  .simp
  .split<;>simp
def UR(c:UInt8):∀ (s:Bs),(a2m s [c]=-1/\gN c s=[s]/\s.count c=0)\/∃ i:Nat,a2m s [c]=(i:Int)/\i<s.length/\gN c s=s.take i::gN c (s.drop (i+1))/\s.take (i+1)=s.take i++[c]/\(s.drop (i+1)).count c+1=s.count c
 | []=>.inl ⟨J,J,J⟩
 | x::r=>by
  by_cases hx:c=x
  .refine .inr ⟨0,?_,zs,?_,zg,zg⟩
   .unfold a2m;grind
   .conv=>lhs;unfold gN
    grind
  .have g:¬ x=c:=zg;have h:a2m (x::r) [c]=if a2m r [c] == -1 then -1 else a2m r [c]+1:=by
    conv=>lhs;unfold a2m
    grind
   have b:gN c (x::r)=match gN c r with
    | []=>[[x]]
    | l::ls=>(x::l)::ls:=by
    conv=>lhs;unfold gN
    grind
   rcases UR c r with⟨d,e,a⟩| ⟨i,d,e,a,f,j⟩
   .grind
   .refine .inr ⟨i+1,?_,by simp;omega,by rw[b,a];rfl,by simp [f],?_⟩<;>grind
def ag8(c:UInt8)(save:Nat)(d:save<=1):∀ (k:Nat) (s:Bs),s.count c<=k->Go.Lib.splitK [c] save k s=By ([c].take save) (gN c s)
 | 0,s,h=>by
  rcases UR c s with⟨-,a,-⟩| ⟨i,-,-,-,-,e⟩
  .rw[a];rfl
  omega
 | k+1,s,h=>by
  unfold Go.Lib.splitK;rcases UR c s with⟨b,a,-⟩| ⟨i,b,a,f,g,e⟩
  .rw[b,a];rfl
  .have:((i:Int) == -1)=false:=by
    grind
   rw[b,this,f];simp only[Bool.false_eq_true,if_false,Int.toNat_natCast,a0p];rw[ag8 c save d k _ zo];have j:=ag7 c (s.drop (i+1));cases l:gN c (s.drop (i+1)) with
   | nil=>grind
   | cons m ls=>
    rw[By]
    congr 1
    match save,d with
    | 0,_=>simp
    | 1,_=>grind
theorem US(c:UInt8)(s:Bs):(gN c s).length=s.count c+1:=by
 have key:∀ (k:Nat) (s:Bs),s.count c<=k->(gN c s).length=s.count c+1:=by
  intro k;induction k with
  | zero=>
   intro s h;rcases UR c s with⟨-,b,a⟩| ⟨i,-,-,-,-,d⟩<;>grind
  | succ k ih=>
   intro s h;rcases UR c s with⟨-,b,a⟩| ⟨i,-,-,a,-,d⟩<;>grind
 exact key _ s (aZK _)
theorem arI(e:Bs):∀ (l:List Bs),(By e l).length=l.length
 | []=>rfl
 | [_]=>rfl
 | l::m::ls=>by rw[By,List.length_cons,arI e (m::ls)];rfl
def arJ{L:List ByteArray}(h:L.map (·.data.toList)=vars):L.map aZ1=vars.map fun s=>aT s:=by
 subst h;rw[List.map_map];apply List.map_congr_left;grind
def FB(w:Z):Prop:=∃ m,w.cell? ⟨5,0,V⟩=O (zi m)
theorem FB.ext{w w':Z}(h:FB w)(a:Ext w w'):FB w':=by
 obtain⟨m,b⟩:=h;exact⟨m,(by grind [LX,bB.ext])⟩
abbrev ag9(l:List Bs):Obj:=ae (l.map fun s=>aZ1 (bs s)).toArray 9 (0,0)
def aRe(s:Bs)(c:UInt8)(w:Z)(h:s.length<=1000000)(d:FB w):Calls a9O 69 #[aT s,aT [c]] w fun e w'=>e = ah (.slice (O ⟨w.heap.size,0,V⟩) (gN c s).length (gN c s).length)/\w'=w.alloc (ag9 (gN c s)):=by
 obtain⟨m,hm⟩:=d;have i:(bs s).size<=1000000:=by show s.toArray.size<=_;omega
 have j:(bs [c]).size=1:=rfl;have f:(bs s).data.toList=s:=zg;have g:(bs [c]).data.toList=[c]:=rfl;have a:Go.Lib.countB (bs s) (bs [c])=s.count c:=by
  grind [Go.Lib.count,Go.Lib.count_one,Lib.count_one]
 have b:=Go.Lib.splitB_data (bs [c]) 0 (s.count c) (bs s);rw[f,g,ag8 c 0 zo _ s (aZK _)] at b;have b:(a2Z (bs [c]) 0 (s.count c) (bs s)).map (·.data.toList)=gN c s:=by grind [arH]
 refine(Tryz.strings_Split (bs s) (bs [c]) m w zo hm zo).mono ?_;rintro e w' ⟨rfl,rfl⟩;rw[a,US,arJ b];exact yH
def aRf(s:Bs)(c:UInt8)(w:Z)(i:s.length<=1000000)(b:FB w):Calls a9O 67 #[aT s,aT [c]] w fun e w'=>e = ah (.slice (O ⟨w.heap.size,0,V⟩) (gN c s).length (gN c s).length)/\w'=w.alloc (ag9 (By [c] (gN c s))):=by
 obtain⟨m,hm⟩:=b;have j:(bs s).size=s.length:=by show s.toArray.size=_;simp
 have k:(bs [c]).size=1:=rfl;have d:(bs s).data.toList=s:=zg;have f:(bs [c]).data.toList=[c]:=rfl;have g:Go.Lib.countB (bs s) (bs [c])=s.count c:=by
  grind [Go.Lib.count,Go.Lib.count_one,Lib.count_one]
 have hle:s.count c<=s.length:=List.count_le_length;have a:=Go.Lib.splitB_data (bs [c]) 1 (s.count c) (bs s);rw[d,f,ag8 c 1 zo _ s (aZK _)] at a;have a:(a2Z (bs [c]) 1 (s.count c) (bs s)).map (·.data.toList)=By [c] (gN c s):=a;have hlen:(a2Z (bs [c]) 1 (s.count c) (bs s)).length=s.count c+1:=by
  have:=congrArg List.length a;grind [List.length_map,arI,US]
 refine aRd ?_;refine bE ?_;refine(Tryz.strings_genSplit (bs s) (bs [c]) 1 (-1) (s.count c+1) m w zo hm zo zo zo zo zo).mono ?_;rintro e w' ⟨rfl,rfl⟩;rw[Nat.add_sub_cancel];have h:Go.Lib.cellsOf (a2Z (bs [c]) 1 (s.count c) (bs s)) (s.count c+1)=((a2Z (bs [c]) 1 (s.count c) (bs s)).map aZ1).toArray:=by grind [Go.Lib.cellsOf_full,Lib.cellsOf_full]
 rw[h,arJ a,hlen,US];exact⟨J,J⟩
def arL(s:Bs)(c:UInt8)(w:Z)(a:s.length<=1000000):Calls a9O 68 #[aT s,aT [c]] w fun e w'=>e = ah (ak #[aT (a2L s [c]),.bool (a1v s [c])])/\w'=w:=by
 have b:(bs s).size<=1000000:=by show s.toArray.size<=_;omega
 refine(Tryz.strings_CutSuffix (bs s) (bs [c]) w zo).mono ?_;grind
theorem aRg(l:Bs)(c:UInt8):a2L (l++[c]) [c]=l/\a1v (l++[c]) [c]=true:=by
 have h:a1v (l++[c]) [c]=true:=by
  unfold a1v;grind
 refine⟨?_,h⟩;unfold a2L;rw[zip h];simp
theorem aRh{l:Bs}{c:UInt8}(h:c ∉ l):a1v l [c]=false:=by
 cases a:a1v l [c] with
 | false=>rfl
 | true=>
  unfold a1v at a;rw[List.isSuffixOf_iff_suffix] at a;obtain⟨t,ht⟩:=a;grind
theorem arM:∀ {l l':List (Bs×Y)} {i:Nat},oA l i=oA l' i->l=l'
 | [],[],_,_=>rfl
 | [],(_,_)::_,_,h=>by grind [oA]
 | (_,_)::_,[],_,h=>by grind [oA]
 | (s,v)::l,(s',v')::l',i,h=>by
  simp only[oA,List.cons.injEq,MapEntry.mk.injEq,Value.string.injEq] at h;obtain⟨⟨a,b,-⟩,c⟩:=h;rw[arM c,b,show s=s' from by simpa [bs] using a]
theorem aRi{l l':List (Bs×Y)}(h:eI l=eI l'):l=l':=by
 grind [eI,arM]
abbrev vu(pb:Nat)(ask:Y)(told:Int):Obj:=ae #[.map (O pb),ask,zi told] 187 (0,0)
abbrev ptr(b:Nat):Y:=pp b
inductive lX(base:Nat)(w:Z)(kb pb:Nat):Bs->Y->Pv->Prop
 | zero (hk:w.heap[kb]?=O (vu pb (aq V) 0)) (hm:w.heap[pb]?=O (eI [])):lX base w kb pb [] (aq V) ⟨[],G,V⟩
 | pred {l:List (Bs×Y)} {D:List Pd} {v:Y} {name:Bs} {ar pl:Nat} {C:List Co} {cbs:List Nat} (hk:w.heap[kb]?=O (vu pb (aq V) 0)) (hm:w.heap[pb]?=O (eI (l++[(P.keyOf name ar,v)])))
  (hu:fL (P.keyOf name ar) l 0=V) (kL:ar<80) (hD:pK w pl w.heap.size l D) (hr:w.ownsRow pl 185 1 v C.length (Jf cbs)) (hv:∃ b,v.ownBlock=O b) (hC:xY w w.heap.size cbs C) (jS:base<=pl) :
  lX base w kb pb (P.keyOf name ar) (aq V) ⟨D++[⟨name,ar,C⟩],G,V⟩
 | cl {l:List (Bs×Y)} {D:List Pd} {v:Y} {name:Bs} {ar pl ol ab:Nat} {C:List Co} {cbs:List Nat} {insv:Y} {vs:List Y} {c:Co} (hk:w.heap[kb]?=O (vu pb (aq V) 0)) (hm:w.heap[pb]?=O (eI (l++[(P.keyOf name ar,v)])))
  (hu:fL (P.keyOf name ar) l 0=V) (kL:ar<80) (hD:pK w pl ol l D) (hr:w.ownsRow pl 185 1 v (C.length+1) (Jf (cbs++[ab]))) (hv:∃ b,v.ownBlock=O b) (hC:xY w ol cbs C) (oC:ol<=w.heap.size) (hO:qi w ol ab insv vs c) (jS:base<=pl) (eY:base<=ol) :
  lX base w kb pb (P.keyOf name ar) (ptr ab) ⟨D++[⟨name,ar,C++[c]⟩],A,V⟩
 | ask {l:List (Bs×Y)} {D:List Pd} {key:Bs} {ol ab told:Nat} {insv:Y} {vs:List Y} {c:Co} (hk:w.heap[kb]?=O (vu pb (ptr ab) (told:Int))) (hm:w.heap[pb]?=O (eI l)) (hD:pK w ol ol l D) (oC:ol<=w.heap.size) (hO:qi w ol ab insv vs c) (eY:base<=ol) :
  lX base w kb pb key (ptr ab) ⟨D,A,O (c,told)⟩
section
variable{base:Nat}{w w':Z}{kb pb:Nat}{key:Bs}{at_:Y}{p:Pv}
def arN{pl pb:Nat}{q:Pd}{cbs:List Nat}(hr:w.ownsRow pl 185 1 v q.clauses.length (Jf cbs))(hv:∃ b,v.ownBlock=O b)(hC:xY w pb cbs q.clauses):xZ w w.heap.size pb v q:=by
 obtain⟨b,hv⟩:=hv;rcases hr.2 with⟨a,-⟩| ⟨g,cap,cur,a,-,c,d,e,f,h⟩
 .rw[a] at hv;cases hv
 .exact⟨g,cap,cur,cbs,a,d,yH,c,zg,hC⟩
def lX.close(h:lX base w kb pb key at_ p):∃ l,w.heap[pb]?=O (eI l)/\pK w w.heap.size w.heap.size l p.dK:=by
 cases h with
 | zero hk hm=>exact⟨_,hm,trivial⟩
 | pred hk hm hu kL hD hr hv hC jS=>
  refine⟨_,hm,pK.snoc (q:=⟨_,_,_⟩) kL (arN (q:=⟨_,_,_⟩) hr hv hC) (hD.map fun v q h=>h.mono ?_ zo)⟩;rcases hr.2 with⟨a,-⟩| ⟨g,cap,cur,a,c,d,-⟩
  .obtain⟨b,hv⟩:=hv;rw[a] at hv;cases hv
  exact yH
 | cl hk hm hu kL hD hr hv hC oC hO jS eY=>
  refine⟨_,hm,pK.snoc (q:=⟨_,_,_⟩) kL (arN (q:=⟨_,_,_⟩) (by simpa using hr) hv ((hC.mono oC).snoc hO.done)) (hD.map fun v q h=>h.mono ?_ oC)⟩;rcases hr.2 with⟨a,-⟩| ⟨g,cap,cur,a,c,d,-⟩
  .obtain⟨b,hv⟩:=hv;rw[a] at hv;cases hv
  exact yH
 | ask hk hm hD oC hO eY=>exact⟨_,hm,hD.map fun v q h=>h.mono oC oC⟩
def lX.code(h:lX base w kb pb key at_ p):match p.ask with
  | none=>w.heap[kb]?=O (vu pb (aq V) 0)
  | some (_,n)=>∃ ab,at_=ptr ab/\w.heap[kb]?=O (vu pb (ptr ab) (n:Int)):=by
 cases h with
 | zero hk hm=>omega
 | pred hk hm hu kL hD hr hv hC jS=>omega
 | cl hk hm hu kL hD hr hv hC oC hO jS eY=>omega
 | ask hk hm hD oC hO eY=>exact yH
theorem Kept.dZ{a:Nat}(b:Ext w w'):Kept w w' a:=(by grind [bB.ext])
theorem qi.ext{lo ab:Nat}{insv:Y}{vs:List Y}{c:Co}(h:qi w lo ab insv vs c)(a:Ext w w'):qi w' lo ab insv vs c:=⟨a.ext _ _ h.cell,h.low,jJ a.ext h.row,h.ins.bH (by grind [bB.ext])⟩
theorem lX.ext(h:lX base w kb pb key at_ p)(a:Ext w w'):lX base w' kb pb key at_ p:=by
 have b:=a.size;cases h with
 | zero hk hm=>exact .zero (a.ext _ _ hk) (a.ext _ _ hm)
 | pred hk hm hu kL hD hr hv hC jS=>exact .pred (a.ext _ _ hk) (a.ext _ _ hm) hu kL (hD.map fun v q h=>(h.bH (.dZ a) fun _ _ _ c=>a.ext _ _ c).mono zo b) (jJ a.ext hr) hv ((hC.bH (.dZ a)).mono b) jS
 | cl hk hm hu kL hD hr hv hC oC hO jS eY=>exact .cl (a.ext _ _ hk) (a.ext _ _ hm) hu kL (by grind [pK.map,xZ.bH,Kept.dZ,bB.ext]) (jJ a.ext hr) hv (hC.bH (.dZ a)) zo (hO.ext a) jS eY
 | ask hk hm hD oC hO eY=>exact .ask (a.ext _ _ hk) (a.ext _ _ hm) (by grind [pK.map,xZ.bH,Kept.dZ,bB.ext]) zo (hO.ext a) eY
def lX.aRj(h:lX base w kb pb key at_ p)(g:p.ask=V){name:Bs}{l:List (Bs×Y)}(kL:cap<80)(c:w.heap[pb]?=O (eI l))(i:fL (P.keyOf name cap) l 0=V)
  (d:bB (fun b _=>b=pb) w w') (j:w'.heap[k']?=aM #[] 185) (k:w.heap.size<=k') (a:base<=w.heap.size) (hm:w'.heap[pb]?=O (eI (l++[(P.keyOf name cap,cR k' 0 0)]))) :
  lX base w' kb pb (P.keyOf name cap) (aq V) ⟨p.dK++[⟨name,cap,[]⟩],G,V⟩:=by
 obtain⟨l',m,n⟩:=h.close;rw[c] at m;have o:=h.code;rw[g] at o;have r:l'=l:=by
  grind [aRi]
 subst r;have s:=d.size;have f:∀ (b:Nat) (T:Nat) (cs:Array Y),w.heap[b]?=aM cs T->w'.heap[b]?=aM cs T:=fun b T cs a=>d.block _ _ a fun e=>by
  rw[e,c] at a;cases a
 refine .pred (l:=l') (pl:=w.heap.size) (C:=[]) (cbs:=[]) yH hm i kL (n.map fun v q t=>((t.bH (fun b T cs _ _ a=>f b T cs a) fun b cs _ a=>f b _ cs a).mono zo s)) ?_ ⟨k',J⟩ ⟨J,yH⟩ a;exact⟨J,.inr ⟨k',0,#[],J,k,j,aZK _,aZY _,J,J⟩⟩
end
section
variable{base:Nat}{w w':Z}{kb pb:Nat}{key:Bs}{at_:Y}{p:Pv}
def arO{pb size:Nat}(hr:w.ownsRow pb e size v n xs)(hv:∃ b,v.ownBlock=O b):pb<=w.heap.size:=by
 obtain⟨b,hv⟩:=hv;obtain⟨a,c,-⟩:=Ea hr hv;omega
def lX.aRk(a:base<=w.heap.size)(h:lX base w kb pb key at_ p)(j:p.ask=V)(u:p.dK≠[]):∃ l v cbs pl q D,p.dK=D++[q]/\key=P.keyOf q.name q.arity/\w.heap[pb]?=O (eI (l++[(key,v)]))/\fL key l 0=V/\w.ownsRow pl 185 1 v q.clauses.length (Jf cbs)/\pl<=w.heap.size/\base<=pl /\
  ∀ w' v' cb slots,bB (fun b o=>b=pb\/(pl<=b/\∃ cs,o = ae cs 185 (0,0))) w w'->w'.heap[pb]?=O (eI (l++[(key,v')]))->w'.ownsRow pl 185 1 v' (q.clauses.length+1) (Jf cbs++[ptr cb])->(∃ b,v'.ownBlock=O b) ->
   w'.heap[cb]?=aM #[zi ((slots:Nat):Int),bV] 196->w.heap.size<=cb->lX base w' kb pb key (ptr cb) ⟨D++[⟨q.name,q.arity,q.clauses++[⟨slots,[]⟩]⟩],A,V⟩:=by
 have d:=h.code;rw[j] at d;have d:w.heap[kb]?=O (vu pb (aq V) 0):=d;have f:∀ {l:List (Bs×Y)} {D:List Pd} {v:Y} {name:Bs} {ar pl:Nat} {C:List Co} {cbs:List Nat},w.heap[pb]?=O (eI (l++[(P.keyOf name ar,v)]))->fL (P.keyOf name ar) l 0=V->ar<80->pK w pl w.heap.size l D->xY w w.heap.size cbs C->base<=pl ->
   ∀ w' v' cb slots,bB (fun b o=>b=pb\/(pl<=b/\∃ cs,o = ae cs 185 (0,0))) w w'->w'.heap[pb]?=O (eI (l++[(P.keyOf name ar,v')]))->w'.ownsRow pl 185 1 v' (C.length+1) (Jf cbs++[ptr cb])->(∃ b,v'.ownBlock=O b) ->
   w'.heap[cb]?=aM #[zi ((slots:Nat):Int),bV] 196->w.heap.size<=cb->lX base w' kb pb (P.keyOf name ar) (ptr cb) ⟨D++[⟨name,ar,C++[⟨slots,[]⟩]⟩],A,V⟩:=by
  intro l D v name ar pl C cbs hm hu kL hD hC jS w' v' cb slots g k x m n r;have y:∀ (b:Nat) (T:Nat) (cs:Array Y),b<pl\/T≠185->w.heap[b]?=aM cs T->w'.heap[b]?=aM cs T:=fun b T cs z a=>g.block _ _ a (by
   rintro (e | ⟨i,cs',B⟩)
   .rw[e,hm] at a;cases a
   grind)
  have s:∀ t,Kept w w' t:=zg;refine .cl (ol:=w.heap.size) (c:=⟨slots,[]⟩) (vs:=[]) yH k hu kL (by grind [pK.map,xZ.bH]) ?_ m (hC.bH (s _)) g.size ⟨n,r,aZ8 _ _ _ _,J⟩ jS a;grind
 cases h with
 | zero hk hm=>exact yH
 | pred hk hm hu kL hD hr hv hC jS=>exact⟨_,_,_,_,_,_,J,J,hm,hu,hr,arO hr hv,jS,yH⟩
 | @cl l D v name ar pl ol ab C cbs insv vs c hk hm hu kL hD hr hv hC oC hO jS eY=>
  have i:=f hm hu kL (hD.map fun v q h=>h.mono zo oC) ((hC.mono oC).snoc hO.done) jS;exact⟨_,_,cbs++[ab],_,⟨name,ar,C++[c]⟩,_,J,J,hm,hu,zg,arO hr hv,jS,i⟩
 | ask hk hm hD oC hO eY=>grind
def lX.aRm(i:base<=w.heap.size)(h:lX base w kb pb key at_ p){slots:Nat}(g:bB (fun b _=>b=kb) w w')(hk:w'.heap[kb]?=O (vu pb (ptr cap) (told:Int)))(j:w'.heap[cap]?=aM #[zi (slots:Int),bV] 196)(k:w.heap.size<=cap)(d:∃ a n,w.heap[kb]?=O (vu pb a n)) :
  lX base w' kb pb key (ptr cap) ⟨p.dK,A,O (⟨slots,[]⟩,told)⟩:=by
 obtain⟨l,f,o⟩:=h.close;obtain⟨a0,q,d⟩:=d;have r:∀ (b:Nat) (T:Nat) (cs:Array Y),T≠187->w.heap[b]?=aM cs T->w'.heap[b]?=aM cs T:=(by grind [bB.block]);have s:∀ m,Kept w w' m:=zg;refine .ask (l:=l) (ol:=w.heap.size) (c:=⟨slots,[]⟩) (vs:=[]) hk (g.block _ _ f ?_) (by grind [pK.map,xZ.bH]) g.size ⟨j,k,aZ8 _ _ _ _,J⟩ i;intro e;rw[e,d] at f;cases f
def lX.aRn(h:lX base w kb pb key at_ p)(x:at_≠aq V):∃ ab ol insv vs c,at_=ptr ab/\p.cur=O c/\qi w ol ab insv vs c/\ol<=w.heap.size/\base<=ol /\
  ∀ w' a l0 i,bB (fun b o=>b=ab\/(ol<=b/\∃ cs,o = ae cs 198 (0,0))) w w'->w'.heap[ab]?=aM #[zi (c.slots:Int),a] 196->w'.ownsRow ol 198 4 a (c.ins.length+1) (vs++l0)->vq w' l0 [i]->lX base w' kb pb key (ptr ab) (p.add i):=by
 have main:∀ {ab ol:Nat} {insv:Y} {vs:List Y} {c:Co},qi w ol ab insv vs c->∀ w' a l0 i,bB (fun b o=>b=ab\/(ol<=b/\∃ cs,o = ae cs 198 (0,0))) w w'->w'.heap[ab]?=aM #[zi (c.slots:Int),a] 196->w'.ownsRow ol 198 4 a (c.ins.length+1) (vs++l0)->vq w' l0 [i] ->
   qi w' ol ab a (vs++l0) { c with ins:=c.ins++[i] }/\(∀ (b:Nat) (T:Nat) (cs:Array Y),b<ol\/(T≠198/\T≠196)->w.heap[b]?=aM cs T->w'.heap[b]?=aM cs T)/\(∀ (b:Nat) (l:List (Bs×Y)),w.heap[b]?=O (eI l)->w'.heap[b]?=O (eI l)):=by
  intro ab ol insv vs c hO w' a l0 i d g hr j;have r:∀ (b:Nat) (T:Nat) (cs:Array Y),b<ol\/(T≠198/\T≠196)->w.heap[b]?=aM cs T->w'.heap[b]?=aM cs T:=fun b T cs s f=>d.block _ _ f (by
   rintro (e | ⟨t,cs',n⟩)
   .rcases s with h | h
    .have:=hO.low;omega
    .rw[e,hO.cell] at f;grind
   grind)
  refine⟨⟨g,hO.low,zg,(hO.ins.bH yH).snoc j⟩,r,fun b l f=>d.block _ _ f ?_⟩;rintro (e | ⟨t,cs',n⟩)
  .rw[e,hO.cell] at f;cases f
  .cases n
 cases h with
 | zero hk hm=>exact yH
 | pred hk hm hu kL hD hr hv hC jS=>exact yH
 | @cl l D v name ar pl ol ab C cbs insv vs c hk hm hu kL hD hr hv hC oC hO jS eY=>
  refine⟨_,_,_,_,_,J,?_,hO,oC,eY,fun w' a l0 i d g k j=>?_⟩
  .show(if A=A then oy.Pa (D++[⟨name,ar,C++[c]⟩]) else V)=O c;rw[zip rfl];grind [oy.Pa,List.getLast?_concat]
  .obtain⟨g1,g2,g3⟩:=main hO w' a l0 i d g k j;have m:Kept w w' ol:=zg;have e:(Pv.mk (D++[⟨name,ar,C++[c]⟩]) A V).add i=⟨D++[⟨name,ar,C++[{ c with ins:=c.ins++[i] }]⟩],A,V⟩:=by
    grind [Pv.add,amS,aHS]
   rw[e];exact .cl yH yH hu kL (by grind [pK.map,xZ.bH]) (by grind [Fy]) hv (hC.bH m) (Nat.le_trans oC d.size) g1 jS eY
 | @ask l D key ol ab told insv vs c hk hm hD oC hO eY=>
  refine⟨_,_,_,_,_,J,J,hO,oC,eY,fun w' a l0 i d g k j=>?_⟩;obtain⟨g1,g2,g3⟩:=main hO w' a l0 i d g k j;have m:Kept w w' ol:=zg;exact .ask (g2 _ _ _ (.inr ⟨zd,zd⟩) hk) (g3 _ _ hm) (hD.map fun v q h=>h.bH m fun b cs _ u=>g2 b _ cs (.inr ⟨zd,zd⟩) u) (Nat.le_trans oC d.size) g1 eY
def lX.done(h:lX base w kb pb key at_ p){c:Co}{n:Nat}(a:p.ask=O (c,n)):∃ ab,xS w kb pb ab n p.dK/\Fj w ab c:=by
 cases h with
 | zero hk hm=>grind
 | pred hk hm hu kL hD hr hv hC jS=>grind
 | cl hk hm hu kL hD hr hv hC oC hO jS eY=>grind
 | @ask l D key ol ab told insv vs b hk hm hD oC hO eY=>
  have a:O (b,told)=O (c,n):=a;cases a;exact⟨ab,⟨hk,hD.aQ8 hm⟩,hO.done.coM⟩
end
