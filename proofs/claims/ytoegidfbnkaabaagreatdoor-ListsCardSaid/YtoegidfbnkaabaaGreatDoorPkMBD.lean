/- A part of one proof (VP6, VP7, ShX4c, VP8, ShX4e, VP9, VP10, VP11). -/
import Derived.Test.YtoegidfbnkaabaaGreatDoorPkMBC
set_option linter.all false
set_option maxRecDepth 100000
set_option maxHeartbeats 8000000
open Option renaming some → O, none → V
open Go renaming Value → Y, World → Z
open Bool renaming true → G, false → ae
open Go.Obj renaming cells → ah
open Go.Ending renaming returned → ai
open Go.Value renaming nilIface → aj, iface → ak, tuple → aq, pointer → au
open Go.Calls renaming mono → a3L
open Nat renaming le_refl → a3O, zero_le → a33
open List renaming drop_eq_getElem_cons → a3U, length_singleton → a4v, drop_of_length_le → a5I, getElem?_concat_length → a7n
open Go.Value renaming string → a4a
open Go.World renaming ownsRow_nil → a4d
open Go.Exit renaming thenS → a4t
open UInt8 renaming toNat_inj → a4G
open Go.Lib renaming hasSuffix → a5K, index → a6w, trimSuffix → a6W, splitB → a7a
open Go.Proofs.Tryz renaming prog → bdY
open Go.Proofs.Tryz
namespace Go.Proofs.YtoegidfbnkaabaaGreatDoor
open P
open Go.RowKit Sx
variable{R:Ending->Z->Prop}{base cb e k' n pb so told wb xb:Nat}{cs:Array Y}{o4 o5 tv v vv:Y}{res:Z->Prop}{vars:List Bs}{vs xs:List Y}{w:Z}{wd:Bs}
def atV{size:Nat}{o:Obj}(h:w.ownsRow base e size v n xs)(hx:xb<base):(bR w xb o).ownsRow base e size v n xs:=by
 refine⟨h.1,?_⟩;rcases h.2 with r | ⟨g,cap,cur,a,b,d,c⟩
 .exact yH
 .exact .inr ⟨g,cap,cur,a,b,yH,c⟩
def atW(slots:Nat)(ws:List Bs)(k:Int)(w:Z)(e:Ending)(w':Z):Prop:=Ext w w'/\match qi slots ws with
 | some i=>∃ cv sv,e = ai (.agg #[.string (bs i.word),.string (bs i.name),cv,sv])/\yA cv i.const/\w'.ownsRow w.heap.size 3 1 sv i.s.length (vi i.s)
 | none=>nD 5 k w w' e
def aTp{ws:List Bs}{slots:Nat}{insv:Y}{k:Int}(hw:w.heap[wb]?=O (ah ((wd::ws).map fun s=>a4a (bs s)).toArray 9 (0,0)))
  (hc:w.heap[cb]?=aO #[zi (slots:Int),insv] 196) (iW:slots<=100000) (hlen:ws.length<=100000) (Il:∀ s∈wd::ws,s.length<=1000000) (hT:Cf w) (hP:mj w) :
  Calls bdY 74 #[cS wb (ws.length+1) (ws.length+1),pp cb,zi k] w (atW slots (wd::ws) k w):=by
 suffices H:∀ R:Ending->Z->Prop,(∀ e w',atW slots (wd::ws) k w e w'->R e w')->Calls bdY 74 #[cS wb (ws.length+1) (ws.length+1),pp cb,zi k] w R from H _ zg;intro R hR;have lw:=bn hw;have lc:=bn hc;have yN:∀ w2,Ext w w2->qi slots (wd::ws)=V->∀ e w3,Ext w2 w3->nD 5 k w2 w3 e->∃ b,e = .panicked [{ v:=ak 73 (pp b),recovered:=false }]/\R e w3:=fun w2 dX hu e w3 eI hf=>by
  have D4:=hf;obtain⟨b,rfl,S,h3⟩:=D4;exact⟨b,J,hR _ _ ⟨yF,by rw[hu];exact hf.ext dX⟩⟩
 have DH:∀ w2,Ext w w2->qi slots (wd::ws)=V->∀ K:Y->Z->Prop,Calls bdY 70 #[zi k] w2 (ends K (PC R)):=fun w2 dX hu K=>by
  refine(WA k w2).mono ?_;rintro e w3 ⟨eI,hf⟩;obtain⟨b,rfl,h⟩:=yN w2 dX hu e w3 eI hf;exact h
 obtain⟨cs,jr⟩:=cj (((wd::ws).map fun s=>a4a (bs s)).toArray);have atX:cs[0]?=O (aW wd):=zg;have ai2:∀ q,(hq:q<ws.length)->cs[q+1]?=O (aW (ws[q])):=zg;rw[<- jr] at hw;refine aTl ?_;refine dA hw atX ?_;obtain⟨w2,j8⟩:=cj (bR ((w.alloc (ah #[aW [],aW [],aj,bW] 198 (0,0))).alloc (ah #[aW [],aW [],aj,bW] 198 (0,0))) (w.heap.size+1) (ah (pF #[a4a (bs []),aW [],aj,bW] 0 (Value.agg #[aW wd,aW [],aj,bW]).cells.toList) 198 (0,0)));rw[<- j8];have dX:Ext w w2:=yF;have r2:w2.heap[w.heap.size]?=aO #[aW [],aW [],aj,bW] 198:=yH;have x2:w2.heap[w.heap.size+1]?=aO #[aW wd,aW [],aj,bW] 198:=by rw[j8];exact qI J (yH)
 clear j8;obtain⟨rb,Ml⟩:=cj w.heap.size;obtain⟨xb,uL⟩:=cj (w.heap.size+1);rw[<- Ml] at r2;rw[<- uL] at x2;have dI:Ext w2 w2.drew:=yF;have my:(w.alloc (ah #[aW [],aW [],aj,bW] 198 (0,0))).heap.size=xb:=yH;rw[my,<- Ml];refine⟨fun w'=>Ext w2 w',dI,?_⟩;have j8:=dX.ext _ _ hw;refine cQ (pp wb) (fun w' j=>by have f:=j.ext _ _ j8;have:=bn f;exact eV f) ?_;refine cQ (aW wd) (fun w' j=>by have f:=j.ext _ _ j8;have:=bn f;exact mv f atX) ?_;refine a3L (ase w2.drew) ?_;rintro e w5 ⟨uo,sm,sl,rfl,hsm,Wo,aiA⟩;have LP:Ext w2 w5:=yF;have Iu:=dX.trans LP;refine⟨LP,?_⟩;rw[Md (k:=9) (e:=98) (z:=bW) zk zk zk Wo.map wd G];have QB:=Wo.find aiA wd;cases hf:fQ wd sl 0 with
 | none=>
  rw[hf] at QB;simp only;refine cQ bW (fun w' j=>eR) ?_;refine cQ (.bool ae) (fun w' j=>eR) ?_;refine⟨fun _ _=>False,?_,by rintro _ _ h;exact h.elim⟩;refine bG ?_;exact DH w5 Iu (by grind [P.atU]) _
 | some p=>
  obtain⟨q0,shv⟩:=p;rw[hf] at QB;obtain⟨sh,tL,Sc⟩:=QB;simp only;refine cQ shv (fun w' j=>eR) ?_;refine cQ (.bool G) (fun w' j=>eR) ?_;refine⟨fun _ w'=>w'=w5,?_,?_⟩
  .exact eR
  rintro s0 Pt rfl d0;have Jw:qi slots (wd::ws)=match kU slots sh ws ⟨wd,[],V,[]⟩with
   | some (i,[])=>if ((wd=[109,97,107,101]\/wd=[115,112,108,105,116])/\i.s.length<2)\/(wd=mD/\jx i.name≠i.s.length) then V else O i
   | _=>none:=by grind [P.atU]
  have aSg:sh.length<=3:=ath tL;have aiB:∀ x∈sh,x=115\/x=112\/x=99\/x=110\/x=42:=by
   rcases QR tL with⟨-,rfl⟩| ⟨-,rfl⟩| ⟨-,rfl⟩| ⟨-,rfl⟩| ⟨-,rfl⟩| ⟨-,rfl⟩| ⟨-,rfl⟩<;>decide
  obtain⟨sha,shc,aiC⟩:∃ a c,shv = .slice a sh.length c:=by
   rcases Sc with⟨h1,S⟩| ⟨b,zz,-,h1,-⟩<;>grind
  subst aiC;have h1i:(1:Int)<=((ws.length+1:Nat):Int):=zo;refine cJ h1i ?_;obtain⟨off,aTr,aTs⟩:∃ off,sliced (O ⟨wb,0,V⟩) 1 (ws.length+1) (ws.length+1) 1 = .slice (O ⟨wb,off,V⟩) ws.length ws.length/\(0<ws.length->off=1):=by
   by_cases h:ws.length=0
   .exact⟨0,by grind [sliced],zo⟩
   .exact⟨1,by grind [adX],zg⟩
  rw[aTr];obtain⟨base,kV⟩:=cj Pt.heap.size;have U5:=LP.size;have lx2:=bn x2;have uL:xb<base:=zo;have x5:=LP.ext _ _ x2;have r5:=LP.ext _ _ r2;have oO:=Iu.ext _ _ hw;have hc5:=Iu.ext _ _ hc;have hlw:wb≠xb:=zo;have hlc:cb≠xb:=zo;have ru:∀ {b:Nat} {o:Obj} {w':Z},MJ base xb Pt w'->Pt.heap[b]?=O o->b≠xb->w'.heap[b]?=O o:=(by grind [bn,bD.block]);have LO:∀ {w':Z},MJ base xb Pt w'->Ext w w':=fun{w'} hF=>⟨hF.os.trans Iu.os,hF.tape.trans Iu.tape,hF.output.trans Iu.output,yH,(by grind [bn,bD.ext])⟩;have C3:∀ {a b c:Z},MJ base xb a b->Ext b c->MJ base xb a c:=yF;have a2f:∀ q,(hq:q<ws.length)->(ws[q]).length<=1000000:=zg;have yd:kU slots sh ws ⟨wd,[],V,[]⟩=V->qi slots (wd::ws)=none:=zg;refine⟨fun _ w'=>∃ i cv a c,MJ base xb Pt w'/\MI base xb cv (.slice a i.s.length c) w' i/\i.word=wd/\i.s.length<=200000 /\
   ((42∈sh/\kU slots sh ws ⟨wd,[],V,[]⟩=O (i,[]))\/(¬ 42∈sh/\sh.length<=ws.length/\kU slots sh ws ⟨wd,[],V,[]⟩=O (i,ws.drop sh.length))),?_,?_⟩
  .refine bG ?_;refine⟨fun m z w'=>∃ q i cv a c,z 35=zi ((q:Nat):Int)/\q<=sh.length/\q<=ws.length/\m=sh.length-q/\MJ base xb Pt w'/\MI base xb cv (.slice a i.s.length c) w' i/\i.word=wd/\(∀ y∈sh.take q,y≠42)/\kU slots sh ws ⟨wd,[],V,[]⟩=kU slots (sh.drop q) (ws.drop q) i/\i.s.length<=q,
    ⟨_,0,⟨wd,[],V,[]⟩,aj,V,0,J,a33 _,a33 _,J,bD.refl _ _,⟨x5,J,a4d _ _ _ _⟩,J,zs,J,a3O _⟩,?_⟩
   intro m z d w6 hI;refine toPr ?_;obtain⟨q,i,cv,a,c,N,hq,hqw,rfl,M,A,Q,wN,n,Sj⟩:=hI;have kq:=LO M;have pN:=ru M oO hlw;have Iy:=ru M hc5 hlc;have IB:=hT.ext kq;have vI:=hP.ext kq;have yK:((q:Nat):Int).toNat=q:=zo;by_cases Wp:q<sh.length
   .have rL:((q:Nat):Int)<(sh.length:Int):=zo;obtain⟨shb,shz,mZ,Iz⟩:∃ b z,sha=O ⟨b,0,V⟩/\w6.heap[b]?=O (ah (uW sh).toArray 5 z):=by
     rcases Sc with⟨h1,-⟩| ⟨b,zz,-,h1,-,S⟩<;>grind
    subst mZ;obtain⟨x,Z6⟩:=cj (sh[q]);have jM:(uW sh).toArray[q]?=O (.int .u8 (x.toNat:Int)):=zg;have Pl:sh.drop q=x::sh.drop (q+1):=by grind [a3U]
    have CS:x∈sh:=zg;obtain⟨B,hB⟩:=cj ((uW sh).toArray);rw[<- hB] at Iz jM;rw[Pl,P.aTo] at n;have tl:=aiB x CS;by_cases Se:x=42
    .have T:(x.toNat:Int)=42:=by rw[Se];rfl
     rw[zip Se] at n;refine dG N rL Iz (zA jM (zA @yK T)) ?_;obtain⟨a2g,aTu,aTv⟩:∃ o,sliced (O ⟨wb,off,V⟩) q ws.length ws.length 1 = .slice (O ⟨wb,o,V⟩) (ws.length-q) (ws.length-q)/\(q<ws.length->o=q+1):=by
      by_cases h:ws.length=q
      .exact⟨off,by unfold sliced;grind,zo⟩
      .exact⟨q+1,by grind [adX],zg⟩
     rw[yK,aTu];refine bG ?_;refine⟨fun m z w'=>∃ p i' cv a c,z 46=zi ((p:Nat):Int)/\p<=ws.length-q/\m=ws.length-q-p/\MJ base xb Pt w'/\MI base xb cv (.slice a i'.s.length c) w' i'/\i'.word=wd/\i'.s.length<=q+p /\
      kU slots sh ws ⟨wd,[],V,[]⟩=match uT slots (ws.drop (q+p)) with
       | some l=>O ({ i' with s:=i'.s++l },[])
       | none=>V,⟨_,0,i,cv,a,c,J,a33 _,J,M,A,Q,Sj,n⟩,?_⟩
     clear n A Q Sj M kq pN Iy IB vI Iz;intro m z2 d2 w8 hI;refine toPr ?_;obtain⟨p,i,cv,a,c,Eg,hp,rfl,J6,hX8,Q,Sj,n⟩:=hI;have tS:=LO J6;have MG:=ru J6 oO hlw;have hc8:=ru J6 hc5 hlc;have hx8:=hX8.cell;have lx8:=bn hx8;have epn:((p:Nat):Int).toNat=p:=zo;by_cases j3:p<ws.length-q
     .have zJ:((p:Nat):Int)<((ws.length-q:Nat):Int):=zo;have hqp:q+p<ws.length:=zo;have nE:cs[q+1+p]?=O (aW (ws[q+p])):=zg;have at1:Ext w8 w8.drew:=yF;rw[a3U hqp] at n;rw[aTv zo];refine dG Eg zJ MG (zA nE @epn) ?_;refine⟨fun w'=>Ext w8 w',at1,?_⟩;refine cQ (pq xb 3) (fun w' j=>by have f:=j.ext _ _ hx8;have:=bn f;exact eV f) ?_;refine cQ (.slice a i.s.length c) (fun w' j=>by have f:=j.ext _ _ hx8;have:=bn f;exact eV f) ?_;refine cQ (pp cb) (fun w' j=>by have f:=j.ext _ _ hc8;have:=bn f;exact eV f) ?_;refine cQ (zi (slots:Int)) (fun w' j=>by have f:=j.ext _ _ hc8;have:=bn f;exact eV f) ?_;refine a3L (Pq ws[q+p] slots k w8.drew zg iW (by grind [Cf.ext]) (by grind [mj.ext])) ?_;rintro e U ⟨C,hu⟩;cases E:jv ws[q+p] slots with
      | none=>
       rw[E] at hu;have hn:uT slots (ws[q+p]::ws.drop (q+p+1))=none:=by unfold uT;rw[E]
       rw[hn] at n;obtain⟨b,rfl,h⟩:=yN w8.drew yF zg e U C hu;exact fun _=>h
      | some s=>
       rw[E] at hu;subst hu;have ai4:=at1.trans C;have kz:=C3 J6 ai4;refine⟨ai4,?_⟩;refine bG ?_;refine⟨yF,?_⟩;refine ai1 (hX8.ext ai4) (by rw[kV];exact kz.size) uL zo s fun a' n' c' ju MK Bi vK=>?_;refine dA MK Eg ?_;have Ef:uT slots (ws[q+p]::ws.drop (q+p+1))=match uT slots (ws.drop (q+p+1)) with
        | some l=>O (s::l)
        | none=>none:=by
        conv=>lhs;unfold uT
        rw[E];cases uT slots (ws.drop (q+p+1))<;>rfl
       obtain⟨a2,c2,j9⟩:=gZ Bi.row;cases j9;refine⟨_,?_,p+1,_,cv,a',c',J,zo,J,kz.trans vK,Bi,Q,zg,?_⟩
       .omega
       .rw[n,Ef,show q+(p+1)=q+p+1 from rfl];grind [uT]
     .have zJ:¬ ((p:Nat):Int)<((ws.length-q:Nat):Int):=zo;refine dA Eg zJ ?_;rw[a5I zo] at n;have n:kU slots sh ws ⟨wd,[],V,[]⟩=O (i,[]):=by rw[n];simp [uT]
      grind
    .have T:¬ (x.toNat:Int)=42:=fun e=>Se (a4G.1 zg);rw[bU Se] at n;refine dG N rL Iz (zA jM (zA @yK T)) ?_;refine⟨fun _ w'=>w'=w6/\q<ws.length,?_,?_⟩
     .by_cases at5:q<ws.length
      .have ef:¬ ((q:Nat):Int)=(ws.length:Int):=zo;refine dA N ef ?_;omega
      .have A2:((q:Nat):Int)=(ws.length:Int):=zo;rw[a5I zo] at n;refine dA N A2 ?_;exact DH w6 kq zg _
     .rintro s2 F ⟨rfl,at5⟩ d2;have X:((q:Nat):Int)<(ws.length:Int):=zo;have nE:cs[1+q]?=O (aW (ws[q])):=zg;have ML:Ext F F.drew:=yF;have D:=A.cell;have lx6:=bn D;have je:=A.con.cases;have aaD:∀ y∈sh.take (q+1),y≠42:=zg;rw[a3U at5] at n;simp only at n;rw[aTs zo];by_cases Sd:x=115
      .have T:(x.toNat:Int)=115:=by rw[Sd];rfl
       rw[zip Sd] at n;refine cJ T ?_;refine⟨fun w'=>Ext F w',ML,?_⟩;refine cQ (pq xb 3) (fun w' j=>by have f:=j.ext _ _ D;have:=bn f;exact eV f) ?_;refine cQ (.slice a i.s.length c) (fun w' j=>by have f:=j.ext _ _ D;have:=bn f;exact eV f) ?_;refine cQ (pq wb (1+q)) (fun w' j=>by have f:=j.ext _ _ pN;have:=bn f;exact AA f N X @yK) ?_;refine cQ (aW (ws[q])) (fun w' j=>by have f:=j.ext _ _ pN;have:=bn f;exact mv f nE) ?_;refine cQ (pp cb) (fun w' j=>by have f:=j.ext _ _ Iy;have:=bn f;exact eV f) ?_;refine cQ (zi (slots:Int)) (fun w' j=>by have f:=j.ext _ _ Iy;have:=bn f;exact eV f) ?_;refine a3L (Pq ws[q] slots k F.drew zg iW (IB.ext ML) (vI.ext ML)) ?_;rintro e U ⟨C,hu⟩;cases E:jv ws[q] slots with
       | none=>
        rw[E] at hu n;obtain⟨b,rfl,h⟩:=yN F.drew yF zg e U C hu;exact fun _=>h
       | some s=>
        rw[E] at hu n;subst hu;have tT:=ML.trans C;have kz:=C3 M tT;refine⟨tT,?_⟩;refine bG ?_;refine⟨yF,?_⟩;refine ai1 (A.ext tT) (by rw[kV];exact kz.size) uL zo s fun a' n' c' ju MK Bi vK=>?_;refine dA MK N ?_;obtain⟨a2,c2,j9⟩:=gZ Bi.row;cases j9;refine⟨_,?_,q+1,_,cv,a',c',J,zo,zo,J,kz.trans vK,Bi,Q,aaD,n,zg⟩;omega
      .rw[bU Sd] at n;have ai5:¬ (x.toNat:Int)=115:=fun e=>Sd (a4G.1 zg);by_cases vT:x=99
       .have T:(x.toNat:Int)=99:=by rw[vT];rfl
        rw[zip vT] at n;refine dG ai5 T pN (zA nE (zA N (zA X @yK))) ?_;refine a3L (aTm ws[q] k F zg IB vI) ?_;rintro e U ⟨C,hu⟩;cases E:BU ws[q] with
        | none=>
         rw[E] at hu n;obtain⟨b,rfl,h⟩:=yN F kq zg e U C hu;exact h
        | some t=>
         rw[E] at hu n;obtain⟨Zf,rfl,Sb⟩:=hu;obtain⟨t1,u1,rfl⟩:∃ t u,Zf = ak t u:=by
          rcases Sb.cases with rfl | h
          .cases t<;>(first | exact Sb.elim | exact absurd Sb (by intro h;cases h))
          omega
         have xD:=C.ext _ _ D;have lx9:=bn xD;refine dA xD N ?_;refine⟨_,?_,q+1,{ i with const:=O t },ak t1 u1,a,c,J,zo,zo,J,(C3 M C).bR yH,⟨yH,Sb,?_⟩,Q,aaD,n,Nat.le_succ_of_le Sj⟩
         .omega
         .exact atV (jK C.ext A.row) uL
       .rw[bU vT] at n;have Wq:¬ (x.toNat:Int)=99:=fun e=>vT (a4G.1 zg);by_cases Ba:x=110
        .have T:(x.toNat:Int)=110:=by rw[Ba];rfl
         rw[zip Ba] at n;refine dG ai5 Wq T (zA pN (zA nE (zA N (zA X @yK)))) ?_;refine a3L (aiZ ws[q] k F zg) ?_;rintro e U ⟨C,hu⟩;cases E:nI ws[q] with
         | none=>
          rw[E] at hu n;obtain⟨b,rfl,h⟩:=yN F kq zg e U C hu;exact h
         | some t=>
          rw[E] at hu n;subst hu;have xD:=C.ext _ _ D;have lx9:=bn xD;refine dA xD N ?_;refine⟨_,?_,q+1,{ i with name:=t },cv,a,c,J,zo,zo,J,(C3 M C).bR yH,⟨yH,A.con,?_⟩,Q,aaD,n,Nat.le_succ_of_le Sj⟩
          .omega
          .exact atV (jK C.ext A.row) uL
        .rw[bU Ba] at n;have aiI:¬ (x.toNat:Int)=110:=fun e=>Ba (a4G.1 zg);have aiH:x=112:=by
          grind
         have T:(x.toNat:Int)=112:=by rw[aiH];rfl
         refine dG ai5 Wq aiI T ?_;refine⟨fun w'=>Ext F w',ML,?_⟩;refine cQ (pq xb 3) (fun w' j=>by have f:=j.ext _ _ D;have:=bn f;exact eV f) ?_;refine cQ (.slice a i.s.length c) (fun w' j=>by have f:=j.ext _ _ D;have:=bn f;exact eV f) ?_;refine cQ (pq wb (1+q)) (fun w' j=>by have f:=j.ext _ _ pN;have:=bn f;exact AA f N X @yK) ?_;refine cQ (aW (ws[q])) (fun w' j=>by have f:=j.ext _ _ pN;have:=bn f;exact mv f nE) ?_;refine a3L (Pq ws[q] 10000 k F.drew zg zo (IB.ext ML) (vI.ext ML)) ?_;rintro e U ⟨C,hu⟩;cases E:jv ws[q] 10000 with
         | none=>
          rw[E] at hu n;obtain⟨b,rfl,h⟩:=yN F.drew yF zg e U C hu;exact fun _=>h
         | some s=>
          rw[E] at hu n;subst hu;have tT:=ML.trans C;have kz:=C3 M tT;refine⟨tT,?_⟩;refine bG ?_;refine⟨yF,?_⟩;refine ai1 (A.ext tT) (by rw[kV];exact kz.size) uL zo s fun a' n' c' ju MK Bi vK=>?_;refine dA MK N ?_;obtain⟨a2,c2,j9⟩:=gZ Bi.row;cases j9;refine⟨_,?_,q+1,_,cv,a',c',J,zo,zo,J,kz.trans vK,Bi,Q,aaD,n,zg⟩;omega
   .have rL:¬ ((q:Nat):Int)<(sh.length:Int):=zo;have A2:q=sh.length:=zo;refine dA N rL ?_;subst A2;rw[List.drop_length,List.take_length] at *;exact⟨i,cv,a,c,M,A,Q,zo,.inr ⟨zg,hqw,n⟩⟩
  .rintro s6 w6 ⟨i,cv,a,c,M,A,Q,Sj,Be⟩ d6;have kq:=LO M;have Ag:Ext w6 w6.drew:=yF;have hX7:=A.ext Ag;have I:=hX7.cell;have lx7:=bn I;rw[Q] at I;have aTz:JY w6 sm (.slice sha sh.length shc) sh:=by
    rcases Sc with h | ⟨b,zz,h1,S,h3,h4⟩
    .exact .inl h
    .refine .inr ⟨b,zz,h1,S,h3,ru M h4 ?_⟩;grind
   refine a3L (aTn aTz 42 zo) ?_;rintro e F ⟨rfl,rfl⟩;have lp:∀ rest,kU slots sh ws ⟨wd,[],V,[]⟩=O (i,rest)->(rest=[]->qi slots (wd::ws)=if ((wd=[109,97,107,101]\/wd=[115,112,108,105,116])/\i.s.length<2)\/(wd=mD/\jx i.name≠i.s.length) then V else O i)/\(rest≠[]->qi slots (wd::ws)=V):=zg;have UP:(42∈sh\/ws.length=sh.length)->qi slots (wd::ws)=if ((wd=[109,97,107,101]\/wd=[115,112,108,105,116])/\i.s.length<2)\/(wd=mD/\jx i.name≠i.s.length) then V else O i:=zg
   refine⟨fun _ w'=>w'=F.drew/\qi slots (wd::ws)=O i,?_,?_⟩
   .refine⟨fun z w'=>w'=F.drew/\∃ b,z 159 = .bool b/\(b=G->qi slots (wd::ws)=V)/\(b=ae->qi slots (wd::ws)=O i),?_,?_⟩
    .refine⟨fun w'=>Ext F w',Ag,?_⟩;by_cases aTA:sh.contains 42=ae/\¬ ws.length=sh.length
     .obtain⟨L,ef⟩:=aTA;have aTB:¬ (ws.length:Int)=(sh.length:Int):=zo;refine cJ L ?_;refine cQ (zi (ws.length:Int)) (fun w' j=>eR) ?_;refine cJ aTB ?_;refine⟨G,J,fun _=>?_,zg⟩;rcases Be with⟨h1,-⟩| ⟨h1,S,h3⟩
      .grind
      .refine(lp _ h3).2 (fun e=>?_);have:=congrArg List.length e;grind
     .have D:=A.cell;rw[Q] at D;by_cases L:sh.contains 42=G
      .have Kb:=UP (.inl (by simpa using L));by_cases hm:wd=[109,97,107,101]\/wd=[115,112,108,105,116]
       .have hnt:¬ wd=[116,101,115,116]:=zg;have aTC:¬ bs wd=bs [116,101,115,116]:=zg;by_cases S:i.s.length<2
        .have W:(i.s.length:Int)<2:=zo;rw[zip (.inl ⟨hm,S⟩)] at Kb;rcases hm with rfl | rfl
         .refine jh L I W ?_;grind
         .refine jh L I W ?_;grind
        .have W:¬ (i.s.length:Int)<2:=zo;rw[bU (by rintro (⟨-,h⟩| ⟨h,-⟩);exact S h;exact hnt h)] at Kb;rcases hm with rfl | rfl
         .refine jh L I W ?_;grind
         .refine jh L I W ?_;grind
       .obtain⟨JL,od⟩:=not_or.1 hm;by_cases ht:wd=[116,101,115,116]
        .subst ht;refine dG L I JL od ?_;refine cQ (pq xb 1) (fun w' j=>by have f:=j.ext _ _ D;have:=bn f;exact eV f) ?_;refine cQ (aW i.name) (fun w' j=>by have f:=j.ext _ _ D;have:=bn f;exact eV f) ?_;refine cQ (pq xb 3) (fun w' j=>by have f:=j.ext _ _ D;have:=bn f;exact eV f) ?_;refine cQ (.slice a i.s.length c) (fun w' j=>by have f:=j.ext _ _ D;have:=bn f;exact eV f) ?_;refine cQ (zi (i.s.length:Int)) (fun w' j=>eR) ?_;refine a3L (NR i.name) ?_;rintro e U ⟨rfl,rfl⟩;refine⟨Ag,?_⟩;by_cases lk:jx i.name=(i.s.length:Int)
         .refine cJ lk ?_;grind
         .refine cJ lk ?_;refine⟨G,J,fun _=>?_,zg⟩;rw[Kb,zip (.inr ⟨J,lk⟩)]
        .rw[bU (by rintro (⟨h,-⟩| ⟨h,-⟩);exact hm h;exact ht h)] at Kb;refine dG L I JL (zA od ht) ?_;grind
      .have L:sh.contains 42=false:=zg;have hle:ws.length=sh.length:=zg;have Sk:(ws.length:Int)=(sh.length:Int):=zo;have Kb:=UP (.inr hle);by_cases hm:wd=[109,97,107,101]\/wd=[115,112,108,105,116]
       .have hnt:¬ wd=[116,101,115,116]:=zg;have aTC:¬ bs wd=bs [116,101,115,116]:=zg;by_cases S:i.s.length<2
        .have W:(i.s.length:Int)<2:=zo;rw[zip (.inl ⟨hm,S⟩)] at Kb;rcases hm with rfl | rfl
         .refine cJ L ?_;refine cQ (zi (ws.length:Int)) (fun w' j=>eR) ?_;refine jh Sk I W ?_;grind
         .refine cJ L ?_;refine cQ (zi (ws.length:Int)) (fun w' j=>eR) ?_;refine jh Sk I W ?_;grind
        .have W:¬ (i.s.length:Int)<2:=zo;rw[bU (by rintro (⟨-,h⟩| ⟨h,-⟩);exact S h;exact hnt h)] at Kb;rcases hm with rfl | rfl
         .refine cJ L ?_;refine cQ (zi (ws.length:Int)) (fun w' j=>eR) ?_;refine jh Sk I W ?_;grind
         .refine cJ L ?_;refine cQ (zi (ws.length:Int)) (fun w' j=>eR) ?_;refine jh Sk I W ?_;grind
       .obtain⟨JL,od⟩:=not_or.1 hm;by_cases ht:wd=[116,101,115,116]
        .subst ht;refine cJ L ?_;refine cQ (zi (ws.length:Int)) (fun w' j=>eR) ?_;refine dG Sk I JL od ?_;refine cQ (pq xb 1) (fun w' j=>by have f:=j.ext _ _ D;have:=bn f;exact eV f) ?_;refine cQ (aW i.name) (fun w' j=>by have f:=j.ext _ _ D;have:=bn f;exact eV f) ?_;refine cQ (pq xb 3) (fun w' j=>by have f:=j.ext _ _ D;have:=bn f;exact eV f) ?_;refine cQ (.slice a i.s.length c) (fun w' j=>by have f:=j.ext _ _ D;have:=bn f;exact eV f) ?_;refine cQ (zi (i.s.length:Int)) (fun w' j=>eR) ?_;refine a3L (NR i.name) ?_;rintro e U ⟨rfl,rfl⟩;refine⟨Ag,?_⟩;by_cases lk:jx i.name=(i.s.length:Int)
         .refine cJ lk ?_;grind
         .refine cJ lk ?_;refine⟨G,J,fun _=>?_,zg⟩;rw[Kb,zip (.inr ⟨J,lk⟩)]
        .rw[bU (by rintro (⟨h,-⟩| ⟨h,-⟩);exact hm h;exact ht h)] at Kb;refine cJ L ?_;refine cQ (zi (ws.length:Int)) (fun w' j=>eR) ?_;refine dG Sk I JL (zA od ht) ?_;grind
    .rintro z w8 ⟨rfl,b,hz,iY,fh⟩ dd;rw[hz];cases b with
     | true=>
      refine bG ?_;exact DH _ yF (iY J) _
     | false=>
      refine bG ?_;grind
   .rintro z w8 ⟨rfl,hi⟩ dd;have hr8:=(ru M r5 zo);have Pm:=Ag.ext _ _ hr8;have lr9:=bn Pm;have je:=A.con.cases;rcases je with rfl | ⟨t1,u1,rfl⟩
    .refine dA I Pm ?_;refine hR _ _ ⟨yF,?_⟩;rw[hi];refine⟨aj,.slice a i.s.length c,zg,A.con,?_⟩;have dS:=jK Ag.ext A.row;refine⟨dS.1,?_⟩;rcases dS.2 with r | ⟨g,cap,cur,g1,g2,g3,g4⟩
     .exact yH
     .exact .inr ⟨g,cap,cur,g1,zo,yH,g4⟩
    .refine dA I Pm ?_;refine hR _ _ ⟨yF,?_⟩;rw[hi];refine⟨ak t1 u1,.slice a i.s.length c,zg,A.con,?_⟩;have dS:=jK Ag.ext A.row;refine⟨dS.1,?_⟩;rcases dS.2 with r | ⟨g,cap,cur,g1,g2,g3,g4⟩
     .exact yH
     .exact .inr ⟨g,cap,cur,g1,zo,yH,g4⟩
def wu(w:Z):List Y->List P.In->Prop
 | vs,[]=>vs=[]
 | vs,i::r=>∃ cv sv rest,vs=[.string (bs i.word),.string (bs i.name),cv,sv]++rest/\yA cv i.const/\fO (fun _=>True) w 3 sv (vi i.s)/\wu w rest r
theorem wu.bL{w w':Z}(hk:∀ (b:Nat) (cs:Array Y),w.heap[b]?=aO cs 3->w'.heap[b]?=aO cs 3):∀ {l:List P.In} {vs:List Y},wu w vs l->wu w' vs l
 | [],_,h=>h
 | _::_,_,⟨cv,sv,rest,a,c,d,e⟩=>⟨cv,sv,rest,a,c,d.mono zg yH,wu.bL hk e⟩
def wu.snoc{w:Z}{i:P.In}{l0:List Y}:∀ {l:List P.In} {vs:List Y},wu w vs l->wu w l0 [i]->wu w (vs++l0) (l++[i])
 | [],vs,a,b=>by subst a;grind
 | x::r,vs,⟨cv,sv,rest,a,c,d,e⟩,b=>⟨cv,sv,rest++l0,zg,c,d,wu.snoc e b⟩
theorem wu.at{w:Z}:∀ {l:List P.In} {vs:List Y} {j:Nat} {i:P.In},wu w vs l->l[j]?=O i->∃ cv sv,vs[j*4]?=O (aW i.word)/\vs[j*4+1]?=O (aW i.name)/\vs[j*4+2]?=O cv/\vs[j*4+3]?=O sv/\yA cv i.const/\fO (fun _=>True) w 3 sv (vi i.s)
 | x::r,vs,0,i,⟨cv,sv,rest,e,b,c,d⟩,a=>by
  have a:x=i:=zg;subst a;exact⟨cv,sv,zg,zg,zg,zg,b,c⟩
 | x::r,vs,j+1,i,⟨cv,sv,rest,e,b,c,d⟩,a=>by
  obtain⟨g,f,g1,g2,g3,g4,g5,g6⟩:=wu.at d (by simpa using a);grind
def DP(w:Z)(hi cb:Nat)(c:Co):Prop:=cb<hi/\∃ insv vs,w.heap[cb]?=aO #[zi (c.slots:Int),insv] 196/\w.ownsRow 0 198 4 insv c.ins.length vs/\(∀ b,insv.ownBlock=O b->b<hi)/\wu w vs c.ins
structure qT(w:Z)(lo ab:Nat)(insv:Y)(vs:List Y)(c:Co):Prop where
 cell:w.heap[ab]?=aO #[zi ((c.slots:Nat):Int),insv] 196
 low:lo<=ab
 row:w.ownsRow lo 198 4 insv c.ins.length vs
 ins:wu w vs c.ins
def aTE{size:Nat}(h:w.ownsRow pb e size v n xs)(c:k'<=pb):w.ownsRow k' e size v n xs:=by
 refine⟨h.1,?_⟩;rcases h.2 with r | ⟨g,cap,cur,a,d,b⟩
 .exact yH
 .exact .inr ⟨g,cap,cur,a,zo,b⟩
def qT.done{insv:Y}{c:Co}(h:qT w pb k' insv vs c):DP w w.heap.size k' c:=
 ⟨bn h.cell,insv,vs,h.cell,aTE h.row zo,fun _ a=>(E9 h.row a).2.1,h.ins⟩
theorem DP.mono{c:Co}(h:DP w pb cb c)(e:pb<=k'):DP w k' cb c:=by
 obtain⟨f,insv,vs,a,b,g,d⟩:=h;exact⟨zo,insv,vs,a,b,zg,d⟩
theorem DP.bL{w w':Z}{hi cb:Nat}{c:Co}(h:DP w hi cb c)(hk:∀ (b T:Nat) (cs:Array Y),b<hi\/T=3->(T=3\/T=196\/T=198)->w.heap[b]?=aO cs T->w'.heap[b]?=aO cs T):DP w' hi cb c:=by
 obtain⟨a,insv,vs,g,d,e,f⟩:=h;exact⟨a,insv,vs,yH,GB d yH,e,f.bL yH⟩
def DP.coM{c:Co}(h:DP w pb cb c):Gj w cb c:=by
 obtain⟨l,insv,vs,b,d,m,e⟩:=h;refine⟨insv,b,?_⟩;rcases d.2 with⟨a,n⟩| ⟨g,cap,cur,a,-,f,p,q,r,s⟩
 .exact yH
 .refine .inr ⟨g,cap,cur,a,?_,f,?_,fun j i k=>?_⟩
  .omega
  .omega
  .obtain⟨cv,sv,g1,g2,g3,g4,g5,g6⟩:=e.at k;have t:∀ o,o<c.ins.length*4->cur[o]?=vs[o]?:=zg;exact⟨zg,zg,zg,zg⟩
abbrev Kc(l:List Nat):List Y:=l.map fun b=>pp b
def yO(w:Z)(hi:Nat)(cbs:List Nat)(cs:List Co):Prop:=cbs.length=cs.length/\∀ (j:Nat) (c:Co),cs[j]?=O c->∃ cb,cbs[j]?=O cb/\DP w hi cb c
def yO.snoc{cbs:List Nat}{cs:List Co}{c:Co}(h:yO w pb cbs cs)(f:DP w pb cb c):yO w pb (cbs++[cb]) (cs++[c]):=by
 refine⟨by simp [h.1],fun j x a=>?_⟩;by_cases g:j<cs.length
 .rw[List.getElem?_append_left g] at a;obtain⟨b,i,k⟩:=h.2 j x a;grind
 .have d:=(List.getElem?_eq_some_iff.1 a).1;rw[List.length_append,a4v] at d;have e:j=cs.length:=zo;subst e;rw[a7n] at a;cases a;exact⟨cb,by rw[<- h.1,a7n],f⟩
theorem yO.mono{w:Z}{hi a:Nat}{cbs:List Nat}{cs:List Co}(h:yO w hi cbs cs)(d:hi<=a):yO w a cbs cs:=⟨h.1,fun j c b=>let ⟨cb,e,f⟩:=h.2 j c b;(by grind [DP.mono])⟩
abbrev Kept(w w':Z)(hi:Nat):Prop:=∀ (b T:Nat) (cs:Array Y),b<hi\/T=3->(T=3\/T=196\/T=198)->w.heap[b]?=O (ah cs T (0,0))->w'.heap[b]?=O (ah cs T (0,0))
theorem yO.bL{w w':Z}{hi:Nat}{cbs:List Nat}{cs:List Co}(h:yO w hi cbs cs)(hk:Kept w w' hi):yO w' hi cbs cs:=⟨h.1,fun j c a=>let ⟨cb,b,d⟩:=h.2 j c a;(by grind [DP.bL])⟩
theorem yO.aTG{cbs:List Nat}{cs:List Co}(h:yO w pb cbs cs):B5 w (Kc cbs) cs:=
 ⟨by simp [h.1],fun j c a=>let ⟨cb,d,b⟩:=h.2 j c a;⟨cb,zg,b.coM⟩⟩
def yP(w:Z)(a cl:Nat)(v:Y)(q:Pd):Prop:=∃ b cap row cbs,v = cS b q.clauses.length cap/\q.clauses.length<=cap/\b<a/\w.heap[b]?=aO row 185/\row.toList.take q.clauses.length=Kc cbs/\yO w cl cbs q.clauses
theorem yP.mono{w:Z}{a c cl d:Nat}{v:Y}{q:Pd}(h:yP w a cl v q)(f:a<=c)(e:cl<=d):yP w c d v q:=by
 obtain⟨b,cap,row,cbs,g1,g2,g3,g4,g5,g6⟩:=h;exact⟨b,cap,row,cbs,g1,g2,zo,g4,g5,g6.mono e⟩
theorem yP.bL{w w':Z}{a cl:Nat}{v:Y}{q:Pd}(h:yP w a cl v q)(hk:Kept w w' cl)(hr:∀ (b:Nat) (cs:Array Y),b<a->w.heap[b]?=aO cs 185->w'.heap[b]?=aO cs 185):yP w' a cl v q:=by
 obtain⟨b,cap,row,cbs,g1,g2,g3,g4,g5,g6⟩:=h;exact⟨b,cap,row,cbs,g1,g2,g3,yH,g5,g6.bL hk⟩
def qx(w:Z)(a cl:Nat):List (Bs×Y)->List Pd->Prop
 | [],[]=>True
 | (k,v)::l,q::D=>(k=P.keyOf q.name q.arity/\q.arity<80/\yP w a cl v q)/\qx w a cl l D
 | _,_=>False
theorem qx.map{w w':Z}{a cl b c:Nat}(d:∀ v q,yP w a cl v q->yP w' b c v q):∀ {l:List (Bs×Y)} {D:List Pd},qx w a cl l D->qx w' b c l D
 | [],[],_=>trivial
 | (_,_)::_,_::_,⟨⟨e,f,g⟩,h⟩=>⟨zg,qx.map d h⟩
def qx.snoc{w:Z}{a cl:Nat}{v:Y}{q:Pd}(b:q.arity<80)(hv:yP w a cl v q):∀ {l:List (Bs×Y)} {D:List Pd},qx w a cl l D->qx w a cl (l++[(P.keyOf q.name q.arity,v)]) (D++[q])
 | [],[],_=>⟨zg,trivial⟩
 | (_,_)::_,_::_,⟨c,h⟩=>⟨c,qx.snoc b hv h⟩
theorem qx.find{w:Z}{a cl:Nat}{name:Bs}{n:Nat}(b:n<80):∀ {l:List (Bs×Y)} {D:List Pd} {j:Nat},qx w a cl l D->match fQ (P.keyOf name n) l j with
  | none=>D.find? (fun p=>p.name == name && p.arity == n)=V
  | some (_,v)=>∃ p,D.find? (fun p=>p.name == name && p.arity == n)=O p/\yP w a cl v p
 | [],[],j,_=>rfl
 | (k,v)::l,q::D,j,⟨⟨c,d,e⟩,h⟩=>by
  have ih:=qx.find (name:=name) b (j:=j+1) h;rw[fQ,List.find?_cons];by_cases hk:k=P.keyOf name n
  .rw[zip hk];obtain⟨f,g⟩:=(P.age d b).1 (c.symm.trans hk);grind
  grind
def qx.aTH{l:List (Bs×Y)}{D:List Pd}(h:qx w k' so l D)(hm:w.heap[pb]?=O (eM l)):Vx w pb D:=by
 refine⟨l,hm,fun name n a=>?_⟩;have:=h.find (name:=name) a (j:=0);cases c:fQ (P.keyOf name n) l 0 with
 | none=>
  exact yH
 | some d=>
  obtain⟨k,v⟩:=d;rw[c] at this;obtain⟨p,e,b,cap,row,cbs,g1,g2,g3,g4,g5,g6⟩:=this;grind [yO.aTG]
open Go.Proofs.YtoegidfbnkaabaaGreatDoor.Sx
section
variable{p0 p1 p2 p3 p4 p5 p6 p7:Y}{w:Z}{R:Ending->Z->Prop}
def aTI:=cy w R [p0] (gd [(12,[6,7,45])] [(6000,[36]),(7002,[4]),(17000,[85]),(18001,[]),(20000,[90]),(24002,[]),(26000,[131]),(29000,[166]),(36001,[])] [] [(21,[10,0,1,2,3,5,6,7,8,4,9,10,11]),(28,[15,0,1,2,3,4,5,6,7,8,9,10,11,12,13,14]),(31,[19,0,1,2,3,4,5,6,7,8,9,10,11,12,13,14,15,16,17,18]),(33,[14,0,1,2,3,4,5,6,7,8,9,10,11,12,13])] [] [] [11,15,19,35,36,46,54,59,82,83,84,85,90,98,99,119,120,131,143,144,166,174,175,200,202,221]) func34
end
def aTJ(v4 v5:Y)(w:Z):CallsD bdY 66 #[v4,v5] .returning w fun e u' w'=>e = ai (aq #[])/\u' = .returning/\w'=w:=by
 refine callsD_of_wpS func66 J fun AS cs hu=>?_;apply wpS_seq;apply wpS_region;simp [wpOpsS,go_sem,recoverD,hu,ntmps66,a4t,aem];apply wpS_seq;apply wpS_region;simp [wpOpsS,go_sem,recoverD,hu,ntmps66,a4t];refine wpS_cond (t:=false) (by simp [Act.eval]) ?_;simp only[Bool.false_eq_true,if_false];refine wpS_of_wp (wp_skip ?_);cases AS;simp_all [bodyPostS,results,Tryz.results66]
def aTK(b4 b5:Nat)(o4 o5:Y)(v:Y)(yj:List PanicEntry)(w:Z)(h4:w.cell? ⟨b4,0,V⟩=O o4)(z4:w.frozen? ⟨b4,0,V⟩=ae)
  (h5:(w.setCell ⟨b4,0,V⟩ (au V)).cell? ⟨b5,0,V⟩=O o5) (z5:(w.setCell ⟨b4,0,V⟩ (au V)).frozen? ⟨b5,0,V⟩=ae) :
  CallsD bdY 66 #[pp b4,pp b5] (.panicking ({ v:=ak 73 v,recovered:=false }::yj)) w fun e u' w'=>
   e = ai (aq #[])/\u' = .panicking ({ v:=ak 73 v,recovered:=true }::yj)/\w'=(w.setCell ⟨b4,0,V⟩ (au V)).setCell ⟨b5,0,V⟩ (ak 73 v):=by
 refine callsD_of_wpS func66 J fun AS cs hu=>?_;apply wpS_seq;apply wpS_region;simp [wpOpsS,go_sem,recoverD,hu,ntmps66,a4t,aen];apply wpS_seq;apply wpS_region;simp [wpOpsS,go_sem,recoverD,hu,ntmps66,a4t];refine wpS_cond (t:=true) (by simp [Act.eval]) ?_;simp only[if_true];apply wpS_region;simp [wpOpsS,go_sem,recoverD,hu,ntmps66,a4t,h4,z4,h5,z5];simp [bodyPostS,results,Tryz.results66]
def at7(h:res w) :
  LV bdY res R [{ target:=.fn (.func 66) #[tv,vv],args:=#[]++#[] }] .returning w:=by
 refine Cp zk zs ((aTJ tv vv w).mono ?_);rintro e a w' ⟨rfl,rfl,rfl⟩;exact h
def aTL(a:w.heap[pb]?=aO #[o4] 108)
  (d:w.heap[k']?=aO #[o5] 57) (f:pb≠k')
  (h:res (bR (bR w pb (ah #[au V] 108)) k' (ah #[ak 73 v] 57))) :
  LV bdY res R [{ target:=.fn (.func 66) #[pp pb,pp k'],args:=#[]++#[] }]
   (.panicking [{ v:=ak 73 v,recovered:=false }]) w:=by
 have b:w.setCell ⟨pb,0,V⟩ (au V)=bR w pb (ah #[au V] 108):=vz a _;have c:(bR w pb (ah #[au V] 108)).heap[k']?=aO #[o5] 57:=by
  exact yH
 refine Cp zk zs ((aTK pb k' o4 o5 v [] w (by grind [World.cell?]) (jV a 0) (by grind [World.cell?]) (by grind [jV])).mono ?_);rintro e g w' ⟨rfl,rfl,rfl⟩;rw[b,vz c];exact h
section
variable{p0 p1 p2 p3 p4 p5 p6 p7:Y}{w:Z}{R:Ending->Z->Prop}
def aTM:=cz w R [p0,p1] (gc [] [] []) func67
end
def Cg(e:Bs):List Bs->List Bs
 | []=>[]
 | [l]=>[l]
 | l::m::ls=>(l++e)::Cg e (m::ls)
theorem aua:∀ (l:List Bs),Cg [] l=l
 | []=>rfl
 | [_]=>rfl
 | l::m::ls=>by rw[Cg,aua (m::ls),List.append_nil]
theorem ai7(c:UInt8):∀ (s:Bs),fP c s≠[]
 | []=>by simp [fP]
 | x::r=>by
  unfold fP;split
  .simp
  .split<;>simp
def WE(c:UInt8):∀ (s:Bs),(a6w s [c]=-1/\fP c s=[s]/\s.count c=0)\/∃ i:Nat,a6w s [c]=(i:Int)/\i<s.length/\fP c s=s.take i::fP c (s.drop (i+1))/\s.take (i+1)=s.take i++[c]/\(s.drop (i+1)).count c+1=s.count c
 | []=>.inl ⟨J,J,J⟩
 | x::r=>by
  by_cases hx:c=x
  .refine .inr ⟨0,?_,zs,?_,zg,zg⟩
   .unfold a6w;grind
   .conv=>lhs;unfold fP
    grind
  .have g:¬ x=c:=zg;have hi:a6w (x::r) [c]=if a6w r [c] == -1 then -1 else a6w r [c]+1:=by
    conv=>lhs;unfold a6w
    grind
   have b:fP c (x::r)=match fP c r with
    | []=>[[x]]
    | l::ls=>(x::l)::ls:=by
    conv=>lhs;unfold fP
    grind
   rcases WE c r with⟨d,e,a⟩| ⟨i,d,e,a,f,h⟩
   .grind
   .refine .inr ⟨i+1,?_,by simp;omega,by rw[b,a];rfl,by simp [f],?_⟩<;>grind
def ai8(c:UInt8)(save:Nat)(d:save<=1):∀ (k:Nat) (s:Bs),s.count c<=k->Go.Lib.splitK [c] save k s=Cg ([c].take save) (fP c s)
 | 0,s,h=>by
  rcases WE c s with⟨-,a,-⟩| ⟨i,-,-,-,-,e⟩
  .rw[a];rfl
  omega
 | k+1,s,h=>by
  unfold Go.Lib.splitK;rcases WE c s with⟨b,a,-⟩| ⟨i,b,a,f,g,e⟩
  .rw[b,a];rfl
  .have:((i:Int) == -1)=false:=by
    grind
   rw[b,this,f];simp only[Bool.false_eq_true,if_false,Int.toNat_natCast,a4v];rw[ai8 c save d k _ zo];have j:=ai7 c (s.drop (i+1));cases l:fP c (s.drop (i+1)) with
   | nil=>grind
   | cons m ls=>
    rw[Cg]
    congr 1
    match save,d with
    | 0,_=>simp
    | 1,_=>grind
theorem WG(c:UInt8)(s:Bs):(fP c s).length=s.count c+1:=by
 have key:∀ (k:Nat) (s:Bs),s.count c<=k->(fP c s).length=s.count c+1:=by
  intro k;induction k with
  | zero=>
   intro s h;rcases WE c s with⟨-,b,a⟩| ⟨i,-,-,-,-,d⟩<;>grind
  | succ k ih=>
   intro s h;rcases WE c s with⟨-,b,a⟩| ⟨i,-,-,a,-,d⟩<;>grind
 exact key _ s (a3O _)
theorem aub(e:Bs):∀ (l:List Bs),(Cg e l).length=l.length
 | []=>rfl
 | [_]=>rfl
 | l::m::ls=>by rw[Cg,List.length_cons,aub e (m::ls)];rfl
def auc{L:List ByteArray}(h:L.map (·.data.toList)=vars):L.map a4a=vars.map fun s=>aW s:=by
 subst h;rw[List.map_map];apply List.map_congr_left;grind
def GF(w:Z):Prop:=∃ m,w.cell? ⟨5,0,V⟩=O (zi m)
theorem GF.ext{w w':Z}(h:GF w)(a:Ext w w'):GF w':=by
 obtain⟨m,b⟩:=h;exact⟨m,(by grind [Ns,bD.ext])⟩
abbrev ai9(l:List Bs):Obj:=ah (l.map fun s=>a4a (bs s)).toArray 9 (0,0)
def aTN(s:Bs)(c:UInt8)(w:Z)(h:s.length<=1000000)(d:GF w):Calls bdY 69 #[aW s,aW [c]] w fun e w'=>e = ai (.slice (O ⟨w.heap.size,0,V⟩) (fP c s).length (fP c s).length)/\w'=w.alloc (ai9 (fP c s)):=by
 obtain⟨m,hm⟩:=d;have i:(bs s).size<=1000000:=by show s.toArray.size<=_;omega
 have j:(bs [c]).size=1:=rfl;have f:(bs s).data.toList=s:=zg;have g:(bs [c]).data.toList=[c]:=rfl;have a:Go.Lib.countB (bs s) (bs [c])=s.count c:=by
  grind [Go.Lib.count,Go.Lib.count_one,Lib.count_one]
 have b:=Go.Lib.splitB_data (bs [c]) 0 (s.count c) (bs s);rw[f,g,ai8 c 0 zo _ s (a3O _)] at b;have b:(a7a (bs [c]) 0 (s.count c) (bs s)).map (·.data.toList)=fP c s:=by grind [aua]
 refine(Tryz.strings_Split (bs s) (bs [c]) m w zo hm zo).mono ?_;rintro e w' ⟨rfl,rfl⟩;rw[a,WG,auc b];exact yH
def aTO(s:Bs)(c:UInt8)(w:Z)(i:s.length<=1000000)(b:GF w):Calls bdY 67 #[aW s,aW [c]] w fun e w'=>e = ai (.slice (O ⟨w.heap.size,0,V⟩) (fP c s).length (fP c s).length)/\w'=w.alloc (ai9 (Cg [c] (fP c s))):=by
 obtain⟨m,hm⟩:=b;have j:(bs s).size=s.length:=by show s.toArray.size=_;simp
 have k:(bs [c]).size=1:=rfl;have d:(bs s).data.toList=s:=zg;have f:(bs [c]).data.toList=[c]:=rfl;have g:Go.Lib.countB (bs s) (bs [c])=s.count c:=by
  grind [Go.Lib.count,Go.Lib.count_one,Lib.count_one]
 have hle:s.count c<=s.length:=List.count_le_length;have a:=Go.Lib.splitB_data (bs [c]) 1 (s.count c) (bs s);rw[d,f,ai8 c 1 zo _ s (a3O _)] at a;have a:(a7a (bs [c]) 1 (s.count c) (bs s)).map (·.data.toList)=Cg [c] (fP c s):=a;have hlen:(a7a (bs [c]) 1 (s.count c) (bs s)).length=s.count c+1:=by
  have:=congrArg List.length a;grind [List.length_map,aub,WG]
 refine aTM ?_;refine bG ?_;refine(Tryz.strings_genSplit (bs s) (bs [c]) 1 (-1) (s.count c+1) m w zo hm zo zo zo zo zo).mono ?_;rintro e w' ⟨rfl,rfl⟩;rw[Nat.add_sub_cancel];have h:Go.Lib.cellsOf (a7a (bs [c]) 1 (s.count c) (bs s)) (s.count c+1)=((a7a (bs [c]) 1 (s.count c) (bs s)).map a4a).toArray:=by grind [Go.Lib.cellsOf_full,Lib.cellsOf_full]
 rw[h,auc a,hlen,WG];exact⟨J,J⟩
def aue(s:Bs)(c:UInt8)(w:Z)(a:s.length<=1000000):Calls bdY 68 #[aW s,aW [c]] w fun e w'=>e = ai (aq #[aW (a6W s [c]),.bool (a5K s [c])])/\w'=w:=by
 have b:(bs s).size<=1000000:=by show s.toArray.size<=_;omega
 refine(Tryz.strings_CutSuffix (bs s) (bs [c]) w zo).mono ?_;grind
theorem aTP(l:Bs)(c:UInt8):a6W (l++[c]) [c]=l/\a5K (l++[c]) [c]=true:=by
 have h:a5K (l++[c]) [c]=true:=by
  unfold a5K;grind
 refine⟨?_,h⟩;unfold a6W;rw[zip h];simp
theorem aTQ{l:Bs}{c:UInt8}(h:c ∉ l):a5K l [c]=false:=by
 cases a:a5K l [c] with
 | false=>rfl
 | true=>
  unfold a5K at a;rw[List.isSuffixOf_iff_suffix] at a;obtain⟨t,ht⟩:=a;grind
theorem auf:∀ {l l':List (Bs×Y)} {i:Nat},pt l i=pt l' i->l=l'
 | [],[],_,_=>rfl
 | [],(_,_)::_,_,h=>by grind [pt]
 | (_,_)::_,[],_,h=>by grind [pt]
 | (s,v)::l,(s',v')::l',i,h=>by
  simp only[pt,List.cons.injEq,MapEntry.mk.injEq,Value.string.injEq] at h;obtain⟨⟨a,b,-⟩,c⟩:=h;rw[auf c,b,show s=s' from by simpa [bs] using a]
theorem aTR{l l':List (Bs×Y)}(h:eM l=eM l'):l=l':=by
 grind [eM,auf]
abbrev wI(pb:Nat)(ask:Y)(told:Int):Obj:=ah #[.map (O pb),ask,zi told] 187 (0,0)
abbrev ptr(b:Nat):Y:=pp b
inductive mM(base:Nat)(w:Z)(kb pb:Nat):Bs->Y->Pv->Prop
 | zero (hk:w.heap[kb]?=O (wI pb (au V) 0)) (hm:w.heap[pb]?=O (eM [])):mM base w kb pb [] (au V) ⟨[],ae,V⟩
 | pred {l:List (Bs×Y)} {D:List Pd} {v:Y} {name:Bs} {ar pl:Nat} {C:List Co} {cbs:List Nat} (hk:w.heap[kb]?=O (wI pb (au V) 0)) (hm:w.heap[pb]?=O (eM (l++[(P.keyOf name ar,v)])))
  (hu:fQ (P.keyOf name ar) l 0=V) (lu:ar<80) (hD:qx w pl w.heap.size l D) (hr:w.ownsRow pl 185 1 v C.length (Kc cbs)) (hv:∃ b,v.ownBlock=O b) (hC:yO w w.heap.size cbs C) (j3:base<=pl) :
  mM base w kb pb (P.keyOf name ar) (au V) ⟨D++[⟨name,ar,C⟩],ae,V⟩
 | cl {l:List (Bs×Y)} {D:List Pd} {v:Y} {name:Bs} {ar pl ol ab:Nat} {C:List Co} {cbs:List Nat} {insv:Y} {vs:List Y} {c:Co} (hk:w.heap[kb]?=O (wI pb (au V) 0)) (hm:w.heap[pb]?=O (eM (l++[(P.keyOf name ar,v)])))
  (hu:fQ (P.keyOf name ar) l 0=V) (lu:ar<80) (hD:qx w pl ol l D) (hr:w.ownsRow pl 185 1 v (C.length+1) (Kc (cbs++[ab]))) (hv:∃ b,v.ownBlock=O b) (hC:yO w ol cbs C) (px:ol<=w.heap.size) (hO:qT w ol ab insv vs c) (j3:base<=pl) (fc:base<=ol) :
  mM base w kb pb (P.keyOf name ar) (ptr ab) ⟨D++[⟨name,ar,C++[c]⟩],G,V⟩
 | ask {l:List (Bs×Y)} {D:List Pd} {key:Bs} {ol ab told:Nat} {insv:Y} {vs:List Y} {c:Co} (hk:w.heap[kb]?=O (wI pb (ptr ab) (told:Int))) (hm:w.heap[pb]?=O (eM l)) (hD:qx w ol ol l D) (px:ol<=w.heap.size) (hO:qT w ol ab insv vs c) (fc:base<=ol) :
  mM base w kb pb key (ptr ab) ⟨D,G,O (c,told)⟩
section
variable{base:Nat}{w w':Z}{kb pb:Nat}{key:Bs}{at_:Y}{p:Pv}
def aug{pl pb:Nat}{q:Pd}{cbs:List Nat}(hr:w.ownsRow pl 185 1 v q.clauses.length (Kc cbs))(hv:∃ b,v.ownBlock=O b)(hC:yO w pb cbs q.clauses):yP w w.heap.size pb v q:=by
 obtain⟨b,hv⟩:=hv;rcases hr.2 with⟨a,-⟩| ⟨g,cap,cur,a,-,c,d,e,f,h⟩
 .rw[a] at hv;cases hv
 .exact⟨g,cap,cur,cbs,a,d,yH,c,zg,hC⟩
def mM.close(h:mM base w kb pb key at_ p):∃ l,w.heap[pb]?=O (eM l)/\qx w w.heap.size w.heap.size l p.dJ:=by
 cases h with
 | zero hk hm=>exact⟨_,hm,trivial⟩
 | pred hk hm hu lu hD hr hv hC j3=>
  refine⟨_,hm,qx.snoc (q:=⟨_,_,_⟩) lu (aug (q:=⟨_,_,_⟩) hr hv hC) (hD.map fun v q h=>h.mono ?_ zo)⟩;rcases hr.2 with⟨a,-⟩| ⟨g,cap,cur,a,c,d,-⟩
  .obtain⟨b,hv⟩:=hv;rw[a] at hv;cases hv
  exact yH
 | cl hk hm hu lu hD hr hv hC px hO j3 fc=>
  refine⟨_,hm,qx.snoc (q:=⟨_,_,_⟩) lu (aug (q:=⟨_,_,_⟩) (by simpa using hr) hv ((hC.mono px).snoc hO.done)) (hD.map fun v q h=>h.mono ?_ px)⟩;rcases hr.2 with⟨a,-⟩| ⟨g,cap,cur,a,c,d,-⟩
  .obtain⟨b,hv⟩:=hv;rw[a] at hv;cases hv
  exact yH
 | ask hk hm hD px hO fc=>exact⟨_,hm,hD.map fun v q h=>h.mono px px⟩
def mM.code(h:mM base w kb pb key at_ p):match p.ask with
  | none=>w.heap[kb]?=O (wI pb (au V) 0)
  | some (_,n)=>∃ ab,at_=ptr ab/\w.heap[kb]?=O (wI pb (ptr ab) (n:Int)):=by
 cases h with
 | zero hk hm=>omega
 | pred hk hm hu lu hD hr hv hC j3=>omega
 | cl hk hm hu lu hD hr hv hC px hO j3 fc=>omega
 | ask hk hm hD px hO fc=>exact yH
theorem Kept.ea{hi:Nat}(a:Ext w w'):Kept w w' hi:=(by grind [bD.ext])
theorem qT.ext{lo ab:Nat}{insv:Y}{vs:List Y}{c:Co}(h:qT w lo ab insv vs c)(a:Ext w w'):qT w' lo ab insv vs c:=⟨a.ext _ _ h.cell,h.low,jK a.ext h.row,h.ins.bL (by grind [bD.ext])⟩
theorem mM.ext(h:mM base w kb pb key at_ p)(a:Ext w w'):mM base w' kb pb key at_ p:=by
 have b:=a.size;cases h with
 | zero hk hm=>exact .zero (a.ext _ _ hk) (a.ext _ _ hm)
 | pred hk hm hu lu hD hr hv hC j3=>exact .pred (a.ext _ _ hk) (a.ext _ _ hm) hu lu (hD.map fun v q h=>(h.bL (.ea a) fun _ _ _ c=>a.ext _ _ c).mono zo b) (jK a.ext hr) hv ((hC.bL (.ea a)).mono b) j3
 | cl hk hm hu lu hD hr hv hC px hO j3 fc=>exact .cl (a.ext _ _ hk) (a.ext _ _ hm) hu lu (by grind [qx.map,yP.bL,Kept.ea,bD.ext]) (jK a.ext hr) hv (hC.bL (.ea a)) zo (hO.ext a) j3 fc
 | ask hk hm hD px hO fc=>exact .ask (a.ext _ _ hk) (a.ext _ _ hm) (by grind [qx.map,yP.bL,Kept.ea,bD.ext]) zo (hO.ext a) fc
def mM.aTS(h:mM base w kb pb key at_ p)(g:p.ask=V){name:Bs}{ar:Nat}{l:List (Bs×Y)}(lu:ar<80)(c:w.heap[pb]?=O (eM l))(i:fQ (P.keyOf name ar) l 0=V)
  (d:bD (fun b _=>b=pb) w w') (j:w'.heap[k']?=aO #[] 185) (k:w.heap.size<=k') (a:base<=w.heap.size) (hm:w'.heap[pb]?=O (eM (l++[(P.keyOf name ar,cS k' 0 0)]))) :
  mM base w' kb pb (P.keyOf name ar) (au V) ⟨p.dJ++[⟨name,ar,[]⟩],ae,V⟩:=by
 obtain⟨l',m,n⟩:=h.close;rw[c] at m;have o:=h.code;rw[g] at o;have r:l'=l:=by
  grind [aTR]
 subst r;have s:=d.size;have f:∀ (b:Nat) (T:Nat) (cs:Array Y),w.heap[b]?=aO cs T->w'.heap[b]?=aO cs T:=fun b T cs a=>d.block _ _ a fun e=>by
  rw[e,c] at a;cases a
 refine .pred (l:=l') (pl:=w.heap.size) (C:=[]) (cbs:=[]) yH hm i lu (n.map fun v q t=>((t.bL (fun b T cs _ _ a=>f b T cs a) fun b cs _ a=>f b _ cs a).mono zo s)) ?_ ⟨k',J⟩ ⟨J,yH⟩ a;exact⟨J,.inr ⟨k',0,#[],J,k,j,a3O _,a33 _,J,J⟩⟩
end
section
variable{base:Nat}{w w':Z}{kb pb:Nat}{key:Bs}{at_:Y}{p:Pv}
def auh{pb size:Nat}(hr:w.ownsRow pb e size v n xs)(hv:∃ b,v.ownBlock=O b):pb<=w.heap.size:=by
 obtain⟨b,hv⟩:=hv;obtain⟨a,c,-⟩:=E9 hr hv;omega
def mM.aTT(a:base<=w.heap.size)(h:mM base w kb pb key at_ p)(j:p.ask=V)(t:p.dJ≠[]):∃ l v cbs pl q D,p.dJ=D++[q]/\key=P.keyOf q.name q.arity/\w.heap[pb]?=O (eM (l++[(key,v)]))/\fQ key l 0=V/\w.ownsRow pl 185 1 v q.clauses.length (Kc cbs)/\pl<=w.heap.size/\base<=pl /\
  ∀ w' v' cb slots,bD (fun b o=>b=pb\/(pl<=b/\∃ cs,o = ah cs 185 (0,0))) w w'->w'.heap[pb]?=O (eM (l++[(key,v')]))->w'.ownsRow pl 185 1 v' (q.clauses.length+1) (Kc cbs++[ptr cb])->(∃ b,v'.ownBlock=O b) ->
   w'.heap[cb]?=aO #[zi ((slots:Nat):Int),bW] 196->w.heap.size<=cb->mM base w' kb pb key (ptr cb) ⟨D++[⟨q.name,q.arity,q.clauses++[⟨slots,[]⟩]⟩],G,V⟩:=by
 have d:=h.code;rw[j] at d;have d:w.heap[kb]?=O (wI pb (au V) 0):=d;have f:∀ {l:List (Bs×Y)} {D:List Pd} {v:Y} {name:Bs} {ar pl:Nat} {C:List Co} {cbs:List Nat},w.heap[pb]?=O (eM (l++[(P.keyOf name ar,v)]))->fQ (P.keyOf name ar) l 0=V->ar<80->qx w pl w.heap.size l D->yO w w.heap.size cbs C->base<=pl ->
   ∀ w' v' cb slots,bD (fun b o=>b=pb\/(pl<=b/\∃ cs,o = ah cs 185 (0,0))) w w'->w'.heap[pb]?=O (eM (l++[(P.keyOf name ar,v')]))->w'.ownsRow pl 185 1 v' (C.length+1) (Kc cbs++[ptr cb])->(∃ b,v'.ownBlock=O b) ->
   w'.heap[cb]?=aO #[zi ((slots:Nat):Int),bW] 196->w.heap.size<=cb->mM base w' kb pb (P.keyOf name ar) (ptr cb) ⟨D++[⟨name,ar,C++[⟨slots,[]⟩]⟩],G,V⟩:=by
  intro l D v name ar pl C cbs hm hu lu hD hC j3 w' v' cb slots g k u m n r;have x:∀ (b:Nat) (T:Nat) (cs:Array Y),b<pl\/T≠185->w.heap[b]?=aO cs T->w'.heap[b]?=aO cs T:=fun b T cs y a=>g.block _ _ a (by
   rintro (e | ⟨i,cs',z⟩)
   .rw[e,hm] at a;cases a
   grind)
  have s:∀ hi,Kept w w' hi:=zg;refine .cl (ol:=w.heap.size) (c:=⟨slots,[]⟩) (vs:=[]) yH k hu lu (by grind [qx.map,yP.bL]) ?_ m (hC.bL (s _)) g.size ⟨n,r,a4d _ _ _ _,J⟩ j3 a;grind
 cases h with
 | zero hk hm=>exact yH
 | pred hk hm hu lu hD hr hv hC j3=>exact⟨_,_,_,_,_,_,J,J,hm,hu,hr,auh hr hv,j3,yH⟩
 | @cl l D v name ar pl ol ab C cbs insv vs c hk hm hu lu hD hr hv hC px hO j3 fc=>
  have i:=f hm hu lu (hD.map fun v q h=>h.mono zo px) ((hC.mono px).snoc hO.done) j3;exact⟨_,_,cbs++[ab],_,⟨name,ar,C++[c]⟩,_,J,J,hm,hu,zg,auh hr hv,j3,i⟩
 | ask hk hm hD px hO fc=>grind
def mM.aTV(i:base<=w.heap.size)(h:mM base w kb pb key at_ p){slots:Nat}(g:bD (fun b _=>b=kb) w w')(hk:w'.heap[kb]?=O (wI pb (ptr k') (told:Int)))(j:w'.heap[k']?=aO #[zi (slots:Int),bW] 196)(k:w.heap.size<=k')(d:∃ a n,w.heap[kb]?=O (wI pb a n)) :
  mM base w' kb pb key (ptr k') ⟨p.dJ,G,O (⟨slots,[]⟩,told)⟩:=by
 obtain⟨l,f,m⟩:=h.close;obtain⟨a0,o,d⟩:=d;have q:∀ (b:Nat) (T:Nat) (cs:Array Y),T≠187->w.heap[b]?=aO cs T->w'.heap[b]?=aO cs T:=(by grind [bD.block]);have r:∀ hi,Kept w w' hi:=zg;refine .ask (l:=l) (ol:=w.heap.size) (c:=⟨slots,[]⟩) (vs:=[]) hk (g.block _ _ f ?_) (by grind [qx.map,yP.bL]) g.size ⟨j,k,a4d _ _ _ _,J⟩ i;intro e;rw[e,d] at f;cases f
def mM.aTW(h:mM base w kb pb key at_ p)(u:at_≠au V):∃ ab ol insv vs c,at_=ptr ab/\p.cur=O c/\qT w ol ab insv vs c/\ol<=w.heap.size/\base<=ol /\
  ∀ w' a l0 i,bD (fun b o=>b=ab\/(ol<=b/\∃ cs,o = ah cs 198 (0,0))) w w'->w'.heap[ab]?=aO #[zi (c.slots:Int),a] 196->w'.ownsRow ol 198 4 a (c.ins.length+1) (vs++l0)->wu w' l0 [i]->mM base w' kb pb key (ptr ab) (p.add i):=by
 have main:∀ {ab ol:Nat} {insv:Y} {vs:List Y} {c:Co},qT w ol ab insv vs c->∀ w' a l0 i,bD (fun b o=>b=ab\/(ol<=b/\∃ cs,o = ah cs 198 (0,0))) w w'->w'.heap[ab]?=aO #[zi (c.slots:Int),a] 196->w'.ownsRow ol 198 4 a (c.ins.length+1) (vs++l0)->wu w' l0 [i] ->
   qT w' ol ab a (vs++l0) { c with ins:=c.ins++[i] }/\(∀ (b:Nat) (T:Nat) (cs:Array Y),b<ol\/(T≠198/\T≠196)->w.heap[b]?=aO cs T->w'.heap[b]?=aO cs T)/\(∀ (b:Nat) (l:List (Bs×Y)),w.heap[b]?=O (eM l)->w'.heap[b]?=O (eM l)):=by
  intro ab ol insv vs c hO w' a l0 i d g hr hi;have n:∀ (b:Nat) (T:Nat) (cs:Array Y),b<ol\/(T≠198/\T≠196)->w.heap[b]?=aO cs T->w'.heap[b]?=aO cs T:=fun b T cs r f=>d.block _ _ f (by
   rintro (e | ⟨s,cs',m⟩)
   .rcases r with h | h
    .have:=hO.low;omega
    .rw[e,hO.cell] at f;grind
   grind)
  refine⟨⟨g,hO.low,zg,(hO.ins.bL yH).snoc hi⟩,n,fun b l f=>d.block _ _ f ?_⟩;rintro (e | ⟨s,cs',m⟩)
  .rw[e,hO.cell] at f;cases f
  .cases m
 cases h with
 | zero hk hm=>exact yH
 | pred hk hm hu lu hD hr hv hC j3=>exact yH
 | @cl l D v name ar pl ol ab C cbs insv vs c hk hm hu lu hD hr hv hC px hO j3 fc=>
  refine⟨_,_,_,_,_,J,?_,hO,px,fc,fun w' a l0 i d g j hi=>?_⟩
  .show(if G=G then mF.Ll (D++[⟨name,ar,C++[c]⟩]) else V)=O c;rw[zip rfl];grind [mF.Ll,List.getLast?_concat]
  .obtain⟨g1,g2,g3⟩:=main hO w' a l0 i d g j hi;have k:Kept w w' ol:=zg;have e:(Pv.mk (D++[⟨name,ar,C++[c]⟩]) G V).add i=⟨D++[⟨name,ar,C++[{ c with ins:=c.ins++[i] }]⟩],G,V⟩:=by
    grind [Pv.add,YN,apf]
   rw[e];exact .cl yH yH hu lu (by grind [qx.map,yP.bL]) (by grind [GB]) hv (hC.bL k) (Nat.le_trans px d.size) g1 j3 fc
 | @ask l D key ol ab told insv vs c hk hm hD px hO fc=>
  refine⟨_,_,_,_,_,J,J,hO,px,fc,fun w' a l0 i d g j hi=>?_⟩;obtain⟨g1,g2,g3⟩:=main hO w' a l0 i d g j hi;have k:Kept w w' ol:=zg;exact .ask (g2 _ _ _ (.inr ⟨zd,zd⟩) hk) (g3 _ _ hm) (hD.map fun v q h=>h.bL k fun b cs _ t=>g2 b _ cs (.inr ⟨zd,zd⟩) t) (Nat.le_trans px d.size) g1 fc
def mM.done(h:mM base w kb pb key at_ p){c:Co}{n:Nat}(a:p.ask=O (c,n)):∃ ab,yE w kb pb ab n p.dJ/\Gj w ab c:=by
 cases h with
 | zero hk hm=>grind
 | pred hk hm hu lu hD hr hv hC j3=>grind
 | cl hk hm hu lu hD hr hv hC px hO j3 fc=>grind
 | @ask l D key ol ab told insv vs b hk hm hD px hO fc=>
  have a:O (b,told)=O (c,n):=a;cases a;exact⟨ab,⟨hk,hD.aTH hm⟩,hO.done.coM⟩
end
