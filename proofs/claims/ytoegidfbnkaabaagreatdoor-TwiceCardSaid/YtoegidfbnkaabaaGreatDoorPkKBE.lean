/- A part of one proof (VP6, VP7, ShX4c, VP8, ShX4e, VP9, VP10, VP11). -/
import Derived.Test.YtoegidfbnkaabaaGreatDoorPkKBD
set_option linter.all false
set_option maxRecDepth 100000
set_option maxHeartbeats 8000000
open Option renaming some → O, none → V
open Go renaming Value → Y, World → Z
open Bool renaming true → A, false → ae
open Go.Obj renaming cells → ah
open Go.Ending renaming returned → ai
open Go.Value renaming nilIface → aj, iface → ak, tuple → aq, pointer → au
open Go.Calls renaming mono → a0C
open Nat renaming le_refl → a0D, zero_le → a0R
open List renaming drop_eq_getElem_cons → a0I, length_singleton → a1j, drop_of_length_le → a2u, getElem?_concat_length → a4d
open Go.Value renaming string → a0U
open Go.World renaming ownsRow_nil → a00
open Go.Exit renaming thenS → a1i
open UInt8 renaming toNat_inj → a1t
open Go.Lib renaming hasSuffix → a2w, index → a3m, trimSuffix → a3L, splitB → a3Y
open Go.Proofs.Tryz renaming prog → baK
open Go.Proofs.Tryz
namespace Go.Proofs.YtoegidfbnkaabaaGreatDoor
open P
open Go.RowKit Sx
variable{R:Ending->Z->Prop}{base cap cb e k' n pb so told xb:Nat}{cs:Array Y}{o4 o5 tv v vv:Y}{res:Z->Prop}{vars:List Bs}{vs xs:List Y}{w:Z}{wd:Bs}
def asp{size:Nat}{o:Obj}(h:w.ownsRow base e size v n xs)(hx:xb<base):(bT w xb o).ownsRow base e size v n xs:=by
 refine⟨h.1,?_⟩;rcases h.2 with r | ⟨g,cap,cur,a,b,d,c⟩
 .exact yH
 .exact .inr ⟨g,cap,cur,a,b,yH,c⟩
def asq(slots:Nat)(ws:List Bs)(k:Int)(w:Z)(e:Ending)(w':Z):Prop:=Ext w w'/\match vE slots ws with
 | some i=>∃ cv sv,e = ai (.agg #[.string (bs i.word),.string (bs i.name),cv,sv])/\ym cv i.const/\w'.ownsRow w.heap.size 3 1 sv i.s.length (uO i.s)
 | none=>np 5 k w w' e
def aRX{wb:Nat}{ws:List Bs}{slots:Nat}{insv:Y}{k:Int}(hw:w.heap[wb]?=O (ah ((wd::ws).map fun s=>a0U (bs s)).toArray 9 (0,0)))
  (hc:w.heap[cb]?=aP #[zi (slots:Int),insv] 196) (iW:slots<=100000) (hlen:ws.length<=100000) (He:∀ s∈wd::ws,s.length<=1000000) (hT:BI w) (hP:lP w) :
  Calls baK 74 #[cU wb (ws.length+1) (ws.length+1),pp cb,zi k] w (asq slots (wd::ws) k w):=by
 suffices H:∀ R:Ending->Z->Prop,(∀ e w',asq slots (wd::ws) k w e w'->R e w')->Calls baK 74 #[cU wb (ws.length+1) (ws.length+1),pp cb,zi k] w R from H _ zg;intro R hR;have lw:=bn hw;have lc:=bn hc;have yv:∀ w2,Ext w w2->vE slots (wd::ws)=V->∀ e w3,Ext w2 w3->np 5 k w2 w3 e->∃ b,e = .panicked [{ v:=ak 73 (pp b),recovered:=false }]/\R e w3:=fun w2 dT hu e w3 eK hf=>by
  have Dw:=hf;obtain⟨b,rfl,S,h3⟩:=Dw;exact⟨b,J,hR _ _ ⟨yF,by rw[hu];exact hf.ext dT⟩⟩
 have C5:∀ w2,Ext w w2->vE slots (wd::ws)=V->∀ K:Y->Z->Prop,Calls baK 70 #[zi k] w2 (ends K (PC R)):=fun w2 dT hu K=>by
  refine(Vb k w2).mono ?_;rintro e w3 ⟨eK,hf⟩;obtain⟨b,rfl,h⟩:=yv w2 dT hu e w3 eK hf;exact h
 obtain⟨cs,jP⟩:=ck (((wd::ws).map fun s=>a0U (bs s)).toArray);have asr:cs[0]?=O (aW wd):=zg;have ahE:∀ q,(hq:q<ws.length)->cs[q+1]?=O (aW (ws[q])):=zg;rw[<- jP] at hw;refine aRT ?_;refine dB hw asr ?_;obtain⟨w2,j3⟩:=ck (bT ((w.alloc (ah #[aW [],aW [],aj,b9] 198 (0,0))).alloc (ah #[aW [],aW [],aj,b9] 198 (0,0))) (w.heap.size+1) (ah (oV #[a0U (bs []),aW [],aj,b9] 0 (Value.agg #[aW wd,aW [],aj,b9]).cells.toList) 198 (0,0)));rw[<- j3];have dT:Ext w w2:=yF;have r2:w2.heap[w.heap.size]?=aP #[aW [],aW [],aj,b9] 198:=yH;have x2:w2.heap[w.heap.size+1]?=aP #[aW wd,aW [],aj,b9] 198:=by rw[j3];exact qo J (yH)
 clear j3;obtain⟨rb,Lf⟩:=ck w.heap.size;obtain⟨xb,um⟩:=ck (w.heap.size+1);rw[<- Lf] at r2;rw[<- um] at x2;have dE:Ext w2 w2.drew:=yF;have lY:(w.alloc (ah #[aW [],aW [],aj,b9] 198 (0,0))).heap.size=xb:=yH;rw[lY,<- Lf];refine⟨fun w'=>Ext w2 w',dE,?_⟩;have j3:=dT.ext _ _ hw;refine cR (pp wb) (fun w' j=>by have f:=j.ext _ _ j3;have:=bn f;exact fj f) ?_;refine cR (aW wd) (fun w' j=>by have f:=j.ext _ _ j3;have:=bn f;exact lW f asr) ?_;refine a0C (aqN w2.drew) ?_;rintro e w5 ⟨rq,sm,sl,rfl,hsm,U0,ahc⟩;have KS:Ext w2 w5:=yF;have Hk:=dT.trans KS;refine⟨KS,?_⟩;rw[K7 (k:=9) (e:=98) (z:=b9) zk zk zk U0.map wd A];have Pf:=U0.find ahc wd;cases hf:fP wd sl 0 with
 | none=>
  rw[hf] at Pf;simp only;refine cR b9 (fun w' j=>eS) ?_;refine cR (.bool ae) (fun w' j=>eS) ?_;refine⟨fun _ _=>False,?_,by rintro _ _ h;exact h.elim⟩;refine bF ?_;exact C5 w5 Hk (by grind [P.aso]) _
 | some p=>
  obtain⟨q0,Y6⟩:=p;rw[hf] at Pf;obtain⟨sh,sX,Q2⟩:=Pf;simp only;refine cR Y6 (fun w' j=>eS) ?_;refine cR (.bool A) (fun w' j=>eS) ?_;refine⟨fun _ w'=>w'=w5,?_,?_⟩
  .exact eS
  rintro s0 Oq rfl d0;have II:vE slots (wd::ws)=match mV slots sh ws ⟨wd,[],V,[]⟩with
   | some (i,[])=>if ((wd=[109,97,107,101]\/wd=[115,112,108,105,116])/\i.s.length<2)\/(wd=nD/\jx i.name≠i.s.length) then V else O i
   | _=>none:=by grind [P.aso]
  have aQN:sh.length<=3:=arN sX;have ahd:∀ x∈sh,x=115\/x=112\/x=99\/x=110\/x=42:=by
   rcases PE sX with⟨-,rfl⟩| ⟨-,rfl⟩| ⟨-,rfl⟩| ⟨-,rfl⟩| ⟨-,rfl⟩| ⟨-,rfl⟩| ⟨-,rfl⟩<;>decide
  obtain⟨Y7,shc,ahe⟩:∃ a c,Y6 = .slice a sh.length c:=by
   rcases Q2 with⟨h1,S⟩| ⟨b,zz,-,h1,-⟩<;>grind
  subst ahe;have h1i:(1:Int)<=((ws.length+1:Nat):Int):=zo;refine cM h1i ?_;obtain⟨off,aRZ,aR0⟩:∃ off,sliced (O ⟨wb,0,V⟩) 1 (ws.length+1) (ws.length+1) 1 = .slice (O ⟨wb,off,V⟩) ws.length ws.length/\(0<ws.length->off=1):=by
   by_cases h:ws.length=0
   .exact⟨0,by grind [sliced],zo⟩
   .exact⟨1,by grind [acn],zg⟩
  rw[aRZ];obtain⟨base,ln⟩:=ck Oq.heap.size;have TH:=KS.size;have lx2:=bn x2;have um:xb<base:=zo;have x5:=KS.ext _ _ x2;have r5:=KS.ext _ _ r2;have ow:=Hk.ext _ _ hw;have hc5:=Hk.ext _ _ hc;have hlw:wb≠xb:=zo;have hlc:cb≠xb:=zo;have qX:∀ {b:Nat} {o:Obj} {w':Z},LF base xb Oq w'->Oq.heap[b]?=O o->b≠xb->w'.heap[b]?=O o:=(by grind [bn,bD.block]);have KR:∀ {w':Z},LF base xb Oq w'->Ext w w':=fun{w'} hF=>⟨hF.os.trans Hk.os,hF.tape.trans Hk.tape,hF.output.trans Hk.output,yH,(by grind [bn,bD.ext])⟩;have Ck:∀ {a b c:Z},LF base xb a b->Ext b c->LF base xb a c:=yF;have aZF:∀ q,(hq:q<ws.length)->(ws[q]).length<=1000000:=zg;have xO:mV slots sh ws ⟨wd,[],V,[]⟩=V->vE slots (wd::ws)=none:=zg;refine⟨fun _ w'=>∃ i cv a c,LF base xb Oq w'/\LD base xb cv (.slice a i.s.length c) w' i/\i.word=wd/\i.s.length<=200000 /\
   ((42∈sh/\mV slots sh ws ⟨wd,[],V,[]⟩=O (i,[]))\/(¬ 42∈sh/\sh.length<=ws.length/\mV slots sh ws ⟨wd,[],V,[]⟩=O (i,ws.drop sh.length))),?_,?_⟩
  .refine bF ?_;refine⟨fun m z w'=>∃ q i cv a c,z 35=zi ((q:Nat):Int)/\q<=sh.length/\q<=ws.length/\m=sh.length-q/\LF base xb Oq w'/\LD base xb cv (.slice a i.s.length c) w' i/\i.word=wd/\(∀ y∈sh.take q,y≠42)/\mV slots sh ws ⟨wd,[],V,[]⟩=mV slots (sh.drop q) (ws.drop q) i/\i.s.length<=q,
    ⟨_,0,⟨wd,[],V,[]⟩,aj,V,0,J,a0R _,a0R _,J,bD.refl _ _,⟨x5,J,a00 _ _ _ _⟩,J,zs,J,a0D _⟩,?_⟩
   intro m z d w6 hI;refine toPr ?_;obtain⟨q,i,cv,a,c,N,hq,hqw,rfl,M,C,Q,tn,n,Q8⟩:=hI;have j4:=KR M;have po:=qX M ow hlw;have Jj:=qX M hc5 hlc;have Hq:=hT.ext j4;have vn:=hP.ext j4;have yu:((q:Nat):Int).toNat=q:=zo;by_cases U1:q<sh.length
   .have rv:((q:Nat):Int)<(sh.length:Int):=zo;obtain⟨shb,shz,mM,Ho⟩:∃ b z,Y7=O ⟨b,0,V⟩/\w6.heap[b]?=O (ah (uF sh).toArray 5 z):=by
     rcases Q2 with⟨h1,-⟩| ⟨b,zz,-,h1,-,S⟩<;>grind
    subst mM;obtain⟨x,YR⟩:=ck (sh[q]);have jJ:(uF sh).toArray[q]?=O (.int .u8 (x.toNat:Int)):=zg;have Oj:sh.drop q=x::sh.drop (q+1):=by grind [a0I]
    have Ce:x∈sh:=zg;obtain⟨B,hB⟩:=ck ((uF sh).toArray);rw[<- hB] at Ho jJ;rw[Oj,P.aRW] at n;have sJ:=ahd x Ce;by_cases Q4:x=42
    .have T:(x.toNat:Int)=42:=by rw[Q4];rfl
     rw[zip Q4] at n;refine dL N rv Ho (zA jJ (zA @yu T)) ?_;obtain⟨aZG,aR2,aR3⟩:∃ o,sliced (O ⟨wb,off,V⟩) q ws.length ws.length 1 = .slice (O ⟨wb,o,V⟩) (ws.length-q) (ws.length-q)/\(q<ws.length->o=q+1):=by
      by_cases h:ws.length=q
      .exact⟨off,by unfold sliced;grind,zo⟩
      .exact⟨q+1,by grind [acn],zg⟩
     rw[yu,aR2];refine bF ?_;refine⟨fun m z w'=>∃ p i' cv a c,z 46=zi ((p:Nat):Int)/\p<=ws.length-q/\m=ws.length-q-p/\LF base xb Oq w'/\LD base xb cv (.slice a i'.s.length c) w' i'/\i'.word=wd/\i'.s.length<=q+p /\
      mV slots sh ws ⟨wd,[],V,[]⟩=match xZ slots (ws.drop (q+p)) with
       | some l=>O ({ i' with s:=i'.s++l },[])
       | none=>V,⟨_,0,i,cv,a,c,J,a0R _,J,M,C,Q,Q8,n⟩,?_⟩
     clear n C Q Q8 M j4 po Jj Hq vn Ho;intro m z2 d2 w8 hI;refine toPr ?_;obtain⟨p,i,cv,a,c,DI,hp,rfl,Jl,hX8,Q,Q8,n⟩:=hI;have ti:=KR Jl;have LA:=qX Jl ow hlw;have hc8:=qX Jl hc5 hlc;have hx8:=hX8.cell;have lx8:=bn hx8;have epn:((p:Nat):Int).toNat=p:=zo;by_cases jT:p<ws.length-q
     .have zb:((p:Nat):Int)<((ws.length-q:Nat):Int):=zo;have hqp:q+p<ws.length:=zo;have nH:cs[q+1+p]?=O (aW (ws[q+p])):=zg;have asx:Ext w8 w8.drew:=yF;rw[a0I hqp] at n;rw[aR3 zo];refine dL DI zb LA (zA nH @epn) ?_;refine⟨fun w'=>Ext w8 w',asx,?_⟩;refine cR (pq xb 3) (fun w' j=>by have f:=j.ext _ _ hx8;have:=bn f;exact fj f) ?_;refine cR (.slice a i.s.length c) (fun w' j=>by have f:=j.ext _ _ hx8;have:=bn f;exact fj f) ?_;refine cR (pp cb) (fun w' j=>by have f:=j.ext _ _ hc8;have:=bn f;exact fj f) ?_;refine cR (zi (slots:Int)) (fun w' j=>by have f:=j.ext _ _ hc8;have:=bn f;exact fj f) ?_;refine a0C (On ws[q+p] slots k w8.drew zg iW (by grind [BI.ext]) (by grind [lP.ext])) ?_;rintro e U ⟨D,hu⟩;cases F:km ws[q+p] slots with
      | none=>
       rw[F] at hu;have hn:xZ slots (ws[q+p]::ws.drop (q+p+1))=none:=by unfold xZ;rw[F]
       rw[hn] at n;obtain⟨b,rfl,h⟩:=yv w8.drew yF zg e U D hu;exact fun _=>h
      | some s=>
       rw[F] at hu;subst hu;have ahH:=asx.trans D;have ku:=Ck Jl ahH;refine⟨ahH,?_⟩;refine bF ?_;refine⟨yF,?_⟩;refine ahD (hX8.ext ahH) (by rw[ln];exact ku.size) um zo s fun a' n' c' jA Vd yw vp=>?_;refine dB Vd DI ?_;have DH:xZ slots (ws[q+p]::ws.drop (q+p+1))=match xZ slots (ws.drop (q+p+1)) with
        | some l=>O (s::l)
        | none=>none:=by
        conv=>lhs;unfold xZ
        rw[F];cases xZ slots (ws.drop (q+p+1))<;>rfl
       obtain⟨a2,c2,j6⟩:=ij yw.row;cases j6;refine⟨_,?_,p+1,_,cv,a',c',J,zo,J,ku.trans vp,yw,Q,zg,?_⟩
       .omega
       .rw[n,DH,show q+(p+1)=q+p+1 from rfl];grind [xZ]
     .have zb:¬ ((p:Nat):Int)<((ws.length-q:Nat):Int):=zo;refine dB DI zb ?_;rw[a2u zo] at n;have n:mV slots sh ws ⟨wd,[],V,[]⟩=O (i,[]):=by rw[n];simp [xZ]
      grind
    .have T:¬ (x.toNat:Int)=42:=fun e=>Q4 (a1t.1 zg);rw[bO Q4] at n;refine dL N rv Ho (zA jJ (zA @yu T)) ?_;refine⟨fun _ w'=>w'=w6/\q<ws.length,?_,?_⟩
     .by_cases asy:q<ws.length
      .have eh:¬ ((q:Nat):Int)=(ws.length:Int):=zo;refine dB N eh ?_;omega
      .have Em:((q:Nat):Int)=(ws.length:Int):=zo;rw[a2u zo] at n;refine dB N Em ?_;exact C5 w6 j4 zg _
     .rintro s2 G ⟨rfl,asy⟩ d2;have Zn:((q:Nat):Int)<(ws.length:Int):=zo;have nH:cs[1+q]?=O (aW (ws[q])):=zg;have LG:Ext G G.drew:=yF;have E:=C.cell;have lx6:=bn E;have jg:=C.con.cases;have Zo:∀ y∈sh.take (q+1),y≠42:=zg;rw[a0I asy] at n;simp only at n;rw[aR0 zo];by_cases Q3:x=115
      .have T:(x.toNat:Int)=115:=by rw[Q3];rfl
       rw[zip Q3] at n;refine cM T ?_;refine⟨fun w'=>Ext G w',LG,?_⟩;refine cR (pq xb 3) (fun w' j=>by have f:=j.ext _ _ E;have:=bn f;exact fj f) ?_;refine cR (.slice a i.s.length c) (fun w' j=>by have f:=j.ext _ _ E;have:=bn f;exact fj f) ?_;refine cR (pq wb (1+q)) (fun w' j=>by have f:=j.ext _ _ po;have:=bn f;exact AV f N Zn @yu) ?_;refine cR (aW (ws[q])) (fun w' j=>by have f:=j.ext _ _ po;have:=bn f;exact lW f nH) ?_;refine cR (pp cb) (fun w' j=>by have f:=j.ext _ _ Jj;have:=bn f;exact fj f) ?_;refine cR (zi (slots:Int)) (fun w' j=>by have f:=j.ext _ _ Jj;have:=bn f;exact fj f) ?_;refine a0C (On ws[q] slots k G.drew zg iW (Hq.ext LG) (vn.ext LG)) ?_;rintro e U ⟨D,hu⟩;cases F:km ws[q] slots with
       | none=>
        rw[F] at hu n;obtain⟨b,rfl,h⟩:=yv G.drew yF zg e U D hu;exact fun _=>h
       | some s=>
        rw[F] at hu n;subst hu;have tj:=LG.trans D;have ku:=Ck M tj;refine⟨tj,?_⟩;refine bF ?_;refine⟨yF,?_⟩;refine ahD (C.ext tj) (by rw[ln];exact ku.size) um zo s fun a' n' c' jA Vd yw vp=>?_;refine dB Vd N ?_;obtain⟨a2,c2,j6⟩:=ij yw.row;cases j6;refine⟨_,?_,q+1,_,cv,a',c',J,zo,zo,J,ku.trans vp,yw,Q,Zo,n,zg⟩;omega
      .rw[bO Q3] at n;have ahI:¬ (x.toNat:Int)=115:=fun e=>Q3 (a1t.1 zg);by_cases vG:x=99
       .have T:(x.toNat:Int)=99:=by rw[vG];rfl
        rw[zip vG] at n;refine dL ahI T po (zA nH (zA N (zA Zn @yu))) ?_;refine a0C (aRU ws[q] k G zg Hq vn) ?_;rintro e U ⟨D,hu⟩;cases F:DY ws[q] with
        | none=>
         rw[F] at hu n;obtain⟨b,rfl,h⟩:=yv G j4 zg e U D hu;exact h
        | some t=>
         rw[F] at hu n;obtain⟨X1,rfl,Q1⟩:=hu;obtain⟨t1,u1,rfl⟩:∃ t u,X1 = ak t u:=by
          rcases Q1.cases with rfl | h
          .cases t<;>(first | exact Q1.elim | exact absurd Q1 (by intro h;cases h))
          omega
         have xk:=D.ext _ _ E;have lx9:=bn xk;refine dB xk N ?_;refine⟨_,?_,q+1,{ i with const:=O t },ak t1 u1,a,c,J,zo,zo,J,(Ck M D).bT yH,⟨yH,Q1,?_⟩,Q,Zo,n,Nat.le_succ_of_le Q8⟩
         .omega
         .exact asp (jQ D.ext C.row) um
       .rw[bO vG] at n;have U2:¬ (x.toNat:Int)=99:=fun e=>vG (a1t.1 zg);by_cases AE:x=110
        .have T:(x.toNat:Int)=110:=by rw[AE];rfl
         rw[zip AE] at n;refine dL ahI U2 T (zA po (zA nH (zA N (zA Zn @yu)))) ?_;refine a0C (ahB ws[q] k G zg) ?_;rintro e U ⟨D,hu⟩;cases F:pS ws[q] with
         | none=>
          rw[F] at hu n;obtain⟨b,rfl,h⟩:=yv G j4 zg e U D hu;exact h
         | some t=>
          rw[F] at hu n;subst hu;have xk:=D.ext _ _ E;have lx9:=bn xk;refine dB xk N ?_;refine⟨_,?_,q+1,{ i with name:=t },cv,a,c,J,zo,zo,J,(Ck M D).bT yH,⟨yH,C.con,?_⟩,Q,Zo,n,Nat.le_succ_of_le Q8⟩
          .omega
          .exact asp (jQ D.ext C.row) um
        .rw[bO AE] at n;have ahk:¬ (x.toNat:Int)=110:=fun e=>AE (a1t.1 zg);have ahj:x=112:=by
          grind
         have T:(x.toNat:Int)=112:=by rw[ahj];rfl
         refine dL ahI U2 ahk T ?_;refine⟨fun w'=>Ext G w',LG,?_⟩;refine cR (pq xb 3) (fun w' j=>by have f:=j.ext _ _ E;have:=bn f;exact fj f) ?_;refine cR (.slice a i.s.length c) (fun w' j=>by have f:=j.ext _ _ E;have:=bn f;exact fj f) ?_;refine cR (pq wb (1+q)) (fun w' j=>by have f:=j.ext _ _ po;have:=bn f;exact AV f N Zn @yu) ?_;refine cR (aW (ws[q])) (fun w' j=>by have f:=j.ext _ _ po;have:=bn f;exact lW f nH) ?_;refine a0C (On ws[q] 10000 k G.drew zg zo (Hq.ext LG) (vn.ext LG)) ?_;rintro e U ⟨D,hu⟩;cases F:km ws[q] 10000 with
         | none=>
          rw[F] at hu n;obtain⟨b,rfl,h⟩:=yv G.drew yF zg e U D hu;exact fun _=>h
         | some s=>
          rw[F] at hu n;subst hu;have tj:=LG.trans D;have ku:=Ck M tj;refine⟨tj,?_⟩;refine bF ?_;refine⟨yF,?_⟩;refine ahD (C.ext tj) (by rw[ln];exact ku.size) um zo s fun a' n' c' jA Vd yw vp=>?_;refine dB Vd N ?_;obtain⟨a2,c2,j6⟩:=ij yw.row;cases j6;refine⟨_,?_,q+1,_,cv,a',c',J,zo,zo,J,ku.trans vp,yw,Q,Zo,n,zg⟩;omega
   .have rv:¬ ((q:Nat):Int)<(sh.length:Int):=zo;have Em:q=sh.length:=zo;refine dB N rv ?_;subst Em;rw[List.drop_length,List.take_length] at *;exact⟨i,cv,a,c,M,C,Q,zo,.inr ⟨zg,hqw,n⟩⟩
  .rintro s6 w6 ⟨i,cv,a,c,M,C,Q,Q8,AH⟩ d6;have j4:=KR M;have zw:Ext w6 w6.drew:=yF;have hX7:=C.ext zw;have I:=hX7.cell;have lx7:=bn I;rw[Q] at I;have aR7:Jb w6 sm (.slice Y7 sh.length shc) sh:=by
    rcases Q2 with h | ⟨b,zz,h1,S,h3,h4⟩
    .exact .inl h
    .refine .inr ⟨b,zz,h1,S,h3,qX M h4 ?_⟩;grind
   refine a0C (aRV aR7 42 zo) ?_;rintro e G ⟨rfl,rfl⟩;have kT:∀ rest,mV slots sh ws ⟨wd,[],V,[]⟩=O (i,rest)->(rest=[]->vE slots (wd::ws)=if ((wd=[109,97,107,101]\/wd=[115,112,108,105,116])/\i.s.length<2)\/(wd=nD/\jx i.name≠i.s.length) then V else O i)/\(rest≠[]->vE slots (wd::ws)=V):=zg;have Ts:(42∈sh\/ws.length=sh.length)->vE slots (wd::ws)=if ((wd=[109,97,107,101]\/wd=[115,112,108,105,116])/\i.s.length<2)\/(wd=nD/\jx i.name≠i.s.length) then V else O i:=zg
   refine⟨fun _ w'=>w'=G.drew/\vE slots (wd::ws)=O i,?_,?_⟩
   .refine⟨fun z w'=>w'=G.drew/\∃ b,z 159 = .bool b/\(b=A->vE slots (wd::ws)=V)/\(b=ae->vE slots (wd::ws)=O i),?_,?_⟩
    .refine⟨fun w'=>Ext G w',zw,?_⟩;by_cases aR8:sh.contains 42=ae/\¬ ws.length=sh.length
     .obtain⟨L,eh⟩:=aR8;have aR9:¬ (ws.length:Int)=(sh.length:Int):=zo;refine cM L ?_;refine cR (zi (ws.length:Int)) (fun w' j=>eS) ?_;refine cM aR9 ?_;refine⟨A,J,fun _=>?_,zg⟩;rcases AH with⟨h1,-⟩| ⟨h1,S,h3⟩
      .grind
      .refine(kT _ h3).2 (fun e=>?_);have:=congrArg List.length e;grind
     .have E:=C.cell;rw[Q] at E;by_cases L:sh.contains 42=A
      .have X:=Ts (.inl (by simpa using L));by_cases hm:wd=[109,97,107,101]\/wd=[115,112,108,105,116]
       .have hnt:¬ wd=[116,101,115,116]:=zg;have aSa:¬ bs wd=bs [116,101,115,116]:=zg;by_cases S:i.s.length<2
        .have W:(i.s.length:Int)<2:=zo;rw[zip (.inl ⟨hm,S⟩)] at X;rcases hm with rfl | rfl
         .refine jt L I W ?_;grind
         .refine jt L I W ?_;grind
        .have W:¬ (i.s.length:Int)<2:=zo;rw[bO (by rintro (⟨-,h⟩| ⟨h,-⟩);exact S h;exact hnt h)] at X;rcases hm with rfl | rfl
         .refine jt L I W ?_;grind
         .refine jt L I W ?_;grind
       .obtain⟨IZ,nP⟩:=not_or.1 hm;by_cases ht:wd=[116,101,115,116]
        .subst ht;refine dL L I IZ nP ?_;refine cR (pq xb 1) (fun w' j=>by have f:=j.ext _ _ E;have:=bn f;exact fj f) ?_;refine cR (aW i.name) (fun w' j=>by have f:=j.ext _ _ E;have:=bn f;exact fj f) ?_;refine cR (pq xb 3) (fun w' j=>by have f:=j.ext _ _ E;have:=bn f;exact fj f) ?_;refine cR (.slice a i.s.length c) (fun w' j=>by have f:=j.ext _ _ E;have:=bn f;exact fj f) ?_;refine cR (zi (i.s.length:Int)) (fun w' j=>eS) ?_;refine a0C (MK i.name) ?_;rintro e U ⟨rfl,rfl⟩;refine⟨zw,?_⟩;by_cases kQ:jx i.name=(i.s.length:Int)
         .refine cM kQ ?_;grind
         .refine cM kQ ?_;refine⟨A,J,fun _=>?_,zg⟩;rw[X,zip (.inr ⟨J,kQ⟩)]
        .rw[bO (by rintro (⟨h,-⟩| ⟨h,-⟩);exact hm h;exact ht h)] at X;refine dL L I IZ (zA nP ht) ?_;grind
      .have L:sh.contains 42=false:=zg;have hle:ws.length=sh.length:=zg;have Q9:(ws.length:Int)=(sh.length:Int):=zo;have X:=Ts (.inr hle);by_cases hm:wd=[109,97,107,101]\/wd=[115,112,108,105,116]
       .have hnt:¬ wd=[116,101,115,116]:=zg;have aSa:¬ bs wd=bs [116,101,115,116]:=zg;by_cases S:i.s.length<2
        .have W:(i.s.length:Int)<2:=zo;rw[zip (.inl ⟨hm,S⟩)] at X;rcases hm with rfl | rfl
         .refine cM L ?_;refine cR (zi (ws.length:Int)) (fun w' j=>eS) ?_;refine jt Q9 I W ?_;grind
         .refine cM L ?_;refine cR (zi (ws.length:Int)) (fun w' j=>eS) ?_;refine jt Q9 I W ?_;grind
        .have W:¬ (i.s.length:Int)<2:=zo;rw[bO (by rintro (⟨-,h⟩| ⟨h,-⟩);exact S h;exact hnt h)] at X;rcases hm with rfl | rfl
         .refine cM L ?_;refine cR (zi (ws.length:Int)) (fun w' j=>eS) ?_;refine jt Q9 I W ?_;grind
         .refine cM L ?_;refine cR (zi (ws.length:Int)) (fun w' j=>eS) ?_;refine jt Q9 I W ?_;grind
       .obtain⟨IZ,nP⟩:=not_or.1 hm;by_cases ht:wd=[116,101,115,116]
        .subst ht;refine cM L ?_;refine cR (zi (ws.length:Int)) (fun w' j=>eS) ?_;refine dL Q9 I IZ nP ?_;refine cR (pq xb 1) (fun w' j=>by have f:=j.ext _ _ E;have:=bn f;exact fj f) ?_;refine cR (aW i.name) (fun w' j=>by have f:=j.ext _ _ E;have:=bn f;exact fj f) ?_;refine cR (pq xb 3) (fun w' j=>by have f:=j.ext _ _ E;have:=bn f;exact fj f) ?_;refine cR (.slice a i.s.length c) (fun w' j=>by have f:=j.ext _ _ E;have:=bn f;exact fj f) ?_;refine cR (zi (i.s.length:Int)) (fun w' j=>eS) ?_;refine a0C (MK i.name) ?_;rintro e U ⟨rfl,rfl⟩;refine⟨zw,?_⟩;by_cases kQ:jx i.name=(i.s.length:Int)
         .refine cM kQ ?_;grind
         .refine cM kQ ?_;refine⟨A,J,fun _=>?_,zg⟩;rw[X,zip (.inr ⟨J,kQ⟩)]
        .rw[bO (by rintro (⟨h,-⟩| ⟨h,-⟩);exact hm h;exact ht h)] at X;refine cM L ?_;refine cR (zi (ws.length:Int)) (fun w' j=>eS) ?_;refine dL Q9 I IZ (zA nP ht) ?_;grind
    .rintro z w8 ⟨rfl,b,hz,ja,fm⟩ dd;rw[hz];cases b with
     | true=>
      refine bF ?_;exact C5 _ yF (ja J) _
     | false=>
      refine bF ?_;grind
   .rintro z w8 ⟨rfl,hi⟩ dd;have hr8:=(qX M r5 zo);have Ol:=zw.ext _ _ hr8;have lr9:=bn Ol;have jg:=C.con.cases;rcases jg with rfl | ⟨t1,u1,rfl⟩
    .refine dB I Ol ?_;refine hR _ _ ⟨yF,?_⟩;rw[hi];refine⟨aj,.slice a i.s.length c,zg,C.con,?_⟩;have dU:=jQ zw.ext C.row;refine⟨dU.1,?_⟩;rcases dU.2 with r | ⟨g,cap,cur,g1,g2,g3,g4⟩
     .exact yH
     .exact .inr ⟨g,cap,cur,g1,zo,yH,g4⟩
    .refine dB I Ol ?_;refine hR _ _ ⟨yF,?_⟩;rw[hi];refine⟨ak t1 u1,.slice a i.s.length c,zg,C.con,?_⟩;have dU:=jQ zw.ext C.row;refine⟨dU.1,?_⟩;rcases dU.2 with r | ⟨g,cap,cur,g1,g2,g3,g4⟩
     .exact yH
     .exact .inr ⟨g,cap,cur,g1,zo,yH,g4⟩
def vU(w:Z):List Y->List P.In->Prop
 | vs,[]=>vs=[]
 | vs,i::r=>∃ cv sv rest,vs=[.string (bs i.word),.string (bs i.name),cv,sv]++rest/\ym cv i.const/\fO (fun _=>True) w 3 sv (uO i.s)/\vU w rest r
theorem vU.bJ{w w':Z}(hk:∀ (b:Nat) (cs:Array Y),w.heap[b]?=aP cs 3->w'.heap[b]?=aP cs 3):∀ {l:List P.In} {vs:List Y},vU w vs l->vU w' vs l
 | [],_,h=>h
 | _::_,_,⟨cv,sv,rest,a,c,d,e⟩=>⟨cv,sv,rest,a,c,d.mono zg yH,vU.bJ hk e⟩
def vU.snoc{w:Z}{i:P.In}{l0:List Y}:∀ {l:List P.In} {vs:List Y},vU w vs l->vU w l0 [i]->vU w (vs++l0) (l++[i])
 | [],vs,a,b=>by subst a;grind
 | x::r,vs,⟨cv,sv,rest,a,c,d,e⟩,b=>⟨cv,sv,rest++l0,zg,c,d,vU.snoc e b⟩
theorem vU.at{w:Z}:∀ {l:List P.In} {vs:List Y} {j:Nat} {i:P.In},vU w vs l->l[j]?=O i->∃ cv sv,vs[j*4]?=O (aW i.word)/\vs[j*4+1]?=O (aW i.name)/\vs[j*4+2]?=O cv/\vs[j*4+3]?=O sv/\ym cv i.const/\fO (fun _=>True) w 3 sv (uO i.s)
 | x::r,vs,0,i,⟨cv,sv,rest,e,b,c,d⟩,a=>by
  have a:x=i:=zg;subst a;exact⟨cv,sv,zg,zg,zg,zg,b,c⟩
 | x::r,vs,j+1,i,⟨cv,sv,rest,e,b,c,d⟩,a=>by
  obtain⟨g,f,g1,g2,g3,g4,g5,g6⟩:=vU.at d (by simpa using a);grind
def De(w:Z)(a cb:Nat)(c:Co):Prop:=cb<a/\∃ insv vs,w.heap[cb]?=aP #[zi (c.slots:Int),insv] 196/\w.ownsRow 0 198 4 insv c.ins.length vs/\(∀ b,insv.ownBlock=O b->b<a)/\vU w vs c.ins
structure qE(w:Z)(lo ab:Nat)(insv:Y)(vs:List Y)(c:Co):Prop where
 cell:w.heap[ab]?=aP #[zi ((c.slots:Nat):Int),insv] 196
 low:lo<=ab
 row:w.ownsRow lo 198 4 insv c.ins.length vs
 ins:vU w vs c.ins
def aSc{size:Nat}(h:w.ownsRow pb e size v n xs)(c:k'<=pb):w.ownsRow k' e size v n xs:=by
 refine⟨h.1,?_⟩;rcases h.2 with r | ⟨g,cap,cur,a,d,b⟩
 .exact yH
 .exact .inr ⟨g,cap,cur,a,zo,b⟩
def qE.done{insv:Y}{c:Co}(h:qE w pb cap insv vs c):De w w.heap.size cap c:=
 ⟨bn h.cell,insv,vs,h.cell,aSc h.row zo,fun _ a=>(Ev h.row a).2.1,h.ins⟩
theorem De.mono{c:Co}(h:De w pb cb c)(e:pb<=cap):De w cap cb c:=by
 obtain⟨f,insv,vs,a,b,g,d⟩:=h;exact⟨zo,insv,vs,a,b,zg,d⟩
theorem De.bJ{w w':Z}{a cb:Nat}{c:Co}(h:De w a cb c)(hk:∀ (b T:Nat) (cs:Array Y),b<a\/T=3->(T=3\/T=196\/T=198)->w.heap[b]?=aP cs T->w'.heap[b]?=aP cs T):De w' a cb c:=by
 obtain⟨d,insv,vs,i,e,f,g⟩:=h;exact⟨d,insv,vs,yH,FP e yH,f,g.bJ yH⟩
def De.coM{c:Co}(h:De w pb cb c):FC w cb c:=by
 obtain⟨l,insv,vs,b,d,m,e⟩:=h;refine⟨insv,b,?_⟩;rcases d.2 with⟨a,n⟩| ⟨g,cap,cur,a,-,f,p,q,r,s⟩
 .exact yH
 .refine .inr ⟨g,cap,cur,a,?_,f,?_,fun j i k=>?_⟩
  .omega
  .omega
  .obtain⟨cv,sv,g1,g2,g3,g4,g5,g6⟩:=e.at k;have t:∀ o,o<c.ins.length*4->cur[o]?=vs[o]?:=zg;exact⟨zg,zg,zg,zg⟩
abbrev Jr(l:List Nat):List Y:=l.map fun b=>pp b
def yx(w:Z)(a:Nat)(cbs:List Nat)(cs:List Co):Prop:=cbs.length=cs.length/\∀ (j:Nat) (c:Co),cs[j]?=O c->∃ cb,cbs[j]?=O cb/\De w a cb c
def yx.snoc{cbs:List Nat}{cs:List Co}{c:Co}(h:yx w pb cbs cs)(f:De w pb cb c):yx w pb (cbs++[cb]) (cs++[c]):=by
 refine⟨by simp [h.1],fun j x a=>?_⟩;by_cases g:j<cs.length
 .rw[List.getElem?_append_left g] at a;obtain⟨b,i,k⟩:=h.2 j x a;grind
 .have d:=(List.getElem?_eq_some_iff.1 a).1;rw[List.length_append,a1j] at d;have e:j=cs.length:=zo;subst e;rw[a4d] at a;cases a;exact⟨cb,by rw[<- h.1,a4d],f⟩
theorem yx.mono{w:Z}{a b:Nat}{cbs:List Nat}{cs:List Co}(h:yx w a cbs cs)(e:a<=b):yx w b cbs cs:=⟨h.1,fun j c d=>let ⟨cb,f,g⟩:=h.2 j c d;(by grind [De.mono])⟩
abbrev Kept(w w':Z)(a:Nat):Prop:=∀ (b T:Nat) (cs:Array Y),b<a\/T=3->(T=3\/T=196\/T=198)->w.heap[b]?=O (ah cs T (0,0))->w'.heap[b]?=O (ah cs T (0,0))
theorem yx.bJ{w w':Z}{a:Nat}{cbs:List Nat}{cs:List Co}(h:yx w a cbs cs)(hk:Kept w w' a):yx w' a cbs cs:=⟨h.1,fun j c b=>let ⟨cb,d,e⟩:=h.2 j c b;(by grind [De.bJ])⟩
theorem yx.aSe{cbs:List Nat}{cs:List Co}(h:yx w pb cbs cs):Bz w (Jr cbs) cs:=
 ⟨by simp [h.1],fun j c a=>let ⟨cb,d,b⟩:=h.2 j c a;⟨cb,zg,b.coM⟩⟩
def yy(w:Z)(a cl:Nat)(v:Y)(q:Pd):Prop:=∃ b cap row cbs,v = cU b q.clauses.length cap/\q.clauses.length<=cap/\b<a/\w.heap[b]?=aP row 185/\row.toList.take q.clauses.length=Jr cbs/\yx w cl cbs q.clauses
theorem yy.mono{w:Z}{a c cl d:Nat}{v:Y}{q:Pd}(h:yy w a cl v q)(f:a<=c)(e:cl<=d):yy w c d v q:=by
 obtain⟨b,cap,row,cbs,g1,g2,g3,g4,g5,g6⟩:=h;exact⟨b,cap,row,cbs,g1,g2,zo,g4,g5,g6.mono e⟩
theorem yy.bJ{w w':Z}{a cl:Nat}{v:Y}{q:Pd}(h:yy w a cl v q)(hk:Kept w w' cl)(hr:∀ (b:Nat) (cs:Array Y),b<a->w.heap[b]?=aP cs 185->w'.heap[b]?=aP cs 185):yy w' a cl v q:=by
 obtain⟨b,cap,row,cbs,g1,g2,g3,g4,g5,g6⟩:=h;exact⟨b,cap,row,cbs,g1,g2,g3,yH,g5,g6.bJ hk⟩
def qg(w:Z)(a cl:Nat):List (Bs×Y)->List Pd->Prop
 | [],[]=>True
 | (k,v)::l,q::D=>(k=P.keyOf q.name q.arity/\q.arity<80/\yy w a cl v q)/\qg w a cl l D
 | _,_=>False
theorem qg.map{w w':Z}{a cl b c:Nat}(d:∀ v q,yy w a cl v q->yy w' b c v q):∀ {l:List (Bs×Y)} {D:List Pd},qg w a cl l D->qg w' b c l D
 | [],[],_=>trivial
 | (_,_)::_,_::_,⟨⟨e,f,g⟩,h⟩=>⟨zg,qg.map d h⟩
def qg.snoc{w:Z}{a cl:Nat}{v:Y}{q:Pd}(b:q.arity<80)(hv:yy w a cl v q):∀ {l:List (Bs×Y)} {D:List Pd},qg w a cl l D->qg w a cl (l++[(P.keyOf q.name q.arity,v)]) (D++[q])
 | [],[],_=>⟨zg,trivial⟩
 | (_,_)::_,_::_,⟨c,h⟩=>⟨c,qg.snoc b hv h⟩
theorem qg.find{w:Z}{a cl:Nat}{name:Bs}{n:Nat}(b:n<80):∀ {l:List (Bs×Y)} {D:List Pd} {j:Nat},qg w a cl l D->match fP (P.keyOf name n) l j with
  | none=>D.find? (fun p=>p.name == name && p.arity == n)=V
  | some (_,v)=>∃ p,D.find? (fun p=>p.name == name && p.arity == n)=O p/\yy w a cl v p
 | [],[],j,_=>rfl
 | (k,v)::l,q::D,j,⟨⟨c,d,e⟩,h⟩=>by
  have ih:=qg.find (name:=name) b (j:=j+1) h;rw[fP,List.find?_cons];by_cases hk:k=P.keyOf name n
  .rw[zip hk];obtain⟨f,g⟩:=(P.aeR d b).1 (c.symm.trans hk);grind
  grind
def qg.aSf{l:List (Bs×Y)}{D:List Pd}(h:qg w k' so l D)(hm:w.heap[pb]?=O (eP l)):Uc w pb D:=by
 refine⟨l,hm,fun name n a=>?_⟩;have:=h.find (name:=name) a (j:=0);cases c:fP (P.keyOf name n) l 0 with
 | none=>
  exact yH
 | some d=>
  obtain⟨k,v⟩:=d;rw[c] at this;obtain⟨p,e,b,cap,row,cbs,g1,g2,g3,g4,g5,g6⟩:=this;grind [yx.aSe]
open Go.Proofs.YtoegidfbnkaabaaGreatDoor.Sx
section
variable{p0 p1 p2 p3 p4 p5 p6 p7:Y}{w:Z}{R:Ending->Z->Prop}
def aSg:=cy w R [p0] (gd [(12,[6,7,45])] [(6000,[36]),(7002,[4]),(17000,[85]),(18001,[]),(20000,[90]),(24002,[]),(26000,[131]),(29000,[166]),(36001,[])] [] [(21,[10,0,1,2,3,5,6,7,8,4,9,10,11]),(28,[15,0,1,2,3,4,5,6,7,8,9,10,11,12,13,14]),(31,[19,0,1,2,3,4,5,6,7,8,9,10,11,12,13,14,15,16,17,18]),(33,[14,0,1,2,3,4,5,6,7,8,9,10,11,12,13])] [] [] [11,15,19,35,36,46,54,59,82,83,84,85,90,98,99,119,120,131,143,144,166,174,175,200,202,221]) func34
end
def aSh(v4 v5:Y)(w:Z):CallsD baK 66 #[v4,v5] .returning w fun e u' w'=>e = ai (aq #[])/\u' = .returning/\w'=w:=by
 refine callsD_of_wpS func66 J fun An cs hu=>?_;apply wpS_seq;apply wpS_region;simp [wpOpsS,go_sem,recoverD,hu,ntmps66,a1i,acI];apply wpS_seq;apply wpS_region;simp [wpOpsS,go_sem,recoverD,hu,ntmps66,a1i];refine wpS_cond (t:=false) (by simp [Act.eval]) ?_;simp only[Bool.false_eq_true,if_false];refine wpS_of_wp (wp_skip ?_);cases An;simp_all [bodyPostS,results,Tryz.results66]
def aSi(b4 b5:Nat)(o4 o5:Y)(v:Y)(xU:List PanicEntry)(w:Z)(h4:w.cell? ⟨b4,0,V⟩=O o4)(z4:w.frozen? ⟨b4,0,V⟩=ae)
  (h5:(w.setCell ⟨b4,0,V⟩ (au V)).cell? ⟨b5,0,V⟩=O o5) (z5:(w.setCell ⟨b4,0,V⟩ (au V)).frozen? ⟨b5,0,V⟩=ae) :
  CallsD baK 66 #[pp b4,pp b5] (.panicking ({ v:=ak 73 v,recovered:=false }::xU)) w fun e u' w'=>
   e = ai (aq #[])/\u' = .panicking ({ v:=ak 73 v,recovered:=true }::xU)/\w'=(w.setCell ⟨b4,0,V⟩ (au V)).setCell ⟨b5,0,V⟩ (ak 73 v):=by
 refine callsD_of_wpS func66 J fun An cs hu=>?_;apply wpS_seq;apply wpS_region;simp [wpOpsS,go_sem,recoverD,hu,ntmps66,a1i,acJ];apply wpS_seq;apply wpS_region;simp [wpOpsS,go_sem,recoverD,hu,ntmps66,a1i];refine wpS_cond (t:=true) (by simp [Act.eval]) ?_;simp only[if_true];apply wpS_region;simp [wpOpsS,go_sem,recoverD,hu,ntmps66,a1i,h4,z4,h5,z5];simp [bodyPostS,results,Tryz.results66]
def asA(h:res w) :
  LV baK res R [{ target:=.fn (.func 66) #[tv,vv],args:=#[]++#[] }] .returning w:=by
 refine BT zk zs ((aSh tv vv w).mono ?_);rintro e a w' ⟨rfl,rfl,rfl⟩;exact h
def aSj(a:w.heap[pb]?=aP #[o4] 108)
  (d:w.heap[cap]?=aP #[o5] 57) (f:pb≠cap)
  (h:res (bT (bT w pb (ah #[au V] 108)) cap (ah #[ak 73 v] 57))) :
  LV baK res R [{ target:=.fn (.func 66) #[pp pb,pp cap],args:=#[]++#[] }]
   (.panicking [{ v:=ak 73 v,recovered:=false }]) w:=by
 have b:w.setCell ⟨pb,0,V⟩ (au V)=bT w pb (ah #[au V] 108):=uZ a _;have c:(bT w pb (ah #[au V] 108)).heap[cap]?=aP #[o5] 57:=by
  exact yH
 refine BT zk zs ((aSi pb cap o4 o5 v [] w (by grind [World.cell?]) (jO a 0) (by grind [World.cell?]) (by grind [jO])).mono ?_);rintro e g w' ⟨rfl,rfl,rfl⟩;rw[b,uZ c];exact h
section
variable{p0 p1 p2 p3 p4 p5 p6 p7:Y}{w:Z}{R:Ending->Z->Prop}
def aSk:=cz w R [p0,p1] (gc [] [] []) func67
end
def BJ(e:Bs):List Bs->List Bs
 | []=>[]
 | [l]=>[l]
 | l::m::ls=>(l++e)::BJ e (m::ls)
theorem asB:∀ (l:List Bs),BJ [] l=l
 | []=>rfl
 | [_]=>rfl
 | l::m::ls=>by rw[BJ,asB (m::ls),List.append_nil]
theorem ahK(c:UInt8):∀ (s:Bs),gS c s≠[]
 | []=>by simp [gS]
 | x::r=>by
  unfold gS;split
  .simp
  .split<;>simp
def Vg(c:UInt8):∀ (s:Bs),(a3m s [c]=-1/\gS c s=[s]/\s.count c=0)\/∃ i:Nat,a3m s [c]=(i:Int)/\i<s.length/\gS c s=s.take i::gS c (s.drop (i+1))/\s.take (i+1)=s.take i++[c]/\(s.drop (i+1)).count c+1=s.count c
 | []=>.inl ⟨J,J,J⟩
 | x::r=>by
  by_cases hx:c=x
  .refine .inr ⟨0,?_,zs,?_,zg,zg⟩
   .unfold a3m;grind
   .conv=>lhs;unfold gS
    grind
  .have g:¬ x=c:=zg;have h:a3m (x::r) [c]=if a3m r [c] == -1 then -1 else a3m r [c]+1:=by
    conv=>lhs;unfold a3m
    grind
   have b:gS c (x::r)=match gS c r with
    | []=>[[x]]
    | l::ls=>(x::l)::ls:=by
    conv=>lhs;unfold gS
    grind
   rcases Vg c r with⟨d,e,a⟩| ⟨i,d,e,a,f,j⟩
   .grind
   .refine .inr ⟨i+1,?_,by simp;omega,by rw[b,a];rfl,by simp [f],?_⟩<;>grind
def ahL(c:UInt8)(save:Nat)(d:save<=1):∀ (k:Nat) (s:Bs),s.count c<=k->Go.Lib.splitK [c] save k s=BJ ([c].take save) (gS c s)
 | 0,s,h=>by
  rcases Vg c s with⟨-,a,-⟩| ⟨i,-,-,-,-,e⟩
  .rw[a];rfl
  omega
 | k+1,s,h=>by
  unfold Go.Lib.splitK;rcases Vg c s with⟨b,a,-⟩| ⟨i,b,a,f,g,e⟩
  .rw[b,a];rfl
  .have:((i:Int) == -1)=false:=by
    grind
   rw[b,this,f];simp only[Bool.false_eq_true,if_false,Int.toNat_natCast,a1j];rw[ahL c save d k _ zo];have j:=ahK c (s.drop (i+1));cases l:gS c (s.drop (i+1)) with
   | nil=>grind
   | cons m ls=>
    rw[BJ]
    congr 1
    match save,d with
    | 0,_=>simp
    | 1,_=>grind
theorem Vh(c:UInt8)(s:Bs):(gS c s).length=s.count c+1:=by
 have key:∀ (k:Nat) (s:Bs),s.count c<=k->(gS c s).length=s.count c+1:=by
  intro k;induction k with
  | zero=>
   intro s h;rcases Vg c s with⟨-,b,a⟩| ⟨i,-,-,-,-,d⟩<;>grind
  | succ k ih=>
   intro s h;rcases Vg c s with⟨-,b,a⟩| ⟨i,-,-,a,-,d⟩<;>grind
 exact key _ s (a0D _)
theorem asC(e:Bs):∀ (l:List Bs),(BJ e l).length=l.length
 | []=>rfl
 | [_]=>rfl
 | l::m::ls=>by rw[BJ,List.length_cons,asC e (m::ls)];rfl
def asD{L:List ByteArray}(h:L.map (·.data.toList)=vars):L.map a0U=vars.map fun s=>aW s:=by
 subst h;rw[List.map_map];apply List.map_congr_left;grind
def FT(w:Z):Prop:=∃ m,w.cell? ⟨5,0,V⟩=O (zi m)
theorem FT.ext{w w':Z}(h:FT w)(a:Ext w w'):FT w':=by
 obtain⟨m,b⟩:=h;exact⟨m,(by grind [Mo,bD.ext])⟩
abbrev ahM(l:List Bs):Obj:=ah (l.map fun s=>a0U (bs s)).toArray 9 (0,0)
def aSl(s:Bs)(c:UInt8)(w:Z)(h:s.length<=1000000)(d:FT w):Calls baK 69 #[aW s,aW [c]] w fun e w'=>e = ai (.slice (O ⟨w.heap.size,0,V⟩) (gS c s).length (gS c s).length)/\w'=w.alloc (ahM (gS c s)):=by
 obtain⟨m,hm⟩:=d;have i:(bs s).size<=1000000:=by show s.toArray.size<=_;omega
 have j:(bs [c]).size=1:=rfl;have f:(bs s).data.toList=s:=zg;have g:(bs [c]).data.toList=[c]:=rfl;have a:Go.Lib.countB (bs s) (bs [c])=s.count c:=by
  grind [Go.Lib.count,Go.Lib.count_one,Lib.count_one]
 have b:=Go.Lib.splitB_data (bs [c]) 0 (s.count c) (bs s);rw[f,g,ahL c 0 zo _ s (a0D _)] at b;have b:(a3Y (bs [c]) 0 (s.count c) (bs s)).map (·.data.toList)=gS c s:=by grind [asB]
 refine(Tryz.strings_Split (bs s) (bs [c]) m w zo hm zo).mono ?_;rintro e w' ⟨rfl,rfl⟩;rw[a,Vh,asD b];exact yH
def aSm(s:Bs)(c:UInt8)(w:Z)(i:s.length<=1000000)(b:FT w):Calls baK 67 #[aW s,aW [c]] w fun e w'=>e = ai (.slice (O ⟨w.heap.size,0,V⟩) (gS c s).length (gS c s).length)/\w'=w.alloc (ahM (BJ [c] (gS c s))):=by
 obtain⟨m,hm⟩:=b;have j:(bs s).size=s.length:=by show s.toArray.size=_;simp
 have k:(bs [c]).size=1:=rfl;have d:(bs s).data.toList=s:=zg;have f:(bs [c]).data.toList=[c]:=rfl;have g:Go.Lib.countB (bs s) (bs [c])=s.count c:=by
  grind [Go.Lib.count,Go.Lib.count_one,Lib.count_one]
 have hle:s.count c<=s.length:=List.count_le_length;have a:=Go.Lib.splitB_data (bs [c]) 1 (s.count c) (bs s);rw[d,f,ahL c 1 zo _ s (a0D _)] at a;have a:(a3Y (bs [c]) 1 (s.count c) (bs s)).map (·.data.toList)=BJ [c] (gS c s):=a;have hlen:(a3Y (bs [c]) 1 (s.count c) (bs s)).length=s.count c+1:=by
  have:=congrArg List.length a;grind [List.length_map,asC,Vh]
 refine aSk ?_;refine bF ?_;refine(Tryz.strings_genSplit (bs s) (bs [c]) 1 (-1) (s.count c+1) m w zo hm zo zo zo zo zo).mono ?_;rintro e w' ⟨rfl,rfl⟩;rw[Nat.add_sub_cancel];have h:Go.Lib.cellsOf (a3Y (bs [c]) 1 (s.count c) (bs s)) (s.count c+1)=((a3Y (bs [c]) 1 (s.count c) (bs s)).map a0U).toArray:=by grind [Go.Lib.cellsOf_full,Lib.cellsOf_full]
 rw[h,asD a,hlen,Vh];exact⟨J,J⟩
def asF(s:Bs)(c:UInt8)(w:Z)(a:s.length<=1000000):Calls baK 68 #[aW s,aW [c]] w fun e w'=>e = ai (aq #[aW (a3L s [c]),.bool (a2w s [c])])/\w'=w:=by
 have b:(bs s).size<=1000000:=by show s.toArray.size<=_;omega
 refine(Tryz.strings_CutSuffix (bs s) (bs [c]) w zo).mono ?_;grind
theorem aSn(l:Bs)(c:UInt8):a3L (l++[c]) [c]=l/\a2w (l++[c]) [c]=true:=by
 have h:a2w (l++[c]) [c]=true:=by
  unfold a2w;grind
 refine⟨?_,h⟩;unfold a3L;rw[zip h];simp
theorem aSo{l:Bs}{c:UInt8}(h:c ∉ l):a2w l [c]=false:=by
 cases a:a2w l [c] with
 | false=>rfl
 | true=>
  unfold a2w at a;rw[List.isSuffixOf_iff_suffix] at a;obtain⟨t,ht⟩:=a;grind
theorem asG:∀ {l l':List (Bs×Y)} {i:Nat},oO l i=oO l' i->l=l'
 | [],[],_,_=>rfl
 | [],(_,_)::_,_,h=>by grind [oO]
 | (_,_)::_,[],_,h=>by grind [oO]
 | (s,v)::l,(s',v')::l',i,h=>by
  simp only[oO,List.cons.injEq,MapEntry.mk.injEq,Value.string.injEq] at h;obtain⟨⟨a,b,-⟩,c⟩:=h;rw[asG c,b,show s=s' from by simpa [bs] using a]
theorem aSp{l l':List (Bs×Y)}(h:eP l=eP l'):l=l':=by
 grind [eP,asG]
abbrev vV(pb:Nat)(ask:Y)(told:Int):Obj:=ah #[.map (O pb),ask,zi told] 187 (0,0)
abbrev ptr(b:Nat):Y:=pp b
inductive mn(base:Nat)(w:Z)(kb pb:Nat):Bs->Y->Pv->Prop
 | zero (hk:w.heap[kb]?=O (vV pb (au V) 0)) (hm:w.heap[pb]?=O (eP [])):mn base w kb pb [] (au V) ⟨[],ae,V⟩
 | pred {l:List (Bs×Y)} {D:List Pd} {v:Y} {name:Bs} {ar pl:Nat} {C:List Co} {cbs:List Nat} (hk:w.heap[kb]?=O (vV pb (au V) 0)) (hm:w.heap[pb]?=O (eP (l++[(P.keyOf name ar,v)])))
  (hu:fP (P.keyOf name ar) l 0=V) (kU:ar<80) (hD:qg w pl w.heap.size l D) (hr:w.ownsRow pl 185 1 v C.length (Jr cbs)) (hv:∃ b,v.ownBlock=O b) (hC:yx w w.heap.size cbs C) (jT:base<=pl) :
  mn base w kb pb (P.keyOf name ar) (au V) ⟨D++[⟨name,ar,C⟩],ae,V⟩
 | cl {l:List (Bs×Y)} {D:List Pd} {v:Y} {name:Bs} {ar pl ol ab:Nat} {C:List Co} {cbs:List Nat} {insv:Y} {vs:List Y} {c:Co} (hk:w.heap[kb]?=O (vV pb (au V) 0)) (hm:w.heap[pb]?=O (eP (l++[(P.keyOf name ar,v)])))
  (hu:fP (P.keyOf name ar) l 0=V) (kU:ar<80) (hD:qg w pl ol l D) (hr:w.ownsRow pl 185 1 v (C.length+1) (Jr (cbs++[ab]))) (hv:∃ b,v.ownBlock=O b) (hC:yx w ol cbs C) (oQ:ol<=w.heap.size) (hO:qE w ol ab insv vs c) (jT:base<=pl) (eW:base<=ol) :
  mn base w kb pb (P.keyOf name ar) (ptr ab) ⟨D++[⟨name,ar,C++[c]⟩],A,V⟩
 | ask {l:List (Bs×Y)} {D:List Pd} {key:Bs} {ol ab told:Nat} {insv:Y} {vs:List Y} {c:Co} (hk:w.heap[kb]?=O (vV pb (ptr ab) (told:Int))) (hm:w.heap[pb]?=O (eP l)) (hD:qg w ol ol l D) (oQ:ol<=w.heap.size) (hO:qE w ol ab insv vs c) (eW:base<=ol) :
  mn base w kb pb key (ptr ab) ⟨D,A,O (c,told)⟩
section
variable{base:Nat}{w w':Z}{kb pb:Nat}{key:Bs}{at_:Y}{p:Pv}
def asH{pl pb:Nat}{q:Pd}{cbs:List Nat}(hr:w.ownsRow pl 185 1 v q.clauses.length (Jr cbs))(hv:∃ b,v.ownBlock=O b)(hC:yx w pb cbs q.clauses):yy w w.heap.size pb v q:=by
 obtain⟨b,hv⟩:=hv;rcases hr.2 with⟨a,-⟩| ⟨g,cap,cur,a,-,c,d,e,f,h⟩
 .rw[a] at hv;cases hv
 .exact⟨g,cap,cur,cbs,a,d,yH,c,zg,hC⟩
def mn.close(h:mn base w kb pb key at_ p):∃ l,w.heap[pb]?=O (eP l)/\qg w w.heap.size w.heap.size l p.preds:=by
 cases h with
 | zero hk hm=>exact⟨_,hm,trivial⟩
 | pred hk hm hu kU hD hr hv hC jT=>
  refine⟨_,hm,qg.snoc (q:=⟨_,_,_⟩) kU (asH (q:=⟨_,_,_⟩) hr hv hC) (hD.map fun v q h=>h.mono ?_ zo)⟩;rcases hr.2 with⟨a,-⟩| ⟨g,cap,cur,a,c,d,-⟩
  .obtain⟨b,hv⟩:=hv;rw[a] at hv;cases hv
  exact yH
 | cl hk hm hu kU hD hr hv hC oQ hO jT eW=>
  refine⟨_,hm,qg.snoc (q:=⟨_,_,_⟩) kU (asH (q:=⟨_,_,_⟩) (by simpa using hr) hv ((hC.mono oQ).snoc hO.done)) (hD.map fun v q h=>h.mono ?_ oQ)⟩;rcases hr.2 with⟨a,-⟩| ⟨g,cap,cur,a,c,d,-⟩
  .obtain⟨b,hv⟩:=hv;rw[a] at hv;cases hv
  exact yH
 | ask hk hm hD oQ hO eW=>exact⟨_,hm,hD.map fun v q h=>h.mono oQ oQ⟩
def mn.code(h:mn base w kb pb key at_ p):match p.ask with
  | none=>w.heap[kb]?=O (vV pb (au V) 0)
  | some (_,n)=>∃ ab,at_=ptr ab/\w.heap[kb]?=O (vV pb (ptr ab) (n:Int)):=by
 cases h with
 | zero hk hm=>omega
 | pred hk hm hu kU hD hr hv hC jT=>omega
 | cl hk hm hu kU hD hr hv hC oQ hO jT eW=>omega
 | ask hk hm hD oQ hO eW=>exact yH
theorem Kept.ed{a:Nat}(b:Ext w w'):Kept w w' a:=(by grind [bD.ext])
theorem qE.ext{lo ab:Nat}{insv:Y}{vs:List Y}{c:Co}(h:qE w lo ab insv vs c)(a:Ext w w'):qE w' lo ab insv vs c:=⟨a.ext _ _ h.cell,h.low,jQ a.ext h.row,h.ins.bJ (by grind [bD.ext])⟩
theorem mn.ext(h:mn base w kb pb key at_ p)(a:Ext w w'):mn base w' kb pb key at_ p:=by
 have b:=a.size;cases h with
 | zero hk hm=>exact .zero (a.ext _ _ hk) (a.ext _ _ hm)
 | pred hk hm hu kU hD hr hv hC jT=>exact .pred (a.ext _ _ hk) (a.ext _ _ hm) hu kU (hD.map fun v q h=>(h.bJ (.ed a) fun _ _ _ c=>a.ext _ _ c).mono zo b) (jQ a.ext hr) hv ((hC.bJ (.ed a)).mono b) jT
 | cl hk hm hu kU hD hr hv hC oQ hO jT eW=>exact .cl (a.ext _ _ hk) (a.ext _ _ hm) hu kU (by grind [qg.map,yy.bJ,Kept.ed,bD.ext]) (jQ a.ext hr) hv (hC.bJ (.ed a)) zo (hO.ext a) jT eW
 | ask hk hm hD oQ hO eW=>exact .ask (a.ext _ _ hk) (a.ext _ _ hm) (by grind [qg.map,yy.bJ,Kept.ed,bD.ext]) zo (hO.ext a) eW
def mn.aSq(h:mn base w kb pb key at_ p)(g:p.ask=V){name:Bs}{l:List (Bs×Y)}(kU:cap<80)(c:w.heap[pb]?=O (eP l))(i:fP (P.keyOf name cap) l 0=V)
  (d:bD (fun b _=>b=pb) w w') (j:w'.heap[k']?=aP #[] 185) (k:w.heap.size<=k') (a:base<=w.heap.size) (hm:w'.heap[pb]?=O (eP (l++[(P.keyOf name cap,cU k' 0 0)]))) :
  mn base w' kb pb (P.keyOf name cap) (au V) ⟨p.preds++[⟨name,cap,[]⟩],ae,V⟩:=by
 obtain⟨l',m,n⟩:=h.close;rw[c] at m;have o:=h.code;rw[g] at o;have r:l'=l:=by
  grind [aSp]
 subst r;have s:=d.size;have f:∀ (b:Nat) (T:Nat) (cs:Array Y),w.heap[b]?=aP cs T->w'.heap[b]?=aP cs T:=fun b T cs a=>d.block _ _ a fun e=>by
  rw[e,c] at a;cases a
 refine .pred (l:=l') (pl:=w.heap.size) (C:=[]) (cbs:=[]) yH hm i kU (n.map fun v q t=>((t.bJ (fun b T cs _ _ a=>f b T cs a) fun b cs _ a=>f b _ cs a).mono zo s)) ?_ ⟨k',J⟩ ⟨J,yH⟩ a;exact⟨J,.inr ⟨k',0,#[],J,k,j,a0D _,a0R _,J,J⟩⟩
end
section
variable{base:Nat}{w w':Z}{kb pb:Nat}{key:Bs}{at_:Y}{p:Pv}
def asI{pb size:Nat}(hr:w.ownsRow pb e size v n xs)(hv:∃ b,v.ownBlock=O b):pb<=w.heap.size:=by
 obtain⟨b,hv⟩:=hv;obtain⟨a,c,-⟩:=Ev hr hv;omega
def mn.aSr(a:base<=w.heap.size)(h:mn base w kb pb key at_ p)(j:p.ask=V)(u:p.preds≠[]):∃ l v cbs pl q D,p.preds=D++[q]/\key=P.keyOf q.name q.arity/\w.heap[pb]?=O (eP (l++[(key,v)]))/\fP key l 0=V/\w.ownsRow pl 185 1 v q.clauses.length (Jr cbs)/\pl<=w.heap.size/\base<=pl /\
  ∀ w' v' cb slots,bD (fun b o=>b=pb\/(pl<=b/\∃ cs,o = ah cs 185 (0,0))) w w'->w'.heap[pb]?=O (eP (l++[(key,v')]))->w'.ownsRow pl 185 1 v' (q.clauses.length+1) (Jr cbs++[ptr cb])->(∃ b,v'.ownBlock=O b) ->
   w'.heap[cb]?=aP #[zi ((slots:Nat):Int),b9] 196->w.heap.size<=cb->mn base w' kb pb key (ptr cb) ⟨D++[⟨q.name,q.arity,q.clauses++[⟨slots,[]⟩]⟩],A,V⟩:=by
 have d:=h.code;rw[j] at d;have d:w.heap[kb]?=O (vV pb (au V) 0):=d;have f:∀ {l:List (Bs×Y)} {D:List Pd} {v:Y} {name:Bs} {ar pl:Nat} {C:List Co} {cbs:List Nat},w.heap[pb]?=O (eP (l++[(P.keyOf name ar,v)]))->fP (P.keyOf name ar) l 0=V->ar<80->qg w pl w.heap.size l D->yx w w.heap.size cbs C->base<=pl ->
   ∀ w' v' cb slots,bD (fun b o=>b=pb\/(pl<=b/\∃ cs,o = ah cs 185 (0,0))) w w'->w'.heap[pb]?=O (eP (l++[(P.keyOf name ar,v')]))->w'.ownsRow pl 185 1 v' (C.length+1) (Jr cbs++[ptr cb])->(∃ b,v'.ownBlock=O b) ->
   w'.heap[cb]?=aP #[zi ((slots:Nat):Int),b9] 196->w.heap.size<=cb->mn base w' kb pb (P.keyOf name ar) (ptr cb) ⟨D++[⟨name,ar,C++[⟨slots,[]⟩]⟩],A,V⟩:=by
  intro l D v name ar pl C cbs hm hu kU hD hC jT w' v' cb slots g k x m n r;have y:∀ (b:Nat) (T:Nat) (cs:Array Y),b<pl\/T≠185->w.heap[b]?=aP cs T->w'.heap[b]?=aP cs T:=fun b T cs z a=>g.block _ _ a (by
   rintro (e | ⟨i,cs',B⟩)
   .rw[e,hm] at a;cases a
   grind)
  have s:∀ t,Kept w w' t:=zg;refine .cl (ol:=w.heap.size) (c:=⟨slots,[]⟩) (vs:=[]) yH k hu kU (by grind [qg.map,yy.bJ]) ?_ m (hC.bJ (s _)) g.size ⟨n,r,a00 _ _ _ _,J⟩ jT a;grind
 cases h with
 | zero hk hm=>exact yH
 | pred hk hm hu kU hD hr hv hC jT=>exact⟨_,_,_,_,_,_,J,J,hm,hu,hr,asI hr hv,jT,yH⟩
 | @cl l D v name ar pl ol ab C cbs insv vs c hk hm hu kU hD hr hv hC oQ hO jT eW=>
  have i:=f hm hu kU (hD.map fun v q h=>h.mono zo oQ) ((hC.mono oQ).snoc hO.done) jT;exact⟨_,_,cbs++[ab],_,⟨name,ar,C++[c]⟩,_,J,J,hm,hu,zg,asI hr hv,jT,i⟩
 | ask hk hm hD oQ hO eW=>grind
def mn.aSt(i:base<=w.heap.size)(h:mn base w kb pb key at_ p){slots:Nat}(g:bD (fun b _=>b=kb) w w')(hk:w'.heap[kb]?=O (vV pb (ptr cap) (told:Int)))(j:w'.heap[cap]?=aP #[zi (slots:Int),b9] 196)(k:w.heap.size<=cap)(d:∃ a n,w.heap[kb]?=O (vV pb a n)) :
  mn base w' kb pb key (ptr cap) ⟨p.preds,A,O (⟨slots,[]⟩,told)⟩:=by
 obtain⟨l,f,o⟩:=h.close;obtain⟨a0,q,d⟩:=d;have r:∀ (b:Nat) (T:Nat) (cs:Array Y),T≠187->w.heap[b]?=aP cs T->w'.heap[b]?=aP cs T:=(by grind [bD.block]);have s:∀ m,Kept w w' m:=zg;refine .ask (l:=l) (ol:=w.heap.size) (c:=⟨slots,[]⟩) (vs:=[]) hk (g.block _ _ f ?_) (by grind [qg.map,yy.bJ]) g.size ⟨j,k,a00 _ _ _ _,J⟩ i;intro e;rw[e,d] at f;cases f
def mn.aSu(h:mn base w kb pb key at_ p)(x:at_≠au V):∃ ab ol insv vs c,at_=ptr ab/\p.cur=O c/\qE w ol ab insv vs c/\ol<=w.heap.size/\base<=ol /\
  ∀ w' a l0 i,bD (fun b o=>b=ab\/(ol<=b/\∃ cs,o = ah cs 198 (0,0))) w w'->w'.heap[ab]?=aP #[zi (c.slots:Int),a] 196->w'.ownsRow ol 198 4 a (c.ins.length+1) (vs++l0)->vU w' l0 [i]->mn base w' kb pb key (ptr ab) (p.add i):=by
 have main:∀ {ab ol:Nat} {insv:Y} {vs:List Y} {c:Co},qE w ol ab insv vs c->∀ w' a l0 i,bD (fun b o=>b=ab\/(ol<=b/\∃ cs,o = ah cs 198 (0,0))) w w'->w'.heap[ab]?=aP #[zi (c.slots:Int),a] 196->w'.ownsRow ol 198 4 a (c.ins.length+1) (vs++l0)->vU w' l0 [i] ->
   qE w' ol ab a (vs++l0) { c with ins:=c.ins++[i] }/\(∀ (b:Nat) (T:Nat) (cs:Array Y),b<ol\/(T≠198/\T≠196)->w.heap[b]?=aP cs T->w'.heap[b]?=aP cs T)/\(∀ (b:Nat) (l:List (Bs×Y)),w.heap[b]?=O (eP l)->w'.heap[b]?=O (eP l)):=by
  intro ab ol insv vs c hO w' a l0 i d g hr j;have r:∀ (b:Nat) (T:Nat) (cs:Array Y),b<ol\/(T≠198/\T≠196)->w.heap[b]?=aP cs T->w'.heap[b]?=aP cs T:=fun b T cs s f=>d.block _ _ f (by
   rintro (e | ⟨t,cs',n⟩)
   .rcases s with h | h
    .have:=hO.low;omega
    .rw[e,hO.cell] at f;grind
   grind)
  refine⟨⟨g,hO.low,zg,(hO.ins.bJ yH).snoc j⟩,r,fun b l f=>d.block _ _ f ?_⟩;rintro (e | ⟨t,cs',n⟩)
  .rw[e,hO.cell] at f;cases f
  .cases n
 cases h with
 | zero hk hm=>exact yH
 | pred hk hm hu kU hD hr hv hC jT=>exact yH
 | @cl l D v name ar pl ol ab C cbs insv vs c hk hm hu kU hD hr hv hC oQ hO jT eW=>
  refine⟨_,_,_,_,_,J,?_,hO,oQ,eW,fun w' a l0 i d g k j=>?_⟩
  .show(if A=A then oN.PD (D++[⟨name,ar,C++[c]⟩]) else V)=O c;rw[zip rfl];grind [oN.PD,List.getLast?_concat]
  .obtain⟨g1,g2,g3⟩:=main hO w' a l0 i d g k j;have m:Kept w w' ol:=zg;have e:(Pv.mk (D++[⟨name,ar,C++[c]⟩]) A V).add i=⟨D++[⟨name,ar,C++[{ c with ins:=c.ins++[i] }]⟩],A,V⟩:=by
    grind [Pv.add,anO,aIW]
   rw[e];exact .cl yH yH hu kU (by grind [qg.map,yy.bJ]) (by grind [FP]) hv (hC.bJ m) (Nat.le_trans oQ d.size) g1 jT eW
 | @ask l D key ol ab told insv vs c hk hm hD oQ hO eW=>
  refine⟨_,_,_,_,_,J,J,hO,oQ,eW,fun w' a l0 i d g k j=>?_⟩;obtain⟨g1,g2,g3⟩:=main hO w' a l0 i d g k j;have m:Kept w w' ol:=zg;exact .ask (g2 _ _ _ (.inr ⟨zd,zd⟩) hk) (g3 _ _ hm) (hD.map fun v q h=>h.bJ m fun b cs _ u=>g2 b _ cs (.inr ⟨zd,zd⟩) u) (Nat.le_trans oQ d.size) g1 eW
def mn.done(h:mn base w kb pb key at_ p){c:Co}{n:Nat}(a:p.ask=O (c,n)):∃ ab,yq w kb pb ab n p.preds/\FC w ab c:=by
 cases h with
 | zero hk hm=>grind
 | pred hk hm hu kU hD hr hv hC jT=>grind
 | cl hk hm hu kU hD hr hv hC oQ hO jT eW=>grind
 | @ask l D key ol ab told insv vs b hk hm hD oQ hO eW=>
  have a:O (b,told)=O (c,n):=a;cases a;exact⟨ab,⟨hk,hD.aSf hm⟩,hO.done.coM⟩
end
