/- A part of one proof (KV15, KV16, KV17, BO1, VT1, ShX3). -/
import Derived.Test.YtoegidfbnkaabaaGreatDoorPkLAX
import Derived.Lib.SlBytesConst
set_option linter.all false
set_option maxRecDepth 100000
set_option maxHeartbeats 8000000
open Option renaming some → O, none → V
open Go renaming Value → Y, World → Z
open Bool renaming true → A, false → G
open Go.Obj renaming cells → ae
open Go.Ending renaming returned → ah
open Go.Value renaming nilIface → ai, iface → aj, tuple → ak, pointer → aq
open Go.Calls renaming mono → a1r
open List renaming getElem?_eq_getElem → a1u, mem_cons → a1z, not_mem_nil → a1E, range → a1U, replicate → a2a, getElem?_eq_some_iff → a2g, map_append → a2u
open Option.some renaming inj → a1w
open Go.Value renaming slice → a1D
open Go.World renaming ownsRow_nil → a1Q
open Option renaming map_eq_some_iff → a1R
open Go.Result renaming andThen → a2n
open Prod renaming fst → a2F
open Nat renaming not_lt_zero → a3z
open Go.Oper renaming upon_value → a3R
open Go.Proofs.Tryz renaming prog → bbG
open Go.Proofs.Tryz
namespace Go.Proofs.YtoegidfbnkaabaaGreatDoor
open P
open Go.RowKit Sx
variable{B fk b c cb d f g i j m mb n o pb pc told wb:Nat}{D:Nat->Prop}{K:Y->Prop}{X:Y->Z->Prop}{av buf tv v:Y}{out s wd:Bs}{dG:List Pd}{r:Except jE (Bool×Vm)}{iB:Array Y}{w w':Z}{xs:List Y}{y:Operand}{ρ:Nat->Nat}
def aOQ{P:Program}{x:Operand}{t:TypeId}(h:Ai P t=A){a:Nat}{cb:Array Y}{c tb:TypeId}(d:w.heap[a]?=aO iB c)(e:w.heap[b]?=aO cb tb) :
 RD P (bo .neq t x y (pp a) (pp b)) w K X=K (.bool (!decide (a=b))):=gQ (by simp [bo,eqGuard,binOp,Sem.run_bind,abE h d e])
section
variable{D:Nat->Prop}{ρ:Nat->Nat}{e:AX}{av tv:Y}{di:List Y}{w w':Z}{m:Vm}
def aOR(h:gi D ρ e av tv di w m)(hD:∀ b,w.heap.size<=b->D b)(hC:yr w e.cb pb fk told dG)(f:∀ p∈dG,∀ c∈p.clauses,zc c){x:Fm}{i:P.In}(hi:A2 w g o i)(a:LM m x i)(j:i.word≠NB)
 (hr:vz dG d i m=O r) :
  Calls bbG 207 #[pp e.vb,pq g o] w (EPost D w (si D ρ m.n e.vb e.cb e.fk) r):=by
 have hk:=a.ok.kn;simp only[a1z,a1E,or_false] at hk;rcases hk with hk | hk | hk | hk | hk | hk | hk | hk | hk | hk | hk | hk | hk | hk | hk
 .exact Za h hD hi a (.inl hk) hr
 .exact Za h hD hi a zg hr
 .exact agr h hD hi a (.inl hk) hr
 .exact agr h hD hi a zg hr
 .exact aON h hD hi a hk hr
 .exact agr h hD hi a zg hr
 .exact aOM h hD hi a hk hr
 .exact Za h hD hi a zg hr
 .exact Za h hD hi a zg hr
 .exact agy h hD hi a zg hr
 .exact agy h hD hi a (.inl hk) hr
 .exact agy h hD hi a zg hr
 .exact aqC h hD hi a (.inl hk) hC f hr
 .exact aqC h hD hi a (.inr hk) hC f hr
 .exact absurd hk j
end
section
variable{D:Nat->Prop}{ρ:Nat->Nat}{vb cb fk:Nat}{w w':Z}{m:Vm}
def P.aOS{m m':Vm}{l:List Co}{args:List Sl}(h:m.enter l args f pc n=O m'):m'.n=m.n:=by
 cases l with
 | nil=>cases h
 | cons c l=>have:=(a1w h).symm;grind
def P.aqD{m:Vm}{p:Bool×Vm}(h:m.back=O p):p.2.n=m.n:=by
 unfold Vm.back at h;split at h
 .grind
 .split at h
  .grind
  .split at h
   .grind
   .rename_i m' he;have:=(a1w h).symm;subst this;exact(P.aOS he).trans J
def aOT(h:BT D ρ vb cb fk w m)(hD:∀ b,w.heap.size<=b->D b)(hC:yr w cb pb fk told dG)(tz:∀ p∈dG,∀ c∈p.clauses,zc c)(N9:B<=800000000)
  (l:gA B m) (hr:IT dG d f m=O r) :
  Calls bbG 205 #[pp vb] w (EPost D w (si D ρ m.n vb cb fk) r):=by
 suffices H:∀ R:Ending->Z->Prop,(∀ E w',EPost D w (si D ρ m.n vb cb fk) r E w'->R E w')->Calls bbG 205 #[pp vb] w R from H _ fun _ _ h=>h;intro R F;refine aM9 ?_;obtain⟨φ,ψ,av,tv,di,hx⟩:=h;have xe:∀ {m:Vm},gA B m->∀ a∈m.bw,a.mark<=m.sr.tr.length/\(∀ c∈a.others,c.slots<=64)/\a.args.length<=60:=fun l a ha=>by
  obtain⟨i,hi,rfl⟩:=List.getElem_of_mem ha;have QG:=a1u hi;have:=l.ag i _ QG;exact⟨l.marks i _ QG,(by grind [zc.sl,XG.others]),this.qL⟩
 have hlen:∀ {m:Vm},gA B m->m.sr.tr.length<=800000000/\m.bw.length+m.sr.fuel<=800000000/\m.sr.tr.length+m.sr.fuel<=800000000:=fun l=>by
  have o:_+_<=B:=l.cV;have h2:=l.nN;omega
 have aYB:∀ (ρ0:Nat->Nat) (m0:Vm) (w0:Z),eu ρ m.n ρ0 m0.n->BT D ρ0 vb cb fk w0 m0->dc D w w0->gA B m0->xh dG d f m0=O r->True:=yF;refine⟨fun _ w1=>∃ (y:Nat->Nat) (m1:Vm),eu ρ m.n y m1.n/\BT D y vb cb fk w1 m1/\dc D w w1/\gA B m1/\xh dG d f m1=O r,?_,?_⟩
 .have c0:=hx.cell;have l0:=bg c0;have aOU:=l.pc;unfold IT at hr;refine⟨fun s w1=>∃ (b:Bool) (y:Nat->Nat) (m1:Vm),s 13 = .bool (!b)/\eu ρ m.n y m1.n/\BT D y vb cb fk w1 m1/\dc D w w1/\gA B m1/\(if b then xh dG d f m1=O r else r = .ok (G,m1)),?_,?_⟩
  .by_cases I:0<m.pc
   .rw[zip I] at hr;have zl:(m.pc:Int) > 0:=zo;refine dj @c0 zl ?_;cases t:m.back with
    | none=>rw[t] at hr;cases hr
    | some q=>
    rw[t] at hr;refine a1r (ap7 hx hD (xe l) zg zg t) ?_;rintro E w1 ⟨T,rfl,o⟩;obtain⟨b,m1⟩:=q;have hn:=P.aqD t;simp only at hn;have hu:eu ρ m.n ρ m1.n:=⟨zo,zg⟩;cases b with
    | false=>
     refine bH ?_;exact⟨G,ρ,m1,J,hu,o,T,l.back t,zg⟩
    | true=>
     refine bH ?_;exact⟨A,ρ,m1,J,hu,o,T,l.back t,zg⟩
   .rw[bM I] at hr;have zl:¬ (m.pc:Int) > 0:=zo;refine dj @c0 zl ?_;exact⟨A,ρ,m,J,eu.refl _ _,⟨_,_,_,_,_,hx⟩,yF,l,zg⟩
  .rintro s w1 ⟨b,y,m1,Jq,uQ,o,T,yU,K⟩ d1;clear d1;cases b with
   | false=>
    refine cJ Jq ?_;have K:r = .ok (G,m1):=zg;subst K;exact F _ _ ⟨T,J,y,uQ,o⟩
   | true=>
    refine cJ Jq ?_;exact yF
 .rintro s w1 ⟨y,m1,uQ,o,T,yU,pk⟩ d1;clear d1 hx hr l;refine⟨fun n z w2=>∃ (yi:Nat->Nat) (m2:Vm),eu ρ m.n yi m2.n/\BT D yi vb cb fk w2 m2/\dc D w w2/\gA B m2/\xh dG d n m2=O r,yF,?_⟩;intro n z dd w2 hI;clear dd;refine toPr ?_;obtain⟨yi,m2,FJ,⟨C,ψ2,U,W,QA,rM⟩,dT,j,e⟩:=hI;clear uQ o T yU pk;cases n with
  | zero=>simp [xh] at e
  | succ n=>
  have s2:=dT.size;have hD2:∀ b,w2.heap.size<=b->D b:=yH;obtain⟨BA,qF,gz⟩:=hlen j;refine bH ?_;refine a1r (NN rM.less Da zo) ?_;rintro E w3 ⟨eH,X⟩;rw[xh] at e;by_cases h0:m2.sr.fuel=0
  .rw[zip h0] at e X;have e:=(a1w e).symm;subst e X;exact F _ _ ⟨dT.trans (eH.up fun _ h=>h.1),J⟩
  rw[bM h0] at e X;obtain⟨rfl,X⟩:=X;obtain⟨Cy,eH⟩:=rM.store X eH;have Hc:dc D w w3:=yF;have s3:=eH.size;obtain⟨x,xH,hfm⟩:=Cy.cur;have xH:m2.fs[m2.f]?=O x:=xH;rw[xH] at e;simp only at e;obtain⟨⟨Dd,L,vC,P3⟩,aOW,-⟩:=hfm;have L:w3.heap[C m2.f]?=aO #[pp Dd,cS (ψ2 m2.f) x.slots.length x.slots.length,zi (x.entry:Nat),BR C x.back,zi (x.pc:Nat)] 203:=L;have Zc:=j.fr _ _ xH;have aOU:=j.pc;obtain⟨insv,gS,xy⟩:=id vC;obtain⟨ga,gc,zy⟩:∃ a c,insv = .slice a x.code.ins.length c:=by
   grind
  have c3:w3.heap[vb]?=aO #[pp cb,W,zi (m2.sr.dec.fuel:Nat),pp (C m2.f),zi (m2.pc:Nat),U] 116:=Cy.cell;have l3:=bg c3;have lf3:=bg L;have Yt:=bg gS;subst zy;have aeZ:Ext w3 w3.drew:=yF;refine bH ?_;refine⟨fun _ w'=>w'=w3.drew/\m2.pc<x.code.ins.length,?_,?_⟩
  .by_cases I:m2.pc<x.code.ins.length
   .have Zd:¬ (m2.pc:Int) ≥ (x.code.ins.length:Int):=zo;refine dB @c3 L gS Zd ?_;omega
   .have Zd:(m2.pc:Int) ≥ (x.code.ins.length:Int):=zo;rw[List.getElem?_eq_none zo] at e;cases e;refine dB @c3 L gS Zd ?_;exact F _ _ ⟨yF,J⟩
  rintro z2 w4 ⟨rfl,I⟩ d4;clear d4;have aOX:Ext w3 w3.drew.drew:=aeZ.drew;rw[a1u I] at e;obtain⟨i,UW⟩:=cg (x.code.ins[m2.pc]);rw[<- UW] at e;have hiq:x.code.ins[m2.pc]?=O i:=zg;rcases xy with⟨o,-⟩| ⟨g,cap,cur,o,gN,Bo,jK,aOZ⟩
  .rw[o] at I;simp at I
  simp only[Value.slice.injEq,true_and] at o;obtain⟨rfl,rfl⟩:=o;have IY:=aOZ _ _ hiq;have zl:(m2.pc:Int)<(x.code.ins.length:Int):=zo;have ept:(m2.pc:Int).toNat=m2.pc:=zo;simp only at e;obtain⟨m3,QI⟩:∃ m3:Vm,m3={ m2 with sr:=m2.sr.dec,pc:=m2.pc+1 }:=⟨_,J⟩;obtain⟨k,nE⟩:=cg (bQ w3.drew.drew vb (ae #[pp cb,W,zi (m2.sr.dec.fuel:Nat),pp (C m2.f),zi ((m2.pc+1:Nat):Int),U] 116));obtain⟨sX,tY⟩:=(Cy.ext aOX).own (w':=k) (f':=m2.f) (pc':=m2.pc+1) (yF) (yH) j.f;have sX:gi D yi ⟨C,ψ2,vb,cb,fk⟩ U W QA k m3:=zg;have BN:dc D w3 k:=yF;have Hu:dc D w k:=yF;have Ze:=dc.toI BN;have s5:=BN.size;have c5:=sX.cell;have UX:=Ze _ _ _ (yM) L;have M:=Ze _ _ _ (yM) Bo;have lf5:=bg UX;have lg5:=bg M;have N:=(hC.fr Hu).cell;have aYG:=bg N;have aO0:A2 k g (m2.pc*4) i:=⟨cur,M,zo,IY.bJ Ze⟩;have Nb:=IY.word;have Q:uH x.code.slots i:=by rw[UW];exact Zc.code.ins _ (List.getElem_mem _)
  have aYH:=Zc.code.len;have hB1:1<=B:=by have:=j.nN;omega
  have Bz:gA (B-1) m3:=by
   have hf:m2.sr.dec.fuel=m2.sr.fuel-1:=rfl;have hp:m2.sr.tr.length+m2.sr.fuel<=B:=j.cV;have y9:=j.nN;rw[QI];exact⟨j.f,j.fr,j.ag,j.marks,j.mono,by show m2.sr.tr.length+(m2.sr.fuel-1)<=B-1;omega,zg,zg,j.xj,j.xY⟩
  have aYI:gA B m3:=(by grind [gA.up]);have aqH:m3.fs[m3.f]?=O x:=zg;have aYJ:m3.n=m2.n:=zg;rw[<- QI] at e;refine dB @c3 L gS @ept ?_;have e1:bQ w3.drew.drew vb (ae #[pp cb,W,zi (m2.sr.dec.fuel:Nat),pp (C m2.f),zi ((m2.pc:Int)+1),U] 116)=k:=nE.symm;have e2:bQ w3.drew.drew vb (ae (po #[pp cb,W,zi (m2.sr.dec.fuel:Nat),pp (C m2.f),zi (m2.pc:Nat),U] 4 (Value.int .i64 ((m2.pc:Int)+1)).cells.toList) 116 (0,0))=k:=nE.symm;try rw[e1]
  try rw[e2]
  clear e1 e2 nE;refine dj M Nb ?_;by_cases Iy:i.word=[100,111,110,101]
  .rw[zip Iy] at e;have aO2:Ext k k.drew:=yF;have S:k.heap[vb]?=aO #[pp cb,W,zi (m3.sr.fuel:Nat),pp (C m2.f),zi (m3.pc:Nat),U] 116:=by
    exact yH
   have l5:=bg S;refine cJ Iy ?_;refine⟨fun z w'=>w'=k.drew/\z 86 = .bool (!x.ask),?_,?_⟩
   .cases UY:x.ask with
    | true=>
     have K:=aOW.1 UY;have aqI:=P3 UY;simp only at aqI;subst aqI;rw[K] at UX;simp (disch:=first|assumption|omega|simp only[zS]<;>omega|decide) only[zB,simprocAttr,kW,S,UX,N,BR];have aqJ:k.drew.heap[Dd]?=_:=Ze _ _ _ (yM) gS;rw[aOQ zk aqJ aqJ];simp;rfl
    | false=>
     obtain⟨b,K⟩:∃ b,x.back=O b:=by
      cases K:x.back with
      | none=>grind
      | some b=>grind
     rw[K] at UX;simp (disch:=first|assumption|omega|simp only[zS]<;>omega|decide) only[zB,simprocAttr,kW,S,UX,N,BR]
   .rintro z3 w6 ⟨rfl,Zf⟩ d6;clear d6;cases UY:x.ask with
    | true=>
     rw[UY] at Zf e;rw[zip rfl] at e;cases e;refine cJ Zf ?_;exact F _ _ ⟨yF,J,yi,zg,_,_,_,_,_,sX.ext aO2⟩
    | false=>
     rw[UY] at Zf e;rw[bM zd] at e;cases e;refine cJ Zf ?_;exact F _ _ ⟨yF,J⟩
  .rw[bM Iy] at e;have hH:LM m3 x i:=⟨aqH,Q,Zc.sl,Zc.tm,by have h9:m3.sr.tr.length+m3.sr.fuel<=B-1:=Bz.cV;show m3.sr.tr.length+m3.sr.fuel<=_;omega,zg,Q.small⟩;have Og:=sX.st.ok;have hD5:∀ b,k.heap.size<=b->D b:=yH;refine cJ Iy ?_;rw[ept,Nat.zero_add];refine⟨fun z w6=>∃ (ok:Bool) (u:Nat->Nat) (m6:Vm),z 96 = .bool (!ok)/\eu ρ m.n u m6.n/\BT D u vb cb fk w6 m6/\dc D w w6/\gA B m6/\(if ok then xh dG d n m6=O r else r = .ok (G,m6)),?_,?_⟩
   .cases t:vz dG d i m3 with
    | none=>rw[t] at e;cases e
    | some q=>
    rw[t] at e;have y5:=aOR sX hD5 (hC.fr Hu) tz aO0 hH Iy t;refine a1r y5 ?_;rintro E w6 ⟨lh,oD⟩;have Zg:=Hu.trans lh;cases q with
    | error te=>
     cases e;have oD:E=gP te:=oD;subst oD;cases te<;>exact F _ _ ⟨Zg,J⟩
    | ok q=>
     obtain⟨b6,m6⟩:=q;obtain⟨rfl,u,YS,Q8⟩:=oD;have aO3:eu ρ m.n u m6.n:=(by grind [eu.trans]);have pY:gA B m6:=by
      have h9:=(am8 Bz Og aqH Q tz t).1;grind
     have e:(if b6=A then xh dG d n m6 else match m6.back with
      | none=>V
      | some (G,m)=>O (.ok (G,m))
      | some (A,m)=>xh dG d n m)=O r:=e
     cases b6 with
     | true=>
      refine bH ?_;exact⟨A,u,m6,zg,aO3,Q8,Zg,pY,zg⟩
     | false=>
      simp only[Bool.false_eq_true,if_false] at e;cases BP:m6.back with
      | none=>rw[BP] at e;cases e
      | some q7=>
      rw[BP] at e;obtain⟨φ6,ψ6,av6,tv6,aYN,vN⟩:=Q8;have s6:=lh.size;obtain⟨aYO,aYP,aYQ⟩:=hlen pY;refine bH ?_;refine a1r (ap7 vN yH (xe pY) zg zg BP) ?_;rintro E w7 ⟨GO,rfl,h7⟩;obtain⟨b7,m7⟩:=q7;have hn7:m7.n=m6.n:=P.aqD BP;have Yl:eu ρ m.n u m7.n:=zg;have hg7:gA B m7:=pY.back BP;cases b7 with
      | true=>
       refine bH ?_;exact⟨A,u,m7,zg,Yl,h7,yF,hg7,zg⟩
      | false=>
       refine bH ?_;exact⟨G,u,m7,zg,Yl,h7,yF,hg7,zg⟩
   .rintro z6 w6 ⟨ok,u,m6,h96,YS,Q8,Zg,pY,YN⟩ d6;clear d6;cases ok with
    | true=>
     refine cJ h96 ?_;exact yF
    | false=>
     refine cJ h96 ?_;have YN:r = .ok (G,m6):=zg;subst YN;exact F _ _ ⟨Zg,J,u,YS,Q8⟩
end
def aO6{ask:Co}(hC:yr w cb pb fk told dG)(o:FO w fk ask)(L:ask.slots<=64) :
  Calls bbG 35 #[pp cb] w fun e w'=>Ext w w'/\∃ q,e = ah (pp q)/\w.heap.size<=q/\∀ (D:Nat->Prop) (ρ:Nat->Nat),(∀ b,w.heap.size<=b->D b)->BT D ρ q cb fk w' (zf ask):=by
 obtain⟨r,-⟩:=hC;obtain⟨insv,z,M⟩:=id o;have B:Ext w w.drew:=yF;have C:ask.slots<=1000000:=zo;refine aM2 ?_;refine⟨fun w'=>Ext w w',B,?_⟩;rw[jx];refine cQ (pq cb 1) (fun w' s=>eT) ?_;refine cQ (pp fk) (fun w' s=>by have c:=s.ext _ _ r;have:=bg c;exact fh c) ?_;refine dj r z ?_;obtain⟨wr,E⟩:=cg (w.drew.alloc (ae (madeCells #[ai] ask.slots) 20 (0,0)));have d:Ext w wr:=yF;have sr:wr.heap.size=w.heap.size+1:=yH;have N:wr.heap[w.heap.size]?=aO (madeCells #[ai] ask.slots) 20:=yH;rw[<- E];refine⟨d,?_⟩;obtain⟨wf,F⟩:=cg (wr.alloc (ae #[pp fk,cS w.heap.size ask.slots ask.slots,zi 0,aq V,zi 0] 203));have H:Ext wr wf:=yF;have sf:wf.heap.size=w.heap.size+2:=yH;have f:wf.heap[w.heap.size+1]?=aO #[pp fk,cS w.heap.size ask.slots ask.slots,zi 0,aq V,zi 0] 203:=yH;obtain⟨h,k⟩:=cg (wf.alloc (ae #[pp cb,bW,zi 0,pp (w.heap.size+1),zi 0,bW] 116));have l:Ext wf h:=yF;have m:h.heap[w.heap.size+2]?=aO #[pp cb,bW,zi 0,pp (w.heap.size+1),zi 0,bW] 116:=yH;rw[<- F,<- k];have t:Ext w h:=yF;refine⟨yF,t,w.heap.size+2,J,zo,fun D ρ hD=>?_⟩;refine⟨fun _=>w.heap.size+1,fun _=>w.heap.size,bW,bW,[],?_⟩;refine⟨⟨⟨fun i j hi=>absurd hi (a3z _),fun i hi=>absurd hi (a3z _)⟩,fun i hi=>absurd hi (a3z _),m,a1Q _ _ _ _,fun g n=>(by cases n),yH,List.nodup_nil,(fun p I=>by cases I),trivial⟩,
  by show 0<1;omega,fun i x hx=>?_,fun i x b hx P=>?_,yH,fun i j hi a _=>?_,a1Q _ _ _ _,J,fun g n=>(by cases n)⟩
 .have hi:i=0:=by
   have:=(a2g.1 hx).1;have c:i<1:=this;omega
  subst hi;have hx:x=⟨ask,a2a ask.slots .nil,0,V,0,A⟩:=(a1w hx).symm;subst hx;have K:(a2a ask.slots Sl.nil).length=ask.slots:=List.length_replicate;refine⟨⟨fk,?_,o.bJ (eO.ed t),yH⟩,zg,madeCells #[ai] ask.slots,yH,by grind [size_madeCells],fun j y a=>?_⟩
  .simp only[K];exact l.ext _ _ f
  .have u:j<ask.slots:=zg;have a:(a2a ask.slots Sl.nil)[j]?=O y:=a;rw[List.getElem?_replicate,zip u] at a;cases a;refine⟨ai,?_,J⟩;have:=apv ai ask.slots j u;grind
 .have hi:i=0:=by
   have:=(a2g.1 hx).1;have c:i<1:=this;omega
  subst hi;have hx:x=⟨ask,a2a ask.slots .nil,0,V,0,A⟩:=(a1w hx).symm;grind
 .have Q:i<1:=hi;have c:j<1:=a;omega
section
variable{D:Nat->Prop}{ρ:Nat->Nat}{vb cb fk:Nat}{w w':Z}{m:Vm}
def aPc(h:BT D ρ vb cb fk w m){pb told:Nat}{dG:List Pd}(hC:yr w cb pb fk told dG)(ht:∀ x,m.fs[m.f]?=O x->told<=x.slots.length)(Cu:told<=100000) :
  Calls bbG 36 #[pp vb] w fun e w'=>Ext w w'/\match m.iK (a1U told) with
   | .ok l=>∃ v us,e = ah v/\fJ (fun _=>True) w' 89 v us/\qe ρ m.n w' us l
   | .error t=>e=gP t:=by
 obtain⟨φ,ψ,av,tv,di,hx⟩:=h;obtain⟨x,q⟩:∃ x,m.fs[m.f]?=O x:=⟨_,a1u hx.fl⟩;have ht:=ht x q;suffices H:∀ R:Ending->Z->Prop,(∀ c w',Ext w w'->(match m.iK (a1U told) with
   | .ok l=>∃ v us,c = ah v/\fJ (fun _=>True) w' 89 v us/\qe ρ m.n w' us l
   | .error t=>c=gP t)->R c w')->Calls bbG 36 #[aq (O ⟨vb,0,V⟩)] w R from H _ yF
 intro R I;have c0:w.heap[vb]?=aO #[pp cb,tv,zi (m.sr.fuel:Nat),pp (φ m.f),zi (m.pc:Nat),av] 116:=hx.cell;obtain⟨⟨U,r,-,-⟩,-,W,i,FR,FT⟩:=hx.fs _ _ q;have r:w.heap[φ m.f]?=aO #[pp U,cS (ψ m.f) x.slots.length x.slots.length,zi (x.entry:Nat),BR φ x.back,zi (x.pc:Nat)] 203:=r;have i:w.heap[ψ m.f]?=aO W 20:=i;have X:=hC.cell;have htc:(told:Int)<=(x.slots.length:Int):=zo;have K:∀ s,sliced (O ⟨ψ m.f,0,V⟩) 0 told x.slots.length s = cS (ψ m.f) told x.slots.length:=(by grind [sliced,Addr.add]);refine aM3 ?_;refine dB @c0 r X K ?_;have dD:Ext w w.drew:=yF;refine⟨fun n z u=>∃ (j:Nat) (y:Y) (us:List Y) (d:List Tm),z 23=zi (j:Nat)/\z 2=y/\j<=told/\n=told-j/\Ext w u/\u.ownsRow w.heap.size 89 1 y j us/\us.length=j/\qe ρ m.n w us d/\m.iK (a1U told)=P.Dh d (m.iK ((a1U told).drop j)),
  ⟨_,0,bW,[],[],J,J,Nat.zero_le _,J,dD,a1Q _ _ _ _,J,by unfold qe iG;rfl,by rw[List.drop_zero];cases m.iK (a1U told)<;>rfl⟩,?_⟩
 intro n z dz u hI;clear dz;refine toPr ?_;obtain⟨j,y,us,d,o,B,hj,rfl,g,how,uO,L,p⟩:=hI;obtain⟨pa,pc,FW⟩:=gV how;subst FW;have sj:=g.size;by_cases hlt:j<told
 .have C4:(j:Int)<(told:Int):=zo;have j6:(j:Int).toNat=j:=zo;have M:=g.ext _ _ i;have lrj:=bg M;obtain⟨C,v,q1,q2,q3,q4⟩:=hx.Q2 q (k:=j) zo;have q1:w.heap[ψ m.f]?=aO C 20:=q1;rw[i] at q1;cases q1;have a:=P.agm (m:=m) (ks:=a1U told) (j:=j) (by simpa using hlt) p;simp only[List.getElem_range] at a;have hv:=q4.one;rcases hv with rfl | ⟨N,Q,rfl⟩;all_goals
   refine dB o B C4 (zA @j6 (zA M (zA @q3 K))) ?_;refine a1r (apX _ (q4.bJ (eO.ed g) (eu.refl _ _))) ?_;rintro c w2 ⟨rfl,b⟩;cases E:P.vL (m.slot j) with
   | error t=>
    rw[E] at b a;have a:m.iK (a1U told) = .error t:=a;have b:c=gP t:=b;subst b;cases t<;>exact I _ _ g (by rw[a];rfl)
   | ok t=>
    rw[E] at b a;have a:m.iK (a1U told)=P.Dh (d++[t]) (m.iK ((a1U told).drop (j+1))):=a;have b:c = ah _:=b;subst b;have F:=P.Y8 E;rw[F] at q4;have q4:dK ρ m.n w _ t:=q4;first
     | (exfalso;obtain⟨_,_,h9⟩:=q4.iface;cases h9;done)
     | (simp (disch:=first|assumption|omega|simp only[zS]<;>omega|decide) only[zB,simprocAttr,kW,o,B];have S:(w2.alloc (ae #[aj N Q] 89 (0,0))).ownsRow w.heap.size 89 1 (.slice pa j pc) j us:=jL yH how;refine Qm S (sK J) J zo (by rw[size_alloc];omega) ?_;intro v' w' T jA D2;obtain⟨Df,pc',Jn⟩:=gV T;subst Jn;simp (disch:=first|assumption|omega|simp only[zS]<;>omega|decide) only[zB,simprocAttr,kW,o];exact⟨told-(j+1),zo,j+1,_,us++[aj N Q],d++[t],zg,zg,zo,J,agh yF S jA,T,zg,L.snoc q4,a⟩)
 .have fp:j=told:=zo;subst fp;rw[List.drop_of_length_le zs] at p;have p:m.iK (a1U j) = .ok d:=by grind [Vm.iK,P.Dh]
  refine dj o B ?_;exact I _ _ g (by rw[p];exact⟨_,us,J,Uy how uO.symm,L.bJ (ry.ed g)⟩)
end
def P.aqM(s:Vm)(f:Nat):∀ (ks:List Nat),Vm.iK { s with sr:={ s.sr with fuel:=f } } ks=Vm.iK s ks
 | []=>rfl
 | k::r=>by
  rw[P.agl,P.agl,P.aqM s f r];rfl
structure VmQ(dG:List Pd)(told vb cb fk pb:Nat)(D:Nat->Prop)(ρ:Nat->Nat)(w:Z)(m:Vm):Prop where
 vm:BT D ρ vb cb fk w m
 code:yr w cb pb fk told dG
def Q9(dG:List Pd)(told vb cb fk pb:Nat):Ez (KX dG told) where
 T:=116
 pT:=111
 fN:=205
 fT:=36
 eb:=vb
 tf:=#[pp vb]
 tc:=#[]
 Mem D ρ w m:=VmQ dG told vb cb fk pb D ρ w m
 Good c m:=gA (c*1000000) { m with sr:={ m.sr with fuel:=0 } }/\jG told m/\∃ x,m.fs[m.f]?=O x/\x.ask=A
def gi.aPf{e:AX}{m:Vm}(h:gi D ρ e av tv xs w m){C:Array Y}(a:w.heap[e.vb]?=aO C 116)(hk:Hl e.vb w w')(c:w'.heap[e.vb]?=aO (kr C 1 (f:Int)) 116) :
  gi D ρ e av tv xs w' { m with sr:={ m.sr with fuel:=f } }:=by
 have d:eO w w':=hk.toI (T:=116) (by grind [lI]) a;have i:av.ownBlock≠O e.vb:=(by grind [YV]);exact h.rest ⟨d,fun b cs g=>hk.1 b cs _ zg zo zo g⟩ (eu.refl _ _) (by grind [afD,ar]) (h.st.apO Da hk a c) h.fl
theorem aqN(dG:List Pd)(told vb cb fk pb:Nat)(tz:∀ p∈dG,∀ c∈p.clauses,zc c)(aPg:told<=100000):Jh (Q9 dG told vb cb fk pb) where
 st:=by
  rintro D ρ w s ⟨⟨φ,ψ,av,tv,di,h⟩,-⟩;exact⟨_,tv,Da,h.st⟩
 ext:=by
  rintro D ρ w w' s ⟨⟨φ,ψ,av,tv,di,h⟩,h2⟩ hE;exact⟨⟨φ,ψ,av,tv,di,h.ext hE⟩,(by grind [eO.ed,yr.bJ,bB.ext])⟩
 fuel:=by
  rintro D ρ w w' s C f ⟨⟨φ,ψ,av,tv,di,h⟩,h2⟩ hc hk oy;have hI:eO w w':=hk.toI (T:=116) (by grind [lI]) hc;have hc:w.heap[vb]?=aO C 116:=hc;exact⟨⟨φ,ψ,av,tv,di,h.aPf hc hk oy⟩,h2.bJ hI fun l hm=>hk.2 _ _ _ (fun e=>by
   have e:pb=vb:=e;rw[e,hc] at hm;cases hm) hm⟩
 apx:=fun s f=>rfl
 afl:=fun s f=>P.aqM s f (a1U told)
 next:=by
  rintro D ρ w s c d f r ⟨h1,h2⟩ hD ⟨hg,hl,hq⟩ hc hr;have jA:gA (c*1000000+1000000) { s with sr:={ s.sr with fuel:=1000000 } }:=by
   have g1:s.sr.tr.length+0<=c*1000000:=hg.cV;have g2:s.bw.length+0<=c*1000000:=hg.nN;exact⟨hg.f,hg.fr,hg.ag,hg.marks,hg.mono,by show s.sr.tr.length+1000000<=_;omega,zg,hg.pc,hg.xj,hg.xY⟩
  have hr:IT dG d f { s with sr:={ s.sr with fuel:=1000000 } }=O r:=hr;refine(aOT h1 hD h2 tz zo jA hr).mono ?_;rintro e w' ⟨hE,hp⟩;refine⟨hE,?_⟩;cases r with
  | error t=>omega
  | ok p=>
   obtain⟨rfl,eM,hu,hm⟩:=hp;exact⟨J,eM,hm,h2.fr hE⟩
 EV:=by
  rintro s c d f k ⟨hg,hl,hq⟩ hc-hr;have jA:gA (c*1000000+1000000) { s with sr:={ s.sr with fuel:=1000000 } }:=by
   have g1:s.sr.tr.length+0<=c*1000000:=hg.cV;have g2:s.bw.length+0<=c*1000000:=hg.nN;exact⟨hg.f,hg.fr,hg.ag,hg.marks,hg.mono,by show s.sr.tr.length+1000000<=_;omega,zg,hg.pc,hg.xj,hg.xY⟩
  have hr:IT dG d f { s with sr:={ s.sr with fuel:=1000000 } }=O (.ok (A,k)):=hr;obtain⟨h1,h2,h3,h4⟩:=aIf tz jA (show jG told { s with sr:={ s.sr with fuel:=1000000 } } from⟨hl.tr,hl.fr,hl.ag,⟨hl.sr.Fq,hl.sr.ok⟩,hl.ask⟩) hr;refine⟨h3,fun f'=>⟨?_,⟨h2.tr,h2.fr,h2.ag,⟨h2.sr.Fq,h2.sr.ok⟩,h2.ask⟩,h4 J⟩⟩;have g1:k.sr.tr.length+k.sr.fuel<=c*1000000+1000000:=h1.cV;have g2:k.bw.length+k.sr.fuel<=c*1000000+1000000:=h1.nN;exact⟨h1.f,h1.fr,h1.ag,h1.marks,h1.mono,by show k.sr.tr.length+0<=(c+1)*1000000;omega,by show k.bw.length+0<=(c+1)*1000000;omega,h1.pc,h1.xj,h1.xY⟩
 told:=by
  rintro D ρ w s ⟨h1,h2⟩ ⟨c,f,-,hl,x,hx,hk⟩;have hx:s.fs[s.f]?=O x:=hx;exact aPc h1 h2 (fun y hy=>by rw[hx] at hy;cases hy;exact hl.ask _ _ hx hk) aPg
 afm:=by
  rintro s c l ⟨hg,hl,x,hx,hk⟩ h;have hF:=hg.fr _ _ hx;exact XI (TB hx hF.tm h).1
 afn:=fun w=>by
  show(method (Tryz.prog.types.size+Made.depth) 111 (pp vb) "Next").run bbG w = .ok (205,pp vb) w
  kernel_rfl
 cN:=by show zR bbG 205=A;kernel_rfl
 cT:=by show zR bbG 36=A;kernel_rfl
def qT(w:Z)(wb:Nat)(out:Bs):Prop:=
 ∃ a buf,(a = aq V\/a=pp wb)/\w.heap[wb]?=aO #[a,buf] 100/\w.ownsRow (wb+1) 5 1 buf out.length (uJ out)
def aPh:liesAt bbG Tryz.prog.depth 100 (2 / Tryz.prog.cellsOf 100) 0 100 1=true:=zk
def aPi(h:w.heap[b]?=aO #[pp b,buf] 100) :
  Calls bbG 82 #[pp b] w fun e w'=>e = ah (ak #[])/\w'=w:=by
 obtain⟨j,hj,_⟩:=a1R.1 X1;have h0:w.cell? ⟨b,0,V⟩=O (pp b):=by grind [World.cell?]
 go_enter func82,ntmps82
 go_wp2
 rw[Lib.run_neq_ptr_same w _ underlying97 hj]
 go_wp2
 go_end0
 grind
def aPj(h:w.heap[b]?=aO #[aq V,buf] 100) :
  Calls bbG 82 #[pp b] w fun e w'=>e = ah (ak #[])/\w'=w.setCell ⟨b,0,V⟩ (pp b):=by
 obtain⟨j,hj,Qb⟩:=a1R.1 X1;have h0:w.cell? ⟨b,0,V⟩=O (aq V):=by grind [World.cell?]
 have It:w.frozen? ⟨b,0,V⟩=false:=jJ h 0;have tE:w.shape? b=O (100,2):=by grind [World.shape?]
 go_enter func82,ntmps82
 go_wp2
 rw[Lib.run_to_unsafe w ⟨b,0,V⟩ underlying97 underlying155 hj zo tE (Nat.zero_lt_succ 1)];simp only[a2n];rw[a3R]
 go_wp2
 rw[run_callFunc_extern func110 zk zk zk (e:=Extern.AbiNoEscape.same) zk];rw[Lib.run_noEscape];simp only[a2n];rw[a3R]
 go_wp2
 rw[Lib.run_from_unsafe w ⟨b,0,V⟩ underlying155 underlying97 hj tE aPh];simp only[a2n];rw[a3R]
 go_wp2
 go_end0
 grind
def aqO(h:qT w wb out) :
  Calls bbG 82 #[pp wb] w fun e w'=>e = ah (ak #[])/\jH wb w w'/\w'.heap.size=w.heap.size/\∃ buf,
   w'.heap[wb]?=aO #[pp wb,buf] 100/\w'.ownsRow (wb+1) 5 1 buf out.length (uJ out):=by
 obtain⟨d,buf,b,a,c⟩:=h;rcases b with rfl | rfl
 .refine(aPj a).mono ?_;rintro e w' ⟨rfl,rfl⟩;rw[vg a];refine⟨J,(bB.refl _ _).bQ (.inl fun _=>.inl J),yH,buf,yH,(by grind [J8])⟩
 .refine(aPi a).mono ?_;rintro e w' ⟨rfl,rfl⟩;exact⟨J,bB.refl _ _,J,buf,a,c⟩
def aqP(h:qT w wb out)(s:Bs)(f:out.length+s.length<=1000000000) :
  Calls bbG 44 #[pp wb,aT s] w fun e w'=>(∃ v,e = ah v)/\qT w' wb (out++s)/\jH wb w w':=by
 refine an0 ?_;refine(aqO h).mono ?_;rintro e w1 ⟨rfl,g,s1,buf,b,a⟩;have i:=bg b;refine cJ b ?_;refine ajy (e:=5) zk a s f zo ?_;intro v' w2 o2 c hv;have d:w2.heap[wb]?=aO #[pp wb,buf] 100:=by
  rw[c.block wb i (fun e=>by have:=(a.lt wb e.symm).1;omega)];omega
 have j:=bg d;obtain⟨l,rc,rfl⟩:=gV o2;refine cJ d ?_;have k:jH wb w1 w2:=jH.X2 a c;refine⟨⟨_,J⟩,⟨_,_,.inr J,qz J j,J8 ?_ zo⟩,(g.trans k).bQ (.inl fun _=>.inl J)⟩;grind
def aPk(h:qT w wb out)(c:UInt8)(j:out.length+1<=1000000000) :
  G3 (pp wb) (.int .u8 c.toNat) w fun e w'=>(∃ v,e = ah v)/\qT w' wb (out++[c])/\jH wb w w':=by
 obtain⟨i,hi,d⟩:=a1R.1 an4;simp only[Prod.mk.injEq] at d;obtain⟨k,l,n⟩:=d;unfold G3;refine a1r (aqO h) ?_;rintro e w1 ⟨rfl,o,s1,buf,f,a⟩;have r:=bg f;refine dj @G3.eq_1 f ?_;refine Sx.DC (m:=1) (t:=98) (e:=5) zk hi k l n J zd (a.alloc _) (blk_alloc_new _ _) J (fun u hu=>?_) j zd (by rw[size_alloc];omega) ?_
 .simp only[a1z,a1E,or_false] at hu;subst hu;rfl
 intro v' w2 o2 b hv;have s2:=b.size;rw[size_alloc] at s2;have g:w2.heap[wb]?=aO #[pp wb,buf] 100:=by
  rw[b.block wb (yH) (fun e=>by have:=(a.lt wb e.symm).1;omega)];exact yH
 have p:=bg g;obtain⟨s,rc,rfl⟩:=gV o2;refine dj @G3.eq_1 g ?_;have q:jH wb w1 w2:=((bB.refl _ _).alloc _).trans (jH.X2 (a.alloc _) b);refine⟨⟨_,J⟩,⟨_,_,.inr J,qz J p,J8 ?_ zo⟩,(o.trans q).bQ (.inl fun _=>.inl J)⟩;grind
def aPl(h:qT w wb out)(c:UInt8)(a:out.length+1<=1000000000) :
  Calls bbG 95 #[pp wb,.int .u8 c.toNat] w fun e w'=>(∃ v,e = ah v)/\qT w' wb (out++[c])/\jH wb w w':=
 an1 (aPk h c a)
def aPm(h:qT w wb out)(h0:out≠[]) :
  Calls bbG 33 #[pp wb] w fun e w'=>e = ah (aT out)/\jH wb w w':=by
 obtain⟨ad,buf,G4,hb,ho⟩:=h;have rf:out.length≠0:=zg;obtain⟨g,cap,cur,rfl,hbg,hg,uZ,Dv,jK,aan⟩:∃ g cap cur,buf = cS g out.length cap/\wb+1<=g/\w.heap[g]?=aO cur 5/\out.length<=cap/\cap<=maxLen/\cur.size=cap*1/\cur.toList.take (out.length*1)=uJ out:=by
  rcases ho.2 with⟨_,hz⟩| ⟨g,cap,cur,hv,r⟩
  .exact yH
  .exact⟨g,cap,cur,hv,r⟩
 have nW:w.drew.heap[wb]?=aO #[ad,cS g out.length cap] 100:=hb;have c1:w.drew.cell? ⟨wb,1,V⟩=O (cS g out.length cap):=by grind [World.cell?]
 have hSD:(Builtin.unsafeSliceData_ #[98] 181 #[cS g out.length cap]).run bbG w.drew = .ok (pp g) w.drew:=
  (by grind [Lib.run_unsafeSliceData_row])
 have hUS:(Builtin.unsafeString_ #[181,3] 9 #[pp g,zi out.length]).run bbG w.drew = .ok (aT out) (w.drew.freeze ⟨g,0,V⟩ out.length):=by
  refine Lib.run_unsafeString_row w.drew 181 3 9 5 underlying181 an7 g cur.size (by have jA:w.drew.heap[g]?=aO cur 5:=hg;grind [World.shape?]) out h0 zo (by grind [maxLen]) ?_;intro j x hx;have:=ho.cells (g:=g) J j (.int .u8 x.toNat) zg;exact this
 go_enter func33,ntmps33
 go_wp2
 go_region
 all_goals (go_wp2;go_ret;exact⟨J,(bB.drew (bB.refl _ _)).trans (an8 zo hg)⟩)
def Dj{C:Array Y}(hm:C.size=m)(a:g=w.heap.size){K:Y->Z->Prop}:WR bbG (convert 98 98 (cS g n c)) (w.alloc (ae C 5 (0,0))) K X=K (cS g n c) (w.alloc (ae C 5 (m,m+1))):=by
 subst a hm;unfold WR;rw[Lib.run_convert_bytes_const w 98 5 C n c zk zk]
def Jr(w:Z)(mb:Nat)(v:Y)(sh:Bs):Prop:=(sh=[]/\v = bW)\/∃ b z,sh≠[]/\v = cS b sh.length sh.length/\b≠mb/\w.heap[b]?=O (ae (uJ sh).toArray 5 z)
theorem Jr.bJ{sh:Bs}(h:Jr w mb v sh)(hk:∀ b o,b≠mb->w.heap[b]?=O o->w'.heap[b]?=O o):Jr w' mb v sh:=by
 rcases h with h | ⟨b,z,a,c,d,e⟩
 .exact .inl h
 .exact .inr yH
structure qU(w:Z)(mb:Nat)(l:List (Bs×Y)):Prop where
 map:w.heap[mb]?=O (eJ l)
 row:∀ p∈l,∃ sh,kS p.1=O sh/\Jr w mb p.2 sh
theorem qU.step{l:List (Bs×Y)}(h:qU w mb l){sh:Bs}(c:kS wd=O sh)(f:sh≠[]) :
  qU (bQ (w.alloc (ae (uJ sh).toArray 5 (sh.length,sh.length+1))) mb (eJ (l++[(wd,cS w.heap.size sh.length sh.length)]))) mb (l++[(wd,cS w.heap.size sh.length sh.length)]):=by
 have lm:=bg h.map;refine⟨yH,fun p a=>?_⟩;rcases List.mem_append.1 a with a | a
 .obtain⟨b,d,e⟩:=h.row p a;exact⟨b,d,e.bJ yH⟩
 .rw[List.mem_singleton] at a;subst a;refine⟨sh,c,?_⟩;have g:(bQ (w.alloc (ae (uJ sh).toArray 5 (sh.length,sh.length+1))) mb (eJ (l++[(wd,cS w.heap.size sh.length sh.length)]))).heap[w.heap.size]?=O (ae (uJ sh).toArray 5 (sh.length,sh.length+1)):=by
   exact yH
  exact .inr yH
def qU.aqQ{l:List (Bs×Y)}(h:qU w mb l)(b:kS wd=O []):qU (bQ w mb (eJ (l++[(wd,bW)]))) mb (l++[(wd,bW)]):=by
 refine⟨qz J (bg h.map),fun p a=>?_⟩;rcases List.mem_append.1 a with a | a
 .grind [jb,row,Jr.bJ]
 .rw[List.mem_singleton] at a;subst a;exact⟨[],b,.inl ⟨J,J⟩⟩
theorem zC{s:Bs}:∀ {l:List (Bs×Y)} {i:Nat},s ∉ l.map a2F->fL s l i=V
 | [],_,_=>rfl
 | (u,v)::r,i,h=>by
  unfold fL;rw[bM (fun e=>h (by simp [e]))];exact zC zg
def aPo{l:List (Bs×Y)}(h:fL s l i=O (j,v)):(s,v)∈l:=List.mem_of_getElem? (YG h).2
def aPp{sh:Bs}(h:kS wd=O sh):wd∈[P.rS,Ft,D6,Fu,IV,IW,mr,tj,pF,kE,jR,jm,xf,NA,NB]:=by
 simp only[a1z,a1E,or_false];rcases P4 h with⟨hw,-⟩| ⟨hw,-⟩| ⟨hw,-⟩| ⟨hw,-⟩| ⟨hw,-⟩| ⟨hw,-⟩| ⟨hw,-⟩<;>(first | (rcases hw with rfl | rfl | rfl | rfl<;>simp) | (rcases hw with rfl | rfl<;>simp) | (subst hw;simp))
abbrev aqR:List Bs:=[P.rS,Ft,D6,Fu,IV,IW,mr,tj,pF,kE,jR,jm,xf,NA,NB]
theorem qU.find{w:Z}{mb:Nat}{l:List (Bs×Y)}(h:qU w mb l)(hk:l.map a2F=aqR)(wd:Bs):match fL wd l 0 with
  | none=>kS wd=V
  | some (_,v)=>∃ sh,kS wd=O sh/\Jr w mb v sh:=by
 cases b:fL wd l 0 with
 | none=>
  simp only;cases c:kS wd with
  | none=>rfl
  | some sh=>
   have hm:=aPp c;rw[show [P.rS,Ft,D6,Fu,IV,IW,mr,tj,pF,kE,jR,jm,xf,NA,NB]=l.map a2F from hk.symm] at hm;obtain⟨p,d,rfl⟩:=List.mem_map.1 hm;exfalso;have:∀ (l:List (Bs×Y)) (i:Nat),p∈l->fL p.1 l i≠none:=by
    intro l;induction l with
    | nil=>grind
    | cons a r ih=>
     intro i d;obtain⟨u,v⟩:=a;unfold fL;grind
   grind
 | some q=>
  obtain⟨j,v⟩:=q;exact h.row _ (aPo b)
def aqS(w:Z):Calls bbG 101 #[] w fun e w'=>Ext w w'/\∃ mb l,e = ah (.map (O mb))/\w.heap.size<=mb/\qU w' mb l/\l.map a2F=aqR:=by
 refine aOC ?_;refine bH ?_;obtain⟨w0,M⟩:=cg (w.alloc (.map #[] 0));have oV:Ext w w0:=yF;have N:qU w0 w.heap.size []:=⟨by rw[M];exact sK J,yH⟩;have s0:w0.heap.size=w.heap.size+1:=yH;obtain⟨mb,Jk⟩:=cg w.heap.size;rw[<- M,<- s0];rw[<- Jk] at N ⊢;clear M;have k1:fL [110,101,119] [] 0=none:=zC zs;have a1:=N.step (wd:=[110,101,119]) (sh:=[115]) zd zs;have Je:(w0.alloc (ae #[.int .u8 115] 5 (1,1+1))).heap[mb]?=O (eJ []):=((bB.refl (fun _ _=>False) _).alloc _).block _ _ N.map zg;rw[Dj (m:=1) J rfl];rw[yj (k:=9) (e:=98) zk zk Je [110,101,119] k1];obtain⟨w1,e1⟩:=cg (bQ (w0.alloc (ae #[.int .u8 115] 5 (1,1+1))) mb (eJ ([]++[([110,101,119],cS w0.heap.size 1 1)])));obtain⟨b,f1⟩:=cg (([]:List (Bs×Y))++[([110,101,119],a1D (O ⟨w0.heap.size,0,V⟩) 1 1)]);have h1:qU w1 mb b:=zg;have dF:Ext w w1:=yF;have m1:b.map a2F=[[110,101,119]]:=zg;rw[<- e1];clear e1 f1 a1;refine bH ?_;have k2:fL [112,117,116] b 0=none:=(by grind [zC]);have a2:=h1.step (wd:=[112,117,116]) (sh:=[115,99]) zd zs;have n9:(w1.alloc (ae #[.int .u8 115,.int .u8 99] 5 (2,2+1))).heap[mb]?=O (eJ b):=((bB.refl (fun _ _=>False) _).alloc _).block _ _ h1.map zg;rw[Dj (m:=2) J rfl];rw[yj (k:=9) (e:=98) zk zk n9 [112,117,116] k2];obtain⟨w2,e2⟩:=cg (bQ (w1.alloc (ae #[.int .u8 115,.int .u8 99] 5 (2,2+1))) mb (eJ (b++[([112,117,116],cS w1.heap.size 2 2)])));obtain⟨c,f2⟩:=cg (b++[([112,117,116],a1D (O ⟨w1.heap.size,0,V⟩) 2 2)]);have h2:qU w2 mb c:=zg;have dT:Ext w w2:=yF;have m2:c.map a2F=[[110,101,119],[112,117,116]]:=zg;rw[<- e2];clear e2 f2 a2;refine bH ?_;have k3:fL [99,111,110,115,116] c 0=none:=(by grind [zC]);have a3:=h2.step (wd:=[99,111,110,115,116]) (sh:=[115,99]) zd zs;have QI:(w2.alloc (ae #[.int .u8 115,.int .u8 99] 5 (2,2+1))).heap[mb]?=O (eJ c):=((bB.refl (fun _ _=>False) _).alloc _).block _ _ h2.map zg;rw[Dj (m:=2) J rfl];rw[yj (k:=9) (e:=98) zk zk QI [99,111,110,115,116] k3];obtain⟨w3,e3⟩:=cg (bQ (w2.alloc (ae #[.int .u8 115,.int .u8 99] 5 (2,2+1))) mb (eJ (c++[([99,111,110,115,116],cS w2.heap.size 2 2)])));obtain⟨d,f3⟩:=cg (c++[([99,111,110,115,116],a1D (O ⟨w2.heap.size,0,V⟩) 2 2)]);have h3:qU w3 mb d:=zg;have eH:Ext w w3:=yF;have m3:d.map a2F=[[110,101,119],[112,117,116],[99,111,110,115,116]]:=zg;rw[<- e3];clear e3 f3 a3;refine bH ?_;have k4:fL [115,97,109,101] d 0=none:=(by grind [zC]);have a4:=h3.step (wd:=[115,97,109,101]) (sh:=[115,115]) zd zs;have P:(w3.alloc (ae #[.int .u8 115,.int .u8 115] 5 (2,2+1))).heap[mb]?=O (eJ d):=((bB.refl (fun _ _=>False) _).alloc _).block _ _ h3.map zg;rw[Dj (m:=2) J rfl];rw[yj (k:=9) (e:=98) zk zk P [115,97,109,101] k4];obtain⟨f,e4⟩:=cg (bQ (w3.alloc (ae #[.int .u8 115,.int .u8 115] 5 (2,2+1))) mb (eJ (d++[([115,97,109,101],cS w3.heap.size 2 2)])));obtain⟨g,f4⟩:=cg (d++[([115,97,109,101],a1D (O ⟨w3.heap.size,0,V⟩) 2 2)]);have h4:qU f mb g:=zg;have gW:Ext w f:=yF;have m4:g.map a2F=[[110,101,119],[112,117,116],[99,111,110,115,116],[115,97,109,101]]:=zg;rw[<- e4];clear e4 f4 a4;refine bH ?_;have k5:fL [109,97,107,101] g 0=none:=(by grind [zC]);have a5:=h4.step (wd:=[109,97,107,101]) (sh:=[115,110,42]) zd zs;have Jg:(f.alloc (ae #[.int .u8 115,.int .u8 110,.int .u8 42] 5 (3,3+1))).heap[mb]?=O (eJ g):=((bB.refl (fun _ _=>False) _).alloc _).block _ _ h4.map zg;rw[Dj (m:=3) J rfl];rw[yj (k:=9) (e:=98) zk zk Jg [109,97,107,101] k5];obtain⟨h,e5⟩:=cg (bQ (f.alloc (ae #[.int .u8 115,.int .u8 110,.int .u8 42] 5 (3,3+1))) mb (eJ (g++[([109,97,107,101],cS f.heap.size 3 3)])));obtain⟨i,f5⟩:=cg (g++[([109,97,107,101],a1D (O ⟨f.heap.size,0,V⟩) 3 3)]);have h5:qU h mb i:=zg;have tY:Ext w h:=yF;have m5:i.map a2F=[[110,101,119],[112,117,116],[99,111,110,115,116],[115,97,109,101],[109,97,107,101]]:=zg;rw[<- e5];clear e5 f5 a5;refine bH ?_;have k6:fL [115,112,108,105,116] i 0=none:=zC zg;have a6:=h5.step (wd:=[115,112,108,105,116]) (sh:=[115,110,42]) zd zs;have Q8:(h.alloc (ae #[.int .u8 115,.int .u8 110,.int .u8 42] 5 (3,3+1))).heap[mb]?=O (eJ i):=((bB.refl (fun _ _=>False) _).alloc _).block _ _ h5.map zg;rw[Dj (m:=3) J rfl];rw[yj (k:=9) (e:=98) zk zk Q8 [115,112,108,105,116] k6];obtain⟨j,e6⟩:=cg (bQ (h.alloc (ae #[.int .u8 115,.int .u8 110,.int .u8 42] 5 (3,3+1))) mb (eJ (i++[([115,112,108,105,116],cS h.heap.size 3 3)])));obtain⟨n,f6⟩:=cg (i++[([115,112,108,105,116],a1D (O ⟨h.heap.size,0,V⟩) 3 3)]);have h6:qU j mb n:=zg;have lh:Ext w j:=yF;have m6:n.map a2F=[[110,101,119],[112,117,116],[99,111,110,115,116],[115,97,109,101],[109,97,107,101],[115,112,108,105,116]]:=by rw[f6,a2u,m5];rfl
 rw[<- e6];clear e6 f6 a6;refine bH ?_;have k7:fL [116,101,115,116] n 0=none:=zC zg;have a7:=h6.step (wd:=[116,101,115,116]) (sh:=[110,42]) zd zs;have Q:(j.alloc (ae #[.int .u8 110,.int .u8 42] 5 (2,2+1))).heap[mb]?=O (eJ n):=((bB.refl (fun _ _=>False) _).alloc _).block _ _ h6.map zg;rw[Dj (m:=2) J rfl];rw[yj (k:=9) (e:=98) zk zk Q [116,101,115,116] k7];obtain⟨o,e7⟩:=cg (bQ (j.alloc (ae #[.int .u8 110,.int .u8 42] 5 (2,2+1))) mb (eJ (n++[([116,101,115,116],cS j.heap.size 2 2)])));obtain⟨p,f7⟩:=cg (n++[([116,101,115,116],a1D (O ⟨j.heap.size,0,V⟩) 2 2)]);have h7:qU o mb p:=zg;have GO:Ext w o:=yF;have m7:p.map a2F=[[110,101,119],[112,117,116],[99,111,110,115,116],[115,97,109,101],[109,97,107,101],[115,112,108,105,116],[116,101,115,116]]:=by rw[f7,a2u,m6];rfl
 rw[<- e7];clear e7 f7 a7;refine bH ?_;have k8:fL [109,97,114,107] p 0=none:=zC zg;have a8:=h7.step (wd:=[109,97,114,107]) (sh:=[115]) zd zs;have R:(o.alloc (ae #[.int .u8 115] 5 (1,1+1))).heap[mb]?=O (eJ p):=((bB.refl (fun _ _=>False) _).alloc _).block _ _ h7.map zg;rw[Dj (m:=1) J rfl];rw[yj (k:=9) (e:=98) zk zk R [109,97,114,107] k8];obtain⟨q,e8⟩:=cg (bQ (o.alloc (ae #[.int .u8 115] 5 (1,1+1))) mb (eJ (p++[([109,97,114,107],cS o.heap.size 1 1)])));obtain⟨r,f8⟩:=cg (p++[([109,97,114,107],a1D (O ⟨o.heap.size,0,V⟩) 1 1)]);have h8:qU q mb r:=zg;have vO:Ext w q:=yF;have m8:r.map a2F=[[110,101,119],[112,117,116],[99,111,110,115,116],[115,97,109,101],[109,97,107,101],[115,112,108,105,116],[116,101,115,116],[109,97,114,107]]:=by rw[f8,a2u,m7];rfl
 rw[<- e8];clear e8 f8 a8;refine bH ?_;have k9:fL [108,101,118,101,108] r 0=none:=zC (by rw[m8];decide);have a9:=h8.step (wd:=[108,101,118,101,108]) (sh:=[115]) zd zs;have S:(q.alloc (ae #[.int .u8 115] 5 (1,1+1))).heap[mb]?=O (eJ r):=((bB.refl (fun _ _=>False) _).alloc _).block _ _ h8.map zg;rw[Dj (m:=1) J rfl];rw[yj (k:=9) (e:=98) zk zk S [108,101,118,101,108] k9];obtain⟨s,e9⟩:=cg (bQ (q.alloc (ae #[.int .u8 115] 5 (1,1+1))) mb (eJ (r++[([108,101,118,101,108],cS q.heap.size 1 1)])));obtain⟨t,f9⟩:=cg (r++[([108,101,118,101,108],a1D (O ⟨q.heap.size,0,V⟩) 1 1)]);have h9:qU s mb t:=zg;have nj:Ext w s:=yF;have m9:t.map a2F=[[110,101,119],[112,117,116],[99,111,110,115,116],[115,97,109,101],[109,97,107,101],[115,112,108,105,116],[116,101,115,116],[109,97,114,107],[108,101,118,101,108]]:=by rw[f9,a2u,m8];rfl
 rw[<- e9];clear e9 f9 a9;refine bH ?_;have Ox:fL [99,117,116] t 0=none:=zC (by rw[m9];decide);have T:=h9.step (wd:=[99,117,116]) (sh:=[115]) zd zs;have Oy:(s.alloc (ae #[.int .u8 115] 5 (1,1+1))).heap[mb]?=O (eJ t):=((bB.refl (fun _ _=>False) _).alloc _).block _ _ h9.map zg;rw[Dj (m:=1) J rfl];rw[yj (k:=9) (e:=98) zk zk Oy [99,117,116] Ox];obtain⟨u,C⟩:=cg (bQ (s.alloc (ae #[.int .u8 115] 5 (1,1+1))) mb (eJ (t++[([99,117,116],cS s.heap.size 1 1)])));obtain⟨l10,f10⟩:=cg (t++[([99,117,116],a1D (O ⟨s.heap.size,0,V⟩) 1 1)]);have rQ:qU u mb l10:=zg;have zD:Ext w u:=yF;have m10:l10.map a2F=[[110,101,119],[112,117,116],[99,111,110,115,116],[115,97,109,101],[109,97,107,101],[115,112,108,105,116],[116,101,115,116],[109,97,114,107],[108,101,118,101,108],[99,117,116]]:=by rw[f10,a2u,m9];rfl
 rw[<- C];clear C f10 T;refine bH ?_;have U:fL [116,114,121] l10 0=none:=zC (by rw[m10];decide);have W:=rQ.step (wd:=[116,114,121]) (sh:=[112]) zd zs;have X:(u.alloc (ae #[.int .u8 112] 5 (1,1+1))).heap[mb]?=O (eJ l10):=((bB.refl (fun _ _=>False) _).alloc _).block _ _ rQ.map zg;rw[Dj (m:=1) J rfl];rw[yj (k:=9) (e:=98) zk zk X [116,114,121] U];obtain⟨x,D⟩:=cg (bQ (u.alloc (ae #[.int .u8 112] 5 (1,1+1))) mb (eJ (l10++[([116,114,121],cS u.heap.size 1 1)])));obtain⟨y,f11⟩:=cg (l10++[([116,114,121],a1D (O ⟨u.heap.size,0,V⟩) 1 1)]);have qK:qU x mb y:=zg;have zE:Ext w x:=yF;have m11:y.map a2F=[[110,101,119],[112,117,116],[99,111,110,115,116],[115,97,109,101],[109,97,107,101],[115,112,108,105,116],[116,101,115,116],[109,97,114,107],[108,101,118,101,108],[99,117,116],[116,114,121]]:=by rw[f11,a2u,m10];rfl
 rw[<- D];clear D f11 W;refine bH ?_;have k12:fL [106,117,109,112] y 0=none:=zC (by rw[m11];decide);have a12:=qK.step (wd:=[106,117,109,112]) (sh:=[112]) zd zs;have Zh:(x.alloc (ae #[.int .u8 112] 5 (1,1+1))).heap[mb]?=O (eJ y):=((bB.refl (fun _ _=>False) _).alloc _).block _ _ qK.map zg;rw[Dj (m:=1) J rfl];rw[yj (k:=9) (e:=98) zk zk Zh [106,117,109,112] k12];obtain⟨z,E⟩:=cg (bQ (x.alloc (ae #[.int .u8 112] 5 (1,1+1))) mb (eJ (y++[([106,117,109,112],cS x.heap.size 1 1)])));obtain⟨B,f12⟩:=cg (y++[([106,117,109,112],a1D (O ⟨x.heap.size,0,V⟩) 1 1)]);have nX:qU z mb B:=zg;have qP:Ext w z:=yF;have m12:B.map a2F=[[110,101,119],[112,117,116],[99,111,110,115,116],[115,97,109,101],[109,97,107,101],[115,112,108,105,116],[116,101,115,116],[109,97,114,107],[108,101,118,101,108],[99,117,116],[116,114,121],[106,117,109,112]]:=by rw[f12,a2u,m11];rfl
 rw[<- E];clear E f12 a12;refine bH ?_;have k13:fL [99,97,108,108] B 0=none:=zC (by rw[m12];decide);have a13:=nX.step (wd:=[99,97,108,108]) (sh:=[110,42]) zd zs;have Rf:(z.alloc (ae #[.int .u8 110,.int .u8 42] 5 (2,2+1))).heap[mb]?=O (eJ B):=((bB.refl (fun _ _=>False) _).alloc _).block _ _ nX.map zg;rw[Dj (m:=2) J rfl];rw[yj (k:=9) (e:=98) zk zk Rf [99,97,108,108] k13];obtain⟨mO,F⟩:=cg (bQ (z.alloc (ae #[.int .u8 110,.int .u8 42] 5 (2,2+1))) mb (eJ (B++[([99,97,108,108],cS z.heap.size 2 2)])));obtain⟨H,f13⟩:=cg (B++[([99,97,108,108],a1D (O ⟨z.heap.size,0,V⟩) 2 2)]);have Jq:qU mO mb H:=zg;have rY:Ext w mO:=yF;have m13:H.map a2F=[[110,101,119],[112,117,116],[99,111,110,115,116],[115,97,109,101],[109,97,107,101],[115,112,108,105,116],[116,101,115,116],[109,97,114,107],[108,101,118,101,108],[99,117,116],[116,114,121],[106,117,109,112],[99,97,108,108]]:=by rw[f13,a2u,m12];rfl
 rw[<- F];clear F f13 a13;have k14:fL [114,101,116] H 0=none:=zC (by rw[m13];decide);have a14:=Jq.aqQ (wd:=[114,101,116]) zd;rw[yj (k:=9) (e:=98) zk zk Jq.map [114,101,116] k14];obtain⟨Js,I⟩:=cg (bQ mO mb (eJ (H++[([114,101,116],bW)])));obtain⟨K,f14⟩:=cg (H++[([114,101,116],a1D V 0 0)]);have Dg:qU Js mb K:=zg;have Ha:Ext w Js:=yF;have m14:K.map a2F=[[110,101,119],[112,117,116],[99,111,110,115,116],[115,97,109,101],[109,97,107,101],[115,112,108,105,116],[116,101,115,116],[109,97,114,107],[108,101,118,101,108],[99,117,116],[116,114,121],[106,117,109,112],[99,97,108,108],[114,101,116]]:=by rw[f14,a2u,m13];rfl
 rw[<- I];clear I f14 a14;have k15:fL [100,111,110,101] K 0=none:=zC (by rw[m14];decide);have a15:=Dg.aqQ (wd:=[100,111,110,101]) zd;rw[yj (k:=9) (e:=98) zk zk Dg.map [100,111,110,101] k15];obtain⟨U1,L⟩:=cg (bQ Js mb (eJ (K++[([100,111,110,101],bW)])));obtain⟨a,f15⟩:=cg (K++[([100,111,110,101],a1D V 0 0)]);have FX:qU U1 mb a:=zg;have N4:Ext w U1:=yF;have m15:a.map a2F=[[110,101,119],[112,117,116],[99,111,110,115,116],[115,97,109,101],[109,97,107,101],[115,112,108,105,116],[116,101,115,116],[109,97,114,107],[108,101,118,101,108],[99,117,116],[116,114,121],[106,117,109,112],[99,97,108,108],[114,101,116],[100,111,110,101]]:=by rw[f15,a2u,m14];rfl
 rw[<- L];clear L f15 a15;exact⟨N4,mb,a,J,zo,FX,m15⟩
open Go.Proofs.YtoegidfbnkaabaaGreatDoor.Sx
section
variable{p0 p1 p2 p3 p4 p5 p6 p7:Y}{w:Z}{R:Ending->Z->Prop}
def aPD:=cz w R [p0,p1,p2,p3,p4] (gc [] [] []) func105
def aPE:=cz w R [p0] (gc [] [(3001,[])] [17]) func104
def aPF:=cz w R [p0] (gc [] [] [7]) func137
def aq0:=cz w R [p0,p1,p2] (gd [(9,[6,65]),(14,[85])] [] [(3,11),(4,10)] [(5,[14,0,1,2,3,4,5,6,7,8,9,10,11,12,13])] [] [] [19,20,31,56,57,66,86]) func106
def aPG:=cz w R [p0,p1] (gd [(9,[6,44])] [] [(2,11)] [] [] [] [13,28,45]) func139
def aPH:=cz w R [p0,p1] (gc [] [] []) func138
def aPI:=cz w R [p0,p1] (gd [] [] [(0,16)] [] [] [] []) func160
end
