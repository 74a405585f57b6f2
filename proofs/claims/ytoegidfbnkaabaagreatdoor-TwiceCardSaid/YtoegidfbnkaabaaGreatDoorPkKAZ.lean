/- A part of one proof (KV15, KV16, KV17, BO1, VT1, ShX3). -/
import Derived.Test.YtoegidfbnkaabaaGreatDoorPkKAY
import Derived.Lib.SlBytesConst
set_option linter.all false
set_option maxRecDepth 100000
set_option maxHeartbeats 8000000
open Option renaming some → O, none → V
open Go renaming Value → Y, World → Z
open Bool renaming true → A, false → ae
open Go.Obj renaming cells → ah
open Go.Ending renaming returned → ai
open Go.Value renaming nilIface → aj, iface → ak, tuple → aq, pointer → au
open Go.Calls renaming mono → a0C
open List renaming getElem?_eq_getElem → a0F, mem_cons → a0N, not_mem_nil → a0V, getElem?_eq_some_iff → a08, range → a09, replicate → a1g, map_append → a1z
open Option.some renaming inj → a0G
open Go.Value renaming slice → a0M
open Go.World renaming ownsRow_nil → a00
open Option renaming map_eq_some_iff → a02
open Go.Result renaming andThen → a1r
open Nat renaming not_lt_zero → a1K
open Prod renaming fst → a1Y
open Go.Oper renaming upon_value → a2X
open Go.Proofs.Tryz renaming prog → baF
open Go.Proofs.Tryz
namespace Go.Proofs.YtoegidfbnkaabaaGreatDoor
open P
open Go.RowKit Sx
variable{B fA b c cb d f g i j m mb n o pb pc told:Nat}{D:Nat->Prop}{K:Y->Prop}{X:Y->Z->Prop}{av buf tv v:Y}{out s wd:Bs}{preds:List Pd}{r:Except iM (Bool×Vm)}{iK:Array Y}{w w':Z}{xs:List Y}{y:Operand}{ρ:Nat->Nat}
def aOT{P:Program}{x:Operand}{t:TypeId}(h:zQ P t=A){a:Nat}{cb:Array Y}{c tb:TypeId}(d:w.heap[a]?=aP iK c)(e:w.heap[b]?=aP cb tb) :
 RD P (bo .neq t x y (pp a) (pp b)) w K X=K (.bool (!decide (a=b))):=ig (by simp [bo,eqGuard,binOp,Sem.run_bind,abd h d e])
section
variable{D:Nat->Prop}{ρ:Nat->Nat}{e:AF}{av tv:Y}{dk:List Y}{w w':Z}{m:Vm}
def aOU(h:gr D ρ e av tv dk w m)(hD:∀ b,w.heap.size<=b->D b)(hC:yq w e.cb pb fA told preds)(j:∀ p∈preds,∀ c∈p.clauses,vA c){x:Fm}{i:P.In}(f:AI w g o i)(a:Ln m x i)(k:i.word≠Nb)
 (hr:qD preds d i m=O r) :
  Calls baF 207 #[pp e.vb,pq g o] w (EPost D w (rT D ρ m.n e.vb e.cb e.fA) r):=by
 have hk:=a.ok.kn;simp only[a0N,a0V,or_false] at hk;rcases hk with hk | hk | hk | hk | hk | hk | hk | hk | hk | hk | hk | hk | hk | hk | hk
 .exact YJ h hD f a (.inl hk) hr
 .exact YJ h hD f a zg hr
 .exact aga h hD f a (.inl hk) hr
 .exact aga h hD f a zg hr
 .exact aOQ h hD f a hk hr
 .exact aga h hD f a zg hr
 .exact aOP h hD f a hk hr
 .exact YJ h hD f a zg hr
 .exact YJ h hD f a zg hr
 .exact agi h hD f a zg hr
 .exact agi h hD f a (.inl hk) hr
 .exact agi h hD f a zg hr
 .exact aqx h hD f a (.inl hk) hC j hr
 .exact aqx h hD f a (.inr hk) hC j hr
 .exact absurd hk k
end
section
variable{D:Nat->Prop}{ρ:Nat->Nat}{vb cb fA:Nat}{w w':Z}{m:Vm}
def P.aOV{m m':Vm}{l:List Co}{args:List Sl}(h:m.enter l args f pc n=O m'):m'.n=m.n:=by
 cases l with
 | nil=>cases h
 | cons c l=>have:=(a0G h).symm;grind
def P.aqy{m:Vm}{p:Bool×Vm}(h:m.back=O p):p.2.n=m.n:=by
 unfold Vm.back at h;split at h
 .grind
 .split at h
  .grind
  .split at h
   .grind
   .rename_i m' he;have:=(a0G h).symm;subst this;exact(P.aOV he).trans J
def aOW(h:BB D ρ vb cb fA w m)(hD:∀ b,w.heap.size<=b->D b)(hC:yq w cb pb fA told preds)(mU:∀ p∈preds,∀ c∈p.clauses,vA c)(NM:B<=800000000)
  (l:gi B m) (hr:Cy preds d f m=O r) :
  Calls baF 205 #[pp vb] w (EPost D w (rT D ρ m.n vb cb fA) r):=by
 suffices H:∀ R:Ending->Z->Prop,(∀ E w',EPost D w (rT D ρ m.n vb cb fA) r E w'->R E w')->Calls baF 205 #[pp vb] w R from H _ fun _ _ h=>h;intro R F;refine aNb ?_;obtain⟨φ,ψ,av,tv,dk,hx⟩:=h;have wY:∀ {m:Vm},gi B m->∀ a∈m.br,a.mark<=m.sr.tr.length/\(∀ c∈a.others,c.slots<=64)/\a.args.length<=60:=fun l a ha=>by
  obtain⟨i,hi,rfl⟩:=List.getElem_of_mem ha;have Qg:=a0F hi;have:=l.ag i _ Qg;exact⟨l.marks i _ Qg,(by grind [vA.sl,Xd.others]),this.qC⟩
 have hlen:∀ {m:Vm},gi B m->m.sr.tr.length<=800000000/\m.br.length+m.sr.fuel<=800000000/\m.sr.tr.length+m.sr.fuel<=800000000:=fun l=>by
  have o:_+_<=B:=l.cW;have h2:=l.mR;omega
 have aX7:∀ (X:Nat->Nat) (m0:Vm) (w0:Z),eC ρ m.n X m0.n->BB D X vb cb fA w0 m0->di D w w0->gi B m0->ld preds d f m0=O r->True:=yF;refine⟨fun _ w1=>∃ (y:Nat->Nat) (m1:Vm),eC ρ m.n y m1.n/\BB D y vb cb fA w1 m1/\di D w w1/\gi B m1/\ld preds d f m1=O r,?_,?_⟩
 .have c0:=hx.cell;have l0:=bn c0;have aOX:=l.pc;unfold Cy at hr;refine⟨fun s w1=>∃ (b:Bool) (y:Nat->Nat) (m1:Vm),s 13 = .bool (!b)/\eC ρ m.n y m1.n/\BB D y vb cb fA w1 m1/\di D w w1/\gi B m1/\(if b then ld preds d f m1=O r else r = .ok (ae,m1)),?_,?_⟩
  .by_cases G:0<m.pc
   .rw[zip G] at hr;have zb:(m.pc:Int) > 0:=zo;refine dB @c0 zb ?_;cases t:m.back with
    | none=>rw[t] at hr;cases hr
    | some q=>
    rw[t] at hr;refine a0C (ap2 hx hD (wY l) zg zg t) ?_;rintro E w1 ⟨S,rfl,o⟩;obtain⟨b,m1⟩:=q;have hn:=P.aqy t;simp only at hn;have hu:eC ρ m.n ρ m1.n:=⟨zo,zg⟩;cases b with
    | false=>
     refine bF ?_;exact⟨ae,ρ,m1,J,hu,o,S,l.back t,zg⟩
    | true=>
     refine bF ?_;exact⟨A,ρ,m1,J,hu,o,S,l.back t,zg⟩
   .rw[bO G] at hr;have zb:¬ (m.pc:Int) > 0:=zo;refine dB @c0 zb ?_;exact⟨A,ρ,m,J,eC.refl _ _,⟨_,_,_,_,_,hx⟩,yF,l,zg⟩
  .rintro s w1 ⟨b,y,m1,Ja,uN,o,S,vi,I⟩ d1;clear d1;cases b with
   | false=>
    refine cM Ja ?_;have I:r = .ok (ae,m1):=zg;subst I;exact F _ _ ⟨S,J,y,uN,o⟩
   | true=>
    refine cM Ja ?_;exact yF
 .rintro s w1 ⟨y,m1,uN,o,S,vi,qn⟩ d1;clear d1 hx hr l;refine⟨fun n z w2=>∃ (vM:Nat->Nat) (m2:Vm),eC ρ m.n vM m2.n/\BB D vM vb cb fA w2 m2/\di D w w2/\gi B m2/\ld preds d n m2=O r,yF,?_⟩;intro n z dd w2 hI;clear dd;refine toPr ?_;obtain⟨vM,m2,Fx,⟨C,ψ2,T,U,Qa,rE⟩,dT,j,e⟩:=hI;clear uN o S vi qn;cases n with
  | zero=>simp [ld] at e
  | succ n=>
  have s2:=dT.size;have hD2:∀ b,w2.heap.size<=b->D b:=yH;obtain⟨Be,qu,gH⟩:=hlen j;refine bF ?_;refine a0C (No rE.less CU zo) ?_;rintro E w3 ⟨eK,W⟩;rw[ld] at e;by_cases h0:m2.sr.fuel=0
  .rw[zip h0] at e W;have e:=(a0G e).symm;subst e W;exact F _ _ ⟨dT.trans (eK.up fun _ h=>h.1),J⟩
  rw[bO h0] at e W;obtain⟨rfl,W⟩:=W;obtain⟨vl,eK⟩:=rE.store W eK;have CL:di D w w3:=yF;have s3:=eK.size;obtain⟨x,xF,hfm⟩:=vl.cur;have xF:m2.fs[m2.f]?=O x:=xF;rw[xF] at e;simp only at e;obtain⟨⟨CZ,K,tR,PB⟩,aOZ,-⟩:=hfm;have K:w3.heap[C m2.f]?=aP #[pp CZ,cU (ψ2 m2.f) x.slots.length x.slots.length,zi (x.entry:Nat),BA C x.back,zi (x.pc:Nat)] 203:=K;have YL:=j.fr _ _ xF;have aOX:=j.pc;obtain⟨insv,gX,xr⟩:=id tR;obtain⟨ga,gc,zp⟩:∃ a c,insv = .slice a x.code.ins.length c:=by
   grind
  have c3:w3.heap[vb]?=aP #[pp cb,U,zi (m2.sr.dec.fuel:Nat),pp (C m2.f),zi (m2.pc:Nat),T] 116:=vl.cell;have l3:=bn c3;have lf3:=bn K;have X5:=bn gX;subst zp;have aeK:Ext w3 w3.drew:=yF;refine bF ?_;refine⟨fun _ w'=>w'=w3.drew/\m2.pc<x.code.ins.length,?_,?_⟩
  .by_cases G:m2.pc<x.code.ins.length
   .have YM:¬ (m2.pc:Int) ≥ (x.code.ins.length:Int):=zo;refine dL @c3 K gX YM ?_;omega
   .have YM:(m2.pc:Int) ≥ (x.code.ins.length:Int):=zo;rw[List.getElem?_eq_none zo] at e;cases e;refine dL @c3 K gX YM ?_;exact F _ _ ⟨yF,J⟩
  rintro z2 w4 ⟨rfl,G⟩ d4;clear d4;have aO0:Ext w3 w3.drew.drew:=aeK.drew;rw[a0F G] at e;obtain⟨i,Uu⟩:=ck (x.code.ins[m2.pc]);rw[<- Uu] at e;have hiq:x.code.ins[m2.pc]?=O i:=zg;rcases xr with⟨o,-⟩| ⟨g,cap,cur,o,fx,AZ,jP,aO2⟩
  .rw[o] at G;simp at G
  simp only[Value.slice.injEq,true_and] at o;obtain⟨rfl,rfl⟩:=o;have II:=aO2 _ _ hiq;have zb:(m2.pc:Int)<(x.code.ins.length:Int):=zo;have ept:(m2.pc:Int).toNat=m2.pc:=zo;simp only at e;obtain⟨m3,Qi⟩:∃ m3:Vm,m3={ m2 with sr:=m2.sr.dec,pc:=m2.pc+1 }:=⟨_,J⟩;obtain⟨k,ow⟩:=ck (bT w3.drew.drew vb (ah #[pp cb,U,zi (m2.sr.dec.fuel:Nat),pp (C m2.f),zi ((m2.pc+1:Nat):Int),T] 116));obtain⟨sJ,rq⟩:=(vl.ext aO0).own (w':=k) (f':=m2.f) (pc':=m2.pc+1) (yF) (yH) j.f;have sJ:gr D vM ⟨C,ψ2,vb,cb,fA⟩ T U Qa k m3:=zg;have Bw:di D w3 k:=yF;have Hk:di D w k:=yF;have YN:=di.toI Bw;have s5:=Bw.size;have c5:=sJ.cell;have Uv:=YN _ _ _ (yM) K;have L:=YN _ _ _ (yM) AZ;have lf5:=bn Uv;have lg5:=bn L;have M:=(hC.fr Hk).cell;have aYc:=bn M;have aO3:AI k g (m2.pc*4) i:=⟨cur,L,zo,II.bJ YN⟩;have MO:=II.word;have N:sU x.code.slots i:=by rw[Uu];exact YL.code.ins _ (List.getElem_mem _)
  have aYd:=YL.code.len;have hB1:1<=B:=by have:=j.mR;omega
  have xN:gi (B-1) m3:=by
   have hf:m2.sr.dec.fuel=m2.sr.fuel-1:=rfl;have hp:m2.sr.tr.length+m2.sr.fuel<=B:=j.cW;have xV:=j.mR;rw[Qi];exact⟨j.f,j.fr,j.ag,j.marks,j.mono,by show m2.sr.tr.length+(m2.sr.fuel-1)<=B-1;omega,zg,zg,j.uD,j.vB⟩
  have aYe:gi B m3:=(by grind [gi.up]);have aqC:m3.fs[m3.f]?=O x:=zg;have aYf:m3.n=m2.n:=zg;rw[<- Qi] at e;refine dL @c3 K gX @ept ?_;have e1:bT w3.drew.drew vb (ah #[pp cb,U,zi (m2.sr.dec.fuel:Nat),pp (C m2.f),zi ((m2.pc:Int)+1),T] 116)=k:=ow.symm;have e2:bT w3.drew.drew vb (ah (oV #[pp cb,U,zi (m2.sr.dec.fuel:Nat),pp (C m2.f),zi (m2.pc:Nat),T] 4 (Value.int .i64 ((m2.pc:Int)+1)).cells.toList) 116 (0,0))=k:=ow.symm;try rw[e1]
  try rw[e2]
  clear e1 e2 ow;refine dB L MO ?_;by_cases Ii:i.word=[100,111,110,101]
  .rw[zip Ii] at e;have aO4:Ext k k.drew:=yF;have Q:k.heap[vb]?=aP #[pp cb,U,zi (m3.sr.fuel:Nat),pp (C m2.f),zi (m3.pc:Nat),T] 116:=by
    exact yH
   have l5:=bn Q;refine cM Ii ?_;refine⟨fun z w'=>w'=k.drew/\z 86 = .bool (!x.ask),?_,?_⟩
   .cases Uw:x.ask with
    | true=>
     have I:=aOZ.1 Uw;have aqD:=PB Uw;simp only at aqD;subst aqD;rw[I] at Uv;simp (disch:=first|assumption|omega|simp only[zS]<;>omega|decide) only[zB,simprocAttr,lp,Q,Uv,M,BA];have aqE:k.drew.heap[CZ]?=_:=YN _ _ _ (yM) gX;rw[aOT zk aqE aqE];simp;rfl
    | false=>
     obtain⟨b,I⟩:∃ b,x.back=O b:=by
      cases I:x.back with
      | none=>grind
      | some b=>grind
     rw[I] at Uv;simp (disch:=first|assumption|omega|simp only[zS]<;>omega|decide) only[zB,simprocAttr,lp,Q,Uv,M,BA]
   .rintro z3 w6 ⟨rfl,YO⟩ d6;clear d6;cases Uw:x.ask with
    | true=>
     rw[Uw] at YO e;rw[zip rfl] at e;cases e;refine cM YO ?_;exact F _ _ ⟨yF,J,vM,zg,_,_,_,_,_,sJ.ext aO4⟩
    | false=>
     rw[Uw] at YO e;rw[bO zd] at e;cases e;refine cM YO ?_;exact F _ _ ⟨yF,J⟩
  .rw[bO Ii] at e;have hH:Ln m3 x i:=⟨aqC,N,YL.sl,YL.tm,by have h9:m3.sr.tr.length+m3.sr.fuel<=B-1:=xN.cW;show m3.sr.tr.length+m3.sr.fuel<=_;omega,zg,N.small⟩;have NU:=sJ.st.ok;have hD5:∀ b,k.heap.size<=b->D b:=yH;refine cM Ii ?_;rw[ept,Nat.zero_add];refine⟨fun z w6=>∃ (ok:Bool) (u:Nat->Nat) (m6:Vm),z 96 = .bool (!ok)/\eC ρ m.n u m6.n/\BB D u vb cb fA w6 m6/\di D w w6/\gi B m6/\(if ok then ld preds d n m6=O r else r = .ok (ae,m6)),?_,?_⟩
   .cases t:qD preds d i m3 with
    | none=>rw[t] at e;cases e
    | some q=>
    rw[t] at e;have y5:=aOU sJ hD5 (hC.fr Hk) mU aO3 hH Ii t;refine a0C y5 ?_;rintro E w6 ⟨j4,me⟩;have YP:=Hk.trans j4;cases q with
    | error te=>
     cases e;have me:E=gW te:=me;subst me;cases te<;>exact F _ _ ⟨YP,J⟩
    | ok q=>
     obtain⟨b6,m6⟩:=q;obtain⟨rfl,u,Yu,QM⟩:=me;have aO5:eC ρ m.n u m6.n:=(by grind [eC.trans]);have pN:gi B m6:=by
      have h9:=(adj xN NU aqC N mU t).1;grind
     have e:(if b6=A then ld preds d n m6 else match m6.back with
      | none=>V
      | some (ae,m)=>O (.ok (ae,m))
      | some (A,m)=>ld preds d n m)=O r:=e
     cases b6 with
     | true=>
      refine bF ?_;exact⟨A,u,m6,zg,aO5,QM,YP,pN,zg⟩
     | false=>
      simp only[Bool.false_eq_true,if_false] at e;cases yl:m6.back with
      | none=>rw[yl] at e;cases e
      | some q7=>
      rw[yl] at e;obtain⟨φ6,ψ6,av6,tv6,aYj,vP⟩:=QM;have s6:=j4.size;obtain⟨aYk,aYl,aYm⟩:=hlen pN;refine bF ?_;refine a0C (ap2 vP yH (wY pN) zg zg yl) ?_;rintro E w7 ⟨Gx,rfl,h7⟩;obtain⟨b7,m7⟩:=q7;have hn7:m7.n=m6.n:=P.aqy yl;have XW:eC ρ m.n u m7.n:=zg;have hg7:gi B m7:=pN.back yl;cases b7 with
      | true=>
       refine bF ?_;exact⟨A,u,m7,zg,XW,h7,yF,hg7,zg⟩
      | false=>
       refine bF ?_;exact⟨ae,u,m7,zg,XW,h7,yF,hg7,zg⟩
   .rintro z6 w6 ⟨ok,u,m6,h96,Yu,QM,YP,pN,Yp⟩ d6;clear d6;cases ok with
    | true=>
     refine cM h96 ?_;exact yF
    | false=>
     refine cM h96 ?_;have Yp:r = .ok (ae,m6):=zg;subst Yp;exact F _ _ ⟨YP,J,u,Yu,QM⟩
end
def aO8{ask:Co}(hC:yq w cb pb fA told preds)(r:FC w fA ask)(L:ask.slots<=64) :
  Calls baF 35 #[pp cb] w fun e w'=>Ext w w'/\∃ q,e = ai (pp q)/\w.heap.size<=q/\∀ (D:Nat->Prop) (ρ:Nat->Nat),(∀ b,w.heap.size<=b->D b)->BB D ρ q cb fA w' (GQ ask):=by
 obtain⟨s,-⟩:=hC;obtain⟨insv,B,M⟩:=id r;have C:Ext w w.drew:=yF;have E:ask.slots<=1000000:=zo;refine aM4 ?_;refine⟨fun w'=>Ext w w',C,?_⟩;rw[jF];refine cR (pq cb 1) (fun w' t=>eS) ?_;refine cR (pp fA) (fun w' t=>by have d:=t.ext _ _ s;have:=bn d;exact fj d) ?_;refine dB s B ?_;obtain⟨wr,F⟩:=ck (w.drew.alloc (ah (madeCells #[aj] ask.slots) 20 (0,0)));have f:Ext w wr:=yF;have sr:wr.heap.size=w.heap.size+1:=yH;have N:wr.heap[w.heap.size]?=aP (madeCells #[aj] ask.slots) 20:=yH;rw[<- F];refine⟨f,?_⟩;obtain⟨wf,G⟩:=ck (wr.alloc (ah #[pp fA,cU w.heap.size ask.slots ask.slots,zi 0,au V,zi 0] 203));have H:Ext wr wf:=yF;have sf:wf.heap.size=w.heap.size+2:=yH;have h:wf.heap[w.heap.size+1]?=aP #[pp fA,cU w.heap.size ask.slots ask.slots,zi 0,au V,zi 0] 203:=yH;obtain⟨k,l⟩:=ck (wf.alloc (ah #[pp cb,b9,zi 0,pp (w.heap.size+1),zi 0,b9] 116));have m:Ext wf k:=yF;have n:k.heap[w.heap.size+2]?=aP #[pp cb,b9,zi 0,pp (w.heap.size+1),zi 0,b9] 116:=yH;rw[<- G,<- l];have u:Ext w k:=yF;refine⟨yF,u,w.heap.size+2,J,zo,fun D ρ hD=>?_⟩;refine⟨fun _=>w.heap.size+1,fun _=>w.heap.size,b9,b9,[],?_⟩;refine⟨⟨⟨fun i j a=>absurd a (a1K _),fun i a=>absurd a (a1K _)⟩,fun i a=>absurd a (a1K _),n,a00 _ _ _ _,fun g o=>(by cases o),yH,List.nodup_nil,(fun p I=>by cases I),trivial⟩,
  by show 0<1;omega,fun i x hx=>?_,fun i x b hx P=>?_,yH,fun i j a c _=>?_,a00 _ _ _ _,J,fun g o=>(by cases o)⟩
 .have a:i=0:=by
   have:=(a08.1 hx).1;have d:i<1:=this;omega
  subst a;have hx:x=⟨ask,a1g ask.slots .nil,0,V,0,A⟩:=(a0G hx).symm;subst hx;have K:(a1g ask.slots Sl.nil).length=ask.slots:=List.length_replicate;refine⟨⟨fA,?_,r.bJ (eM.ed u),yH⟩,zg,madeCells #[aj] ask.slots,yH,by grind [size_madeCells],fun j y c=>?_⟩
  .simp only[K];exact m.ext _ _ h
  .have z:j<ask.slots:=zg;have c:(a1g ask.slots Sl.nil)[j]?=O y:=c;rw[List.getElem?_replicate,zip z] at c;cases c;refine⟨aj,?_,J⟩;have:=apn aj ask.slots j z;grind
 .have a:i=0:=by
   have:=(a08.1 hx).1;have d:i<1:=this;omega
  subst a;have hx:x=⟨ask,a1g ask.slots .nil,0,V,0,A⟩:=(a0G hx).symm;grind
 .have Q:i<1:=a;have d:j<1:=c;omega
section
variable{D:Nat->Prop}{ρ:Nat->Nat}{vb cb fA:Nat}{w w':Z}{m:Vm}
def aPe(h:BB D ρ vb cb fA w m){pb told:Nat}{preds:List Pd}(hC:yq w cb pb fA told preds)(ht:∀ x,m.fs[m.f]?=O x->told<=x.slots.length)(Cd:told<=100000) :
  Calls baF 36 #[pp vb] w fun e w'=>Ext w w'/\match m.iI (a09 told) with
   | .ok l=>∃ v us,e = ai v/\fO (fun _=>True) w' 89 v us/\pU ρ m.n w' us l
   | .error t=>e=gW t:=by
 obtain⟨φ,ψ,av,tv,dk,hx⟩:=h;obtain⟨x,q⟩:∃ x,m.fs[m.f]?=O x:=⟨_,a0F hx.fl⟩;have ht:=ht x q;suffices H:∀ R:Ending->Z->Prop,(∀ c w',Ext w w'->(match m.iI (a09 told) with
   | .ok l=>∃ v us,c = ai v/\fO (fun _=>True) w' 89 v us/\pU ρ m.n w' us l
   | .error t=>c=gW t)->R c w')->Calls baF 36 #[au (O ⟨vb,0,V⟩)] w R from H _ yF
 intro R I;have c0:w.heap[vb]?=aP #[pp cb,tv,zi (m.sr.fuel:Nat),pp (φ m.f),zi (m.pc:Nat),av] 116:=hx.cell;obtain⟨⟨U,r,-,-⟩,-,W,i,FF,FG⟩:=hx.fs _ _ q;have r:w.heap[φ m.f]?=aP #[pp U,cU (ψ m.f) x.slots.length x.slots.length,zi (x.entry:Nat),BA φ x.back,zi (x.pc:Nat)] 203:=r;have i:w.heap[ψ m.f]?=aP W 20:=i;have X:=hC.cell;have htc:(told:Int)<=(x.slots.length:Int):=zo;have K:∀ s,sliced (O ⟨ψ m.f,0,V⟩) 0 told x.slots.length s = cU (ψ m.f) told x.slots.length:=(by grind [sliced,Addr.add]);refine aM5 ?_;refine dL @c0 r X K ?_;have dE:Ext w w.drew:=yF;refine⟨fun n z u=>∃ (j:Nat) (y:Y) (us:List Y) (d:List Tm),z 23=zi (j:Nat)/\z 2=y/\j<=told/\n=told-j/\Ext w u/\u.ownsRow w.heap.size 89 1 y j us/\us.length=j/\pU ρ m.n w us d/\m.iI (a09 told)=P.C4 d (m.iI ((a09 told).drop j)),
  ⟨_,0,b9,[],[],J,J,Nat.zero_le _,J,dE,a00 _ _ _ _,J,by unfold pU iP;rfl,by rw[List.drop_zero];cases m.iI (a09 told)<;>rfl⟩,?_⟩
 intro n z dz u hI;clear dz;refine toPr ?_;obtain⟨j,y,us,d,o,B,hj,rfl,g,C,uL,L,p⟩:=hI;obtain⟨pa,pc,FI⟩:=ij C;subst FI;have sj:=g.size;by_cases hlt:j<told
 .have yf:(j:Int)<(told:Int):=zo;have j8:(j:Int).toNat=j:=zo;have M:=g.ext _ _ i;have lrj:=bn M;obtain⟨E,v,q1,q2,q3,q4⟩:=hx.QG q (k:=j) zo;have q1:w.heap[ψ m.f]?=aP E 20:=q1;rw[i] at q1;cases q1;have a:=P.af5 (m:=m) (ks:=a09 told) (j:=j) (by simpa using hlt) p;simp only[List.getElem_range] at a;have hv:=q4.one;rcases hv with rfl | ⟨N,Q,rfl⟩;all_goals
   refine dL o B yf (zA @j8 (zA M (zA @q3 K))) ?_;refine a0C (apS _ (q4.bJ (eM.ed g) (eC.refl _ _))) ?_;rintro c w2 ⟨rfl,b⟩;cases F:P.vN (m.slot j) with
   | error t=>
    rw[F] at b a;have a:m.iI (a09 told) = .error t:=a;have b:c=gW t:=b;subst b;cases t<;>exact I _ _ g (by rw[a];rfl)
   | ok t=>
    rw[F] at b a;have a:m.iI (a09 told)=P.C4 (d++[t]) (m.iI ((a09 told).drop (j+1))):=a;have b:c = ai _:=b;subst b;have G:=P.YH F;rw[G] at q4;have q4:dN ρ m.n w _ t:=q4;first
     | (exfalso;obtain⟨_,_,h9⟩:=q4.iface;cases h9;done)
     | (simp (disch:=first|assumption|omega|simp only[zS]<;>omega|decide) only[zB,simprocAttr,lp,o,B];have S:(w2.alloc (ah #[ak N Q] 89 (0,0))).ownsRow w.heap.size 89 1 (.slice pa j pc) j us:=jQ yH C;refine PZ S (tz J) J zo (by rw[size_alloc];omega) ?_;intro v' w' T jI DR;obtain⟨C2,pc',I7⟩:=ij T;subst I7;simp (disch:=first|assumption|omega|simp only[zS]<;>omega|decide) only[zB,simprocAttr,lp,o];exact⟨told-(j+1),zo,j+1,_,us++[ak N Q],d++[t],zg,zg,zo,J,af0 yF S jI,T,zg,L.snoc q4,a⟩)
 .have fD:j=told:=zo;subst fD;rw[List.drop_of_length_le zs] at p;have p:m.iI (a09 j) = .ok d:=by grind [Vm.iI,P.C4]
  refine dB o B ?_;exact I _ _ g (by rw[p];exact⟨_,us,J,T7 C uL.symm,L.bJ (rn.ed g)⟩)
end
def P.aqH(s:Vm)(f:Nat):∀ (ks:List Nat),Vm.iI { s with sr:={ s.sr with fuel:=f } } ks=Vm.iI s ks
 | []=>rfl
 | k::r=>by
  rw[P.af4,P.af4,P.aqH s f r];rfl
structure VmQ(preds:List Pd)(told vb cb fA pb:Nat)(D:Nat->Prop)(ρ:Nat->Nat)(w:Z)(m:Vm):Prop where
 vm:BB D ρ vb cb fA w m
 code:yq w cb pb fA told preds
def QN(preds:List Pd)(told vb cb fA pb:Nat):By (vmE preds told) where
 T:=116
 pT:=111
 fN:=205
 fT:=36
 eb:=vb
 tf:=#[pp vb]
 tc:=#[]
 Mem D ρ w m:=VmQ preds told vb cb fA pb D ρ w m
 Good c m:=gi (c*1000000) { m with sr:={ m.sr with fuel:=0 } }/\iY told m/\∃ x,m.fs[m.f]?=O x/\x.ask=A
def gr.aPh{e:AF}{m:Vm}(h:gr D ρ e av tv xs w m){C:Array Y}(a:w.heap[e.vb]?=aP C 116)(hk:Ha e.vb w w')(c:w'.heap[e.vb]?=aP (ky C 1 (f:Int)) 116) :
  gr D ρ e av tv xs w' { m with sr:={ m.sr with fuel:=f } }:=by
 have d:eM w w':=hk.toI (T:=116) (by grind [lh]) a;have i:av.ownBlock≠O e.vb:=(by grind [Yv]);exact h.rest ⟨d,fun b cs g=>hk.1 b cs _ zg zo zo g⟩ (eC.refl _ _) (by grind [afn,ar]) (h.st.apH CU hk a c) h.fl
theorem aqI(preds:List Pd)(told vb cb fA pb:Nat)(mU:∀ p∈preds,∀ c∈p.clauses,vA c)(aPi:told<=100000):Hb (QN preds told vb cb fA pb) where
 st:=by
  rintro D ρ w s ⟨⟨φ,ψ,av,tv,dk,h⟩,-⟩;exact⟨_,tv,CU,h.st⟩
 ext:=by
  rintro D ρ w w' s ⟨⟨φ,ψ,av,tv,dk,h⟩,h2⟩ hE;exact⟨⟨φ,ψ,av,tv,dk,h.ext hE⟩,(by grind [eM.ed,yq.bJ,bD.ext])⟩
 fuel:=by
  rintro D ρ w w' s C f ⟨⟨φ,ψ,av,tv,dk,h⟩,h2⟩ hc hk oc;have hI:eM w w':=hk.toI (T:=116) (by grind [lh]) hc;have hc:w.heap[vb]?=aP C 116:=hc;exact⟨⟨φ,ψ,av,tv,dk,h.aPh hc hk oc⟩,h2.bJ hI fun l hm=>hk.2 _ _ _ (fun e=>by
   have e:pb=vb:=e;rw[e,hc] at hm;cases hm) hm⟩
 apq:=fun s f=>rfl
 ae5:=fun s f=>P.aqH s f (a09 told)
 next:=by
  rintro D ρ w s c d f r ⟨h1,h2⟩ hD ⟨hg,hl,hq⟩ hc hr;have jI:gi (c*1000000+1000000) { s with sr:={ s.sr with fuel:=1000000 } }:=by
   have g1:s.sr.tr.length+0<=c*1000000:=hg.cW;have g2:s.br.length+0<=c*1000000:=hg.mR;exact⟨hg.f,hg.fr,hg.ag,hg.marks,hg.mono,by show s.sr.tr.length+1000000<=_;omega,zg,hg.pc,hg.uD,hg.vB⟩
  have hr:Cy preds d f { s with sr:={ s.sr with fuel:=1000000 } }=O r:=hr;refine(aOW h1 hD h2 mU zo jI hr).mono ?_;rintro e w' ⟨hE,hp⟩;refine⟨hE,?_⟩;cases r with
  | error t=>omega
  | ok p=>
   obtain⟨rfl,eO,hu,hm⟩:=hp;exact⟨J,eO,hm,h2.fr hE⟩
 yB:=by
  rintro s c d f k ⟨hg,hl,hq⟩ hc-hr;have jI:gi (c*1000000+1000000) { s with sr:={ s.sr with fuel:=1000000 } }:=by
   have g1:s.sr.tr.length+0<=c*1000000:=hg.cW;have g2:s.br.length+0<=c*1000000:=hg.mR;exact⟨hg.f,hg.fr,hg.ag,hg.marks,hg.mono,by show s.sr.tr.length+1000000<=_;omega,zg,hg.pc,hg.uD,hg.vB⟩
  have hr:Cy preds d f { s with sr:={ s.sr with fuel:=1000000 } }=O (.ok (A,k)):=hr;obtain⟨h1,h2,h3,h4⟩:=anc mU jI (show iY told { s with sr:={ s.sr with fuel:=1000000 } } from⟨hl.tr,hl.fr,hl.ag,⟨hl.sr.nC,hl.sr.ok⟩,hl.ask⟩) hr;refine⟨h3,fun f'=>⟨?_,⟨h2.tr,h2.fr,h2.ag,⟨h2.sr.nC,h2.sr.ok⟩,h2.ask⟩,h4 J⟩⟩;have g1:k.sr.tr.length+k.sr.fuel<=c*1000000+1000000:=h1.cW;have g2:k.br.length+k.sr.fuel<=c*1000000+1000000:=h1.mR;exact⟨h1.f,h1.fr,h1.ag,h1.marks,h1.mono,by show k.sr.tr.length+0<=(c+1)*1000000;omega,by show k.br.length+0<=(c+1)*1000000;omega,h1.pc,h1.uD,h1.vB⟩
 told:=by
  rintro D ρ w s ⟨h1,h2⟩ ⟨c,f,-,hl,x,hx,hk⟩;have hx:s.fs[s.f]?=O x:=hx;exact aPe h1 h2 (fun y hy=>by rw[hx] at hy;cases hy;exact hl.ask _ _ hx hk) aPi
 ae6:=by
  rintro s c l ⟨hg,hl,x,hx,hk⟩ h;have hF:=hg.fr _ _ hx;exact Xf (Pu hx hF.tm h).1
 ae7:=fun w=>by
  show(method (Tryz.prog.types.size+Made.depth) 111 (pp vb) "Next").run baF w = .ok (205,pp vb) w
  kernel_rfl
 cN:=by show zE baF 205=A;kernel_rfl
 cT:=by show zE baF 36=A;kernel_rfl
def qJ(w:Z)(wb:Nat)(out:Bs):Prop:=
 ∃ a buf,(a = au V\/a=pp wb)/\w.heap[wb]?=aP #[a,buf] 100/\w.ownsRow (wb+1) 5 1 buf out.length (uF out)
def aPj:liesAt baF Tryz.prog.depth 100 (2 / Tryz.prog.cellsOf 100) 0 100 1=true:=zk
def aPk(h:w.heap[b]?=aP #[pp b,buf] 100) :
  Calls baF 82 #[pp b] w fun e w'=>e = ai (aq #[])/\w'=w:=by
 obtain⟨j,hj,_⟩:=a02.1 XC;have h0:w.cell? ⟨b,0,V⟩=O (pp b):=by grind [World.cell?]
 go_enter func82,ntmps82
 go_wp2
 rw[Lib.run_neq_ptr_same w _ underlying97 hj]
 go_wp2
 go_end0
 grind
def aPl(h:w.heap[b]?=aP #[au V,buf] 100) :
  Calls baF 82 #[pp b] w fun e w'=>e = ai (aq #[])/\w'=w.setCell ⟨b,0,V⟩ (pp b):=by
 obtain⟨j,hj,PM⟩:=a02.1 XC;have h0:w.cell? ⟨b,0,V⟩=O (au V):=by grind [World.cell?]
 have Ib:w.frozen? ⟨b,0,V⟩=false:=jO h 0;have sX:w.shape? b=O (100,2):=by grind [World.shape?]
 go_enter func82,ntmps82
 go_wp2
 rw[Lib.run_to_unsafe w ⟨b,0,V⟩ underlying97 underlying155 hj zo sX (Nat.zero_lt_succ 1)];simp only[a1r];rw[a2X]
 go_wp2
 rw[run_callFunc_extern func110 zk zk zk (e:=Extern.AbiNoEscape.same) zk];rw[Lib.run_noEscape];simp only[a1r];rw[a2X]
 go_wp2
 rw[Lib.run_from_unsafe w ⟨b,0,V⟩ underlying155 underlying97 hj sX aPj];simp only[a1r];rw[a2X]
 go_wp2
 go_end0
 grind
def aqJ{wb:Nat}(h:qJ w wb out) :
  Calls baF 82 #[pp wb] w fun e w'=>e = ai (aq #[])/\jM wb w w'/\w'.heap.size=w.heap.size/\∃ buf,
   w'.heap[wb]?=aP #[pp wb,buf] 100/\w'.ownsRow (wb+1) 5 1 buf out.length (uF out):=by
 obtain⟨d,buf,b,a,c⟩:=h;rcases b with rfl | rfl
 .refine(aPl a).mono ?_;rintro e w' ⟨rfl,rfl⟩;rw[uZ a];refine⟨J,(bD.refl _ _).bT (.inl fun _=>.inl J),yH,buf,yH,(by grind [JQ])⟩
 .refine(aPk a).mono ?_;rintro e w' ⟨rfl,rfl⟩;exact⟨J,bD.refl _ _,J,buf,a,c⟩
def aqK{wb:Nat}(h:qJ w wb out)(s:Bs)(f:out.length+s.length<=1000000000) :
  Calls baF 44 #[pp wb,aW s] w fun e w'=>(∃ v,e = ai v)/\qJ w' wb (out++s)/\jM wb w w':=by
 refine anS ?_;refine(aqJ h).mono ?_;rintro e w1 ⟨rfl,g,s1,buf,b,a⟩;have i:=bn b;refine cM b ?_;refine ajj (e:=5) zk a s f zo ?_;intro v' w2 o2 c hv;have d:w2.heap[wb]?=aP #[pp wb,buf] 100:=by
  rw[c.block wb i (fun e=>by have:=(a.lt wb e.symm).1;omega)];omega
 have j:=bn d;obtain⟨l,rc,rfl⟩:=ij o2;refine cM d ?_;have k:jM wb w1 w2:=jM.XD a c;refine⟨⟨_,J⟩,⟨_,_,.inr J,qo J j,JQ ?_ zo⟩,(g.trans k).bT (.inl fun _=>.inl J)⟩;grind
def aPm{wb:Nat}(h:qJ w wb out)(c:UInt8)(j:out.length+1<=1000000000) :
  GR (pp wb) (.int .u8 c.toNat) w fun e w'=>(∃ v,e = ai v)/\qJ w' wb (out++[c])/\jM wb w w':=by
 obtain⟨i,k,d⟩:=a02.1 anW;simp only[Prod.mk.injEq] at d;obtain⟨l,n,o⟩:=d;unfold GR;refine a0C (aqJ h) ?_;rintro e w1 ⟨rfl,p,s1,buf,f,a⟩;have s:=bn f;refine dB @GR.eq_1 f ?_;refine Sx.Dr (m:=1) (t:=98) (e:=5) zk k l n o J zd (a.alloc _) (blk_alloc_new _ _) J (fun u hu=>?_) j zd (by rw[size_alloc];omega) ?_
 .simp only[a0N,a0V,or_false] at hu;subst hu;rfl
 intro v' w2 o2 b hv;have s2:=b.size;rw[size_alloc] at s2;have g:w2.heap[wb]?=aP #[pp wb,buf] 100:=by
  rw[b.block wb (yH) (fun e=>by have:=(a.lt wb e.symm).1;omega)];exact yH
 have q:=bn g;obtain⟨x,rc,rfl⟩:=ij o2;refine dB @GR.eq_1 g ?_;have r:jM wb w1 w2:=((bD.refl _ _).alloc _).trans (jM.XD (a.alloc _) b);refine⟨⟨_,J⟩,⟨_,_,.inr J,qo J q,JQ ?_ zo⟩,(p.trans r).bT (.inl fun _=>.inl J)⟩;grind
def aPn{wb:Nat}(h:qJ w wb out)(c:UInt8)(a:out.length+1<=1000000000) :
  Calls baF 95 #[pp wb,.int .u8 c.toNat] w fun e w'=>(∃ v,e = ai v)/\qJ w' wb (out++[c])/\jM wb w w':=
 anT (aPm h c a)
def aPo{wb:Nat}(h:qJ w wb out)(h0:out≠[]) :
  Calls baF 33 #[pp wb] w fun e w'=>e = ai (aW out)/\jM wb w w':=by
 obtain⟨ad,buf,GS,hb,ho⟩:=h;have qQ:out.length≠0:=zg;obtain⟨g,cap,cur,rfl,ZV,hg,uV,Dg,jP,ZW⟩:∃ g cap cur,buf = cU g out.length cap/\wb+1<=g/\w.heap[g]?=aP cur 5/\out.length<=cap/\cap<=maxLen/\cur.size=cap*1/\cur.toList.take (out.length*1)=uF out:=by
  rcases ho.2 with⟨_,hz⟩| ⟨g,cap,cur,hv,r⟩
  .exact yH
  .exact⟨g,cap,cur,hv,r⟩
 have nK:w.drew.heap[wb]?=aP #[ad,cU g out.length cap] 100:=hb;have c1:w.drew.cell? ⟨wb,1,V⟩=O (cU g out.length cap):=by grind [World.cell?]
 have hSD:(Builtin.unsafeSliceData_ #[98] 181 #[cU g out.length cap]).run baF w.drew = .ok (pp g) w.drew:=
  (by grind [Lib.run_unsafeSliceData_row])
 have hUS:(Builtin.unsafeString_ #[181,3] 9 #[pp g,zi out.length]).run baF w.drew = .ok (aW out) (w.drew.freeze ⟨g,0,V⟩ out.length):=by
  refine Lib.run_unsafeString_row w.drew 181 3 9 5 underlying181 anZ g cur.size (by have jI:w.drew.heap[g]?=aP cur 5:=hg;grind [World.shape?]) out h0 zo (by grind [maxLen]) ?_;intro j x hx;have:=ho.cells (g:=g) J j (.int .u8 x.toNat) zg;exact this
 go_enter func33,ntmps33
 go_wp2
 go_region
 all_goals (go_wp2;go_ret;exact⟨J,(bD.drew (bD.refl _ _)).trans (an0 zo hg)⟩)
def C6{C:Array Y}(hm:C.size=m)(a:g=w.heap.size){K:Y->Z->Prop}:WR baF (convert 98 98 (cU g n c)) (w.alloc (ah C 5 (0,0))) K X=K (cU g n c) (w.alloc (ah C 5 (m,m+1))):=by
 subst a hm;unfold WR;rw[Lib.run_convert_bytes_const w 98 5 C n c zk zk]
def Jb(w:Z)(mb:Nat)(v:Y)(sh:Bs):Prop:=(sh=[]/\v = b9)\/∃ b z,sh≠[]/\v = cU b sh.length sh.length/\b≠mb/\w.heap[b]?=O (ah (uF sh).toArray 5 z)
theorem Jb.bJ{sh:Bs}(h:Jb w mb v sh)(hk:∀ b o,b≠mb->w.heap[b]?=O o->w'.heap[b]?=O o):Jb w' mb v sh:=by
 rcases h with h | ⟨b,z,a,c,d,e⟩
 .exact .inl h
 .exact .inr yH
structure qK(w:Z)(mb:Nat)(l:List (Bs×Y)):Prop where
 map:w.heap[mb]?=O (eP l)
 row:∀ p∈l,∃ sh,mT p.1=O sh/\Jb w mb p.2 sh
theorem qK.step{l:List (Bs×Y)}(h:qK w mb l){sh:Bs}(c:mT wd=O sh)(f:sh≠[]) :
  qK (bT (w.alloc (ah (uF sh).toArray 5 (sh.length,sh.length+1))) mb (eP (l++[(wd,cU w.heap.size sh.length sh.length)]))) mb (l++[(wd,cU w.heap.size sh.length sh.length)]):=by
 have lm:=bn h.map;refine⟨yH,fun p a=>?_⟩;rcases List.mem_append.1 a with a | a
 .obtain⟨b,d,e⟩:=h.row p a;exact⟨b,d,e.bJ yH⟩
 .rw[List.mem_singleton] at a;subst a;refine⟨sh,c,?_⟩;have g:(bT (w.alloc (ah (uF sh).toArray 5 (sh.length,sh.length+1))) mb (eP (l++[(wd,cU w.heap.size sh.length sh.length)]))).heap[w.heap.size]?=O (ah (uF sh).toArray 5 (sh.length,sh.length+1)):=by
   exact yH
  exact .inr yH
def qK.aqL{l:List (Bs×Y)}(h:qK w mb l)(b:mT wd=O []):qK (bT w mb (eP (l++[(wd,b9)]))) mb (l++[(wd,b9)]):=by
 refine⟨qo J (bn h.map),fun p a=>?_⟩;rcases List.mem_append.1 a with a | a
 .grind [jh,row,Jb.bJ]
 .rw[List.mem_singleton] at a;subst a;exact⟨[],b,.inl ⟨J,J⟩⟩
theorem zt{s:Bs}:∀ {l:List (Bs×Y)} {i:Nat},s ∉ l.map a1Y->fP s l i=V
 | [],_,_=>rfl
 | (u,v)::r,i,h=>by
  unfold fP;rw[bO (fun e=>h (by simp [e]))];exact zt zg
def aPq{l:List (Bs×Y)}(h:fP s l i=O (j,v)):(s,v)∈l:=List.mem_of_getElem? (Yh h).2
def aPr{sh:Bs}(h:mT wd=O sh):wd∈[P.uB,Fg,DV,Fh,IE,IF,nD,vz,rh,kY,kx,jV,Ar,Na,Nb]:=by
 simp only[a0N,a0V,or_false];rcases PE h with⟨hw,-⟩| ⟨hw,-⟩| ⟨hw,-⟩| ⟨hw,-⟩| ⟨hw,-⟩| ⟨hw,-⟩| ⟨hw,-⟩<;>(first | (rcases hw with rfl | rfl | rfl | rfl<;>simp) | (rcases hw with rfl | rfl<;>simp) | (subst hw;simp))
abbrev aqM:List Bs:=[P.uB,Fg,DV,Fh,IE,IF,nD,vz,rh,kY,kx,jV,Ar,Na,Nb]
theorem qK.find{w:Z}{mb:Nat}{l:List (Bs×Y)}(h:qK w mb l)(hk:l.map a1Y=aqM)(wd:Bs):match fP wd l 0 with
  | none=>mT wd=V
  | some (_,v)=>∃ sh,mT wd=O sh/\Jb w mb v sh:=by
 cases b:fP wd l 0 with
 | none=>
  simp only;cases c:mT wd with
  | none=>rfl
  | some sh=>
   have hm:=aPr c;rw[show [P.uB,Fg,DV,Fh,IE,IF,nD,vz,rh,kY,kx,jV,Ar,Na,Nb]=l.map a1Y from hk.symm] at hm;obtain⟨p,d,rfl⟩:=List.mem_map.1 hm;exfalso;have:∀ (l:List (Bs×Y)) (i:Nat),p∈l->fP p.1 l i≠none:=by
    intro l;induction l with
    | nil=>grind
    | cons a r ih=>
     intro i d;obtain⟨u,v⟩:=a;unfold fP;grind
   grind
 | some q=>
  obtain⟨j,v⟩:=q;exact h.row _ (aPq b)
def aqN(w:Z):Calls baF 101 #[] w fun e w'=>Ext w w'/\∃ mb l,e = ai (.map (O mb))/\w.heap.size<=mb/\qK w' mb l/\l.map a1Y=aqM:=by
 refine aOF ?_;refine bF ?_;obtain⟨w0,I⟩:=ck (w.alloc (.map #[] 0));have oM:Ext w w0:=yF;have K:qK w0 w.heap.size []:=⟨by rw[I];exact tz J,yH⟩;have s0:w0.heap.size=w.heap.size+1:=yH;obtain⟨mb,La⟩:=ck w.heap.size;rw[<- I,<- s0];rw[<- La] at K ⊢;clear I;have k1:fP [110,101,119] [] 0=none:=zt zs;have a1:=K.step (wd:=[110,101,119]) (sh:=[115]) zd zs;have IZ:(w0.alloc (ah #[.int .u8 115] 5 (1,1+1))).heap[mb]?=O (eP []):=((bD.refl (fun _ _=>False) _).alloc _).block _ _ K.map zg;rw[C6 (m:=1) J rfl];rw[yh (k:=9) (e:=98) zk zk IZ [110,101,119] k1];obtain⟨w1,e1⟩:=ck (bT (w0.alloc (ah #[.int .u8 115] 5 (1,1+1))) mb (eP ([]++[([110,101,119],cU w0.heap.size 1 1)])));obtain⟨b,f1⟩:=ck (([]:List (Bs×Y))++[([110,101,119],a0M (O ⟨w0.heap.size,0,V⟩) 1 1)]);have h1:qK w1 mb b:=zg;have dC:Ext w w1:=yF;have m1:b.map a1Y=[[110,101,119]]:=zg;rw[<- e1];clear e1 f1 a1;refine bF ?_;have k2:fP [112,117,116] b 0=none:=(by grind [zt]);have a2:=h1.step (wd:=[112,117,116]) (sh:=[115,99]) zd zs;have nP:(w1.alloc (ah #[.int .u8 115,.int .u8 99] 5 (2,2+1))).heap[mb]?=O (eP b):=((bD.refl (fun _ _=>False) _).alloc _).block _ _ h1.map zg;rw[C6 (m:=2) J rfl];rw[yh (k:=9) (e:=98) zk zk nP [112,117,116] k2];obtain⟨w2,e2⟩:=ck (bT (w1.alloc (ah #[.int .u8 115,.int .u8 99] 5 (2,2+1))) mb (eP (b++[([112,117,116],cU w1.heap.size 2 2)])));obtain⟨c,f2⟩:=ck (b++[([112,117,116],a0M (O ⟨w1.heap.size,0,V⟩) 2 2)]);have h2:qK w2 mb c:=zg;have dT:Ext w w2:=yF;have m2:c.map a1Y=[[110,101,119],[112,117,116]]:=zg;rw[<- e2];clear e2 f2 a2;refine bF ?_;have k3:fP [99,111,110,115,116] c 0=none:=(by grind [zt]);have a3:=h2.step (wd:=[99,111,110,115,116]) (sh:=[115,99]) zd zs;have Qi:(w2.alloc (ah #[.int .u8 115,.int .u8 99] 5 (2,2+1))).heap[mb]?=O (eP c):=((bD.refl (fun _ _=>False) _).alloc _).block _ _ h2.map zg;rw[C6 (m:=2) J rfl];rw[yh (k:=9) (e:=98) zk zk Qi [99,111,110,115,116] k3];obtain⟨w3,e3⟩:=ck (bT (w2.alloc (ah #[.int .u8 115,.int .u8 99] 5 (2,2+1))) mb (eP (c++[([99,111,110,115,116],cU w2.heap.size 2 2)])));obtain⟨d,f3⟩:=ck (c++[([99,111,110,115,116],a0M (O ⟨w2.heap.size,0,V⟩) 2 2)]);have h3:qK w3 mb d:=zg;have eK:Ext w w3:=yF;have m3:d.map a1Y=[[110,101,119],[112,117,116],[99,111,110,115,116]]:=zg;rw[<- e3];clear e3 f3 a3;refine bF ?_;have k4:fP [115,97,109,101] d 0=none:=(by grind [zt]);have a4:=h3.step (wd:=[115,97,109,101]) (sh:=[115,115]) zd zs;have L:(w3.alloc (ah #[.int .u8 115,.int .u8 115] 5 (2,2+1))).heap[mb]?=O (eP d):=((bD.refl (fun _ _=>False) _).alloc _).block _ _ h3.map zg;rw[C6 (m:=2) J rfl];rw[yh (k:=9) (e:=98) zk zk L [115,97,109,101] k4];obtain⟨f,e4⟩:=ck (bT (w3.alloc (ah #[.int .u8 115,.int .u8 115] 5 (2,2+1))) mb (eP (d++[([115,97,109,101],cU w3.heap.size 2 2)])));obtain⟨g,f4⟩:=ck (d++[([115,97,109,101],a0M (O ⟨w3.heap.size,0,V⟩) 2 2)]);have h4:qK f mb g:=zg;have gn:Ext w f:=yF;have m4:g.map a1Y=[[110,101,119],[112,117,116],[99,111,110,115,116],[115,97,109,101]]:=zg;rw[<- e4];clear e4 f4 a4;refine bF ?_;have k5:fP [109,97,107,101] g 0=none:=(by grind [zt]);have a5:=h4.step (wd:=[109,97,107,101]) (sh:=[115,110,42]) zd zs;have I1:(f.alloc (ah #[.int .u8 115,.int .u8 110,.int .u8 42] 5 (3,3+1))).heap[mb]?=O (eP g):=((bD.refl (fun _ _=>False) _).alloc _).block _ _ h4.map zg;rw[C6 (m:=3) J rfl];rw[yh (k:=9) (e:=98) zk zk I1 [109,97,107,101] k5];obtain⟨h,e5⟩:=ck (bT (f.alloc (ah #[.int .u8 115,.int .u8 110,.int .u8 42] 5 (3,3+1))) mb (eP (g++[([109,97,107,101],cU f.heap.size 3 3)])));obtain⟨i,f5⟩:=ck (g++[([109,97,107,101],a0M (O ⟨f.heap.size,0,V⟩) 3 3)]);have h5:qK h mb i:=zg;have rq:Ext w h:=yF;have m5:i.map a1Y=[[110,101,119],[112,117,116],[99,111,110,115,116],[115,97,109,101],[109,97,107,101]]:=zg;rw[<- e5];clear e5 f5 a5;refine bF ?_;have k6:fP [115,112,108,105,116] i 0=none:=zt zg;have a6:=h5.step (wd:=[115,112,108,105,116]) (sh:=[115,110,42]) zd zs;have QM:(h.alloc (ah #[.int .u8 115,.int .u8 110,.int .u8 42] 5 (3,3+1))).heap[mb]?=O (eP i):=((bD.refl (fun _ _=>False) _).alloc _).block _ _ h5.map zg;rw[C6 (m:=3) J rfl];rw[yh (k:=9) (e:=98) zk zk QM [115,112,108,105,116] k6];obtain⟨j,e6⟩:=ck (bT (h.alloc (ah #[.int .u8 115,.int .u8 110,.int .u8 42] 5 (3,3+1))) mb (eP (i++[([115,112,108,105,116],cU h.heap.size 3 3)])));obtain⟨n,f6⟩:=ck (i++[([115,112,108,105,116],a0M (O ⟨h.heap.size,0,V⟩) 3 3)]);have h6:qK j mb n:=zg;have j4:Ext w j:=yF;have m6:n.map a1Y=[[110,101,119],[112,117,116],[99,111,110,115,116],[115,97,109,101],[109,97,107,101],[115,112,108,105,116]]:=by rw[f6,a1z,m5];rfl
 rw[<- e6];clear e6 f6 a6;refine bF ?_;have k7:fP [116,101,115,116] n 0=none:=zt zg;have a7:=h6.step (wd:=[116,101,115,116]) (sh:=[110,42]) zd zs;have M:(j.alloc (ah #[.int .u8 110,.int .u8 42] 5 (2,2+1))).heap[mb]?=O (eP n):=((bD.refl (fun _ _=>False) _).alloc _).block _ _ h6.map zg;rw[C6 (m:=2) J rfl];rw[yh (k:=9) (e:=98) zk zk M [116,101,115,116] k7];obtain⟨o,e7⟩:=ck (bT (j.alloc (ah #[.int .u8 110,.int .u8 42] 5 (2,2+1))) mb (eP (n++[([116,101,115,116],cU j.heap.size 2 2)])));obtain⟨p,f7⟩:=ck (n++[([116,101,115,116],a0M (O ⟨j.heap.size,0,V⟩) 2 2)]);have h7:qK o mb p:=zg;have Gx:Ext w o:=yF;have m7:p.map a1Y=[[110,101,119],[112,117,116],[99,111,110,115,116],[115,97,109,101],[109,97,107,101],[115,112,108,105,116],[116,101,115,116]]:=by rw[f7,a1z,m6];rfl
 rw[<- e7];clear e7 f7 a7;refine bF ?_;have k8:fP [109,97,114,107] p 0=none:=zt zg;have a8:=h7.step (wd:=[109,97,114,107]) (sh:=[115]) zd zs;have N:(o.alloc (ah #[.int .u8 115] 5 (1,1+1))).heap[mb]?=O (eP p):=((bD.refl (fun _ _=>False) _).alloc _).block _ _ h7.map zg;rw[C6 (m:=1) J rfl];rw[yh (k:=9) (e:=98) zk zk N [109,97,114,107] k8];obtain⟨q,e8⟩:=ck (bT (o.alloc (ah #[.int .u8 115] 5 (1,1+1))) mb (eP (p++[([109,97,114,107],cU o.heap.size 1 1)])));obtain⟨r,f8⟩:=ck (p++[([109,97,114,107],a0M (O ⟨o.heap.size,0,V⟩) 1 1)]);have h8:qK q mb r:=zg;have ti:Ext w q:=yF;have m8:r.map a1Y=[[110,101,119],[112,117,116],[99,111,110,115,116],[115,97,109,101],[109,97,107,101],[115,112,108,105,116],[116,101,115,116],[109,97,114,107]]:=by rw[f8,a1z,m7];rfl
 rw[<- e8];clear e8 f8 a8;refine bF ?_;have k9:fP [108,101,118,101,108] r 0=none:=zt (by rw[m8];decide);have a9:=h8.step (wd:=[108,101,118,101,108]) (sh:=[115]) zd zs;have P:(q.alloc (ah #[.int .u8 115] 5 (1,1+1))).heap[mb]?=O (eP r):=((bD.refl (fun _ _=>False) _).alloc _).block _ _ h8.map zg;rw[C6 (m:=1) J rfl];rw[yh (k:=9) (e:=98) zk zk P [108,101,118,101,108] k9];obtain⟨s,e9⟩:=ck (bT (q.alloc (ah #[.int .u8 115] 5 (1,1+1))) mb (eP (r++[([108,101,118,101,108],cU q.heap.size 1 1)])));obtain⟨t,f9⟩:=ck (r++[([108,101,118,101,108],a0M (O ⟨q.heap.size,0,V⟩) 1 1)]);have h9:qK s mb t:=zg;have ml:Ext w s:=yF;have m9:t.map a1Y=[[110,101,119],[112,117,116],[99,111,110,115,116],[115,97,109,101],[109,97,107,101],[115,112,108,105,116],[116,101,115,116],[109,97,114,107],[108,101,118,101,108]]:=by rw[f9,a1z,m8];rfl
 rw[<- e9];clear e9 f9 a9;refine bF ?_;have N9:fP [99,117,116] t 0=none:=zt (by rw[m9];decide);have Q:=h9.step (wd:=[99,117,116]) (sh:=[115]) zd zs;have Oa:(s.alloc (ah #[.int .u8 115] 5 (1,1+1))).heap[mb]?=O (eP t):=((bD.refl (fun _ _=>False) _).alloc _).block _ _ h9.map zg;rw[C6 (m:=1) J rfl];rw[yh (k:=9) (e:=98) zk zk Oa [99,117,116] N9];obtain⟨u,C⟩:=ck (bT (s.alloc (ah #[.int .u8 115] 5 (1,1+1))) mb (eP (t++[([99,117,116],cU s.heap.size 1 1)])));obtain⟨l10,f10⟩:=ck (t++[([99,117,116],a0M (O ⟨s.heap.size,0,V⟩) 1 1)]);have tN:qK u mb l10:=zg;have C7:Ext w u:=yF;have m10:l10.map a1Y=[[110,101,119],[112,117,116],[99,111,110,115,116],[115,97,109,101],[109,97,107,101],[115,112,108,105,116],[116,101,115,116],[109,97,114,107],[108,101,118,101,108],[99,117,116]]:=by rw[f10,a1z,m9];rfl
 rw[<- C];clear C f10 Q;refine bF ?_;have R:fP [116,114,121] l10 0=none:=zt (by rw[m10];decide);have S:=tN.step (wd:=[116,114,121]) (sh:=[112]) zd zs;have T:(u.alloc (ah #[.int .u8 112] 5 (1,1+1))).heap[mb]?=O (eP l10):=((bD.refl (fun _ _=>False) _).alloc _).block _ _ tN.map zg;rw[C6 (m:=1) J rfl];rw[yh (k:=9) (e:=98) zk zk T [116,114,121] R];obtain⟨x,D⟩:=ck (bT (u.alloc (ah #[.int .u8 112] 5 (1,1+1))) mb (eP (l10++[([116,114,121],cU u.heap.size 1 1)])));obtain⟨y,f11⟩:=ck (l10++[([116,114,121],a0M (O ⟨u.heap.size,0,V⟩) 1 1)]);have GD:qK x mb y:=zg;have vQ:Ext w x:=yF;have m11:y.map a1Y=[[110,101,119],[112,117,116],[99,111,110,115,116],[115,97,109,101],[109,97,107,101],[115,112,108,105,116],[116,101,115,116],[109,97,114,107],[108,101,118,101,108],[99,117,116],[116,114,121]]:=by rw[f11,a1z,m10];rfl
 rw[<- D];clear D f11 S;refine bF ?_;have U:fP [106,117,109,112] y 0=none:=zt (by rw[m11];decide);have a12:=GD.step (wd:=[106,117,109,112]) (sh:=[112]) zd zs;have YQ:(x.alloc (ah #[.int .u8 112] 5 (1,1+1))).heap[mb]?=O (eP y):=((bD.refl (fun _ _=>False) _).alloc _).block _ _ GD.map zg;rw[C6 (m:=1) J rfl];rw[yh (k:=9) (e:=98) zk zk YQ [106,117,109,112] U];obtain⟨z,QR⟩:=ck (bT (x.alloc (ah #[.int .u8 112] 5 (1,1+1))) mb (eP (y++[([106,117,109,112],cU x.heap.size 1 1)])));obtain⟨B,f12⟩:=ck (y++[([106,117,109,112],a0M (O ⟨x.heap.size,0,V⟩) 1 1)]);have Ci:qK z mb B:=zg;have rL:Ext w z:=yF;have m12:B.map a1Y=[[110,101,119],[112,117,116],[99,111,110,115,116],[115,97,109,101],[109,97,107,101],[115,112,108,105,116],[116,101,115,116],[109,97,114,107],[108,101,118,101,108],[99,117,116],[116,114,121],[106,117,109,112]]:=by rw[f12,a1z,m11];rfl
 rw[<- QR];clear QR f12 a12;refine bF ?_;have W:fP [99,97,108,108] B 0=none:=zt (by rw[m12];decide);have X:=Ci.step (wd:=[99,97,108,108]) (sh:=[110,42]) zd zs;have QT:(z.alloc (ah #[.int .u8 110,.int .u8 42] 5 (2,2+1))).heap[mb]?=O (eP B):=((bD.refl (fun _ _=>False) _).alloc _).block _ _ Ci.map zg;rw[C6 (m:=2) J rfl];rw[yh (k:=9) (e:=98) zk zk QT [99,97,108,108] W];obtain⟨mH,QU⟩:=ck (bT (z.alloc (ah #[.int .u8 110,.int .u8 42] 5 (2,2+1))) mb (eP (B++[([99,97,108,108],cU z.heap.size 2 2)])));obtain⟨E,f13⟩:=ck (B++[([99,97,108,108],a0M (O ⟨z.heap.size,0,V⟩) 2 2)]);have Ja:qK mH mb E:=zg;have rN:Ext w mH:=yF;have m13:E.map a1Y=[[110,101,119],[112,117,116],[99,111,110,115,116],[115,97,109,101],[109,97,107,101],[115,112,108,105,116],[116,101,115,116],[109,97,114,107],[108,101,118,101,108],[99,117,116],[116,114,121],[106,117,109,112],[99,97,108,108]]:=by rw[f13,a1z,m12];rfl
 rw[<- QU];clear QU f13 X;have k14:fP [114,101,116] E 0=none:=zt (by rw[m13];decide);have a14:=Ja.aqL (wd:=[114,101,116]) zd;rw[yh (k:=9) (e:=98) zk zk Ja.map [114,101,116] k14];obtain⟨Jc,F⟩:=ck (bT mH mb (eP (E++[([114,101,116],b9)])));obtain⟨G,f14⟩:=ck (E++[([114,101,116],a0M V 0 0)]);have C3:qK Jc mb G:=zg;have GZ:Ext w Jc:=yF;have m14:G.map a1Y=[[110,101,119],[112,117,116],[99,111,110,115,116],[115,97,109,101],[109,97,107,101],[115,112,108,105,116],[116,101,115,116],[109,97,114,107],[108,101,118,101,108],[99,117,116],[116,114,121],[106,117,109,112],[99,97,108,108],[114,101,116]]:=by rw[f14,a1z,m13];rfl
 rw[<- F];clear F f14 a14;have k15:fP [100,111,110,101] G 0=none:=zt (by rw[m14];decide);have a15:=C3.aqL (wd:=[100,111,110,101]) zd;rw[yh (k:=9) (e:=98) zk zk C3.map [100,111,110,101] k15];obtain⟨Uz,H⟩:=ck (bT Jc mb (eP (G++[([100,111,110,101],b9)])));obtain⟨a,f15⟩:=ck (G++[([100,111,110,101],a0M V 0 0)]);have UA:qK Uz mb a:=zg;have NG:Ext w Uz:=yF;have m15:a.map a1Y=[[110,101,119],[112,117,116],[99,111,110,115,116],[115,97,109,101],[109,97,107,101],[115,112,108,105,116],[116,101,115,116],[109,97,114,107],[108,101,118,101,108],[99,117,116],[116,114,121],[106,117,109,112],[99,97,108,108],[114,101,116],[100,111,110,101]]:=by rw[f15,a1z,m14];rfl
 rw[<- H];clear H f15 a15;exact⟨NG,mb,a,J,zo,UA,m15⟩
open Go.Proofs.YtoegidfbnkaabaaGreatDoor.Sx
section
variable{p0 p1 p2 p3 p4 p5 p6 p7:Y}{w:Z}{R:Ending->Z->Prop}
def aPF:=cz w R [p0,p1,p2,p3,p4] (gc [] [] []) func105
def aPG:=cz w R [p0] (gc [] [(3001,[])] [17]) func104
def aPH:=cz w R [p0] (gc [] [] [7]) func137
def aqT:=cz w R [p0,p1,p2] (gd [(9,[6,65]),(14,[85])] [] [(3,11),(4,10)] [(5,[14,0,1,2,3,4,5,6,7,8,9,10,11,12,13])] [] [] [19,20,31,56,57,66,86]) func106
def aPI:=cz w R [p0,p1] (gd [(9,[6,44])] [] [(2,11)] [] [] [] [13,28,45]) func139
def aPJ:=cz w R [p0,p1] (gc [] [] []) func138
def aPK:=cz w R [p0,p1] (gd [] [] [(0,16)] [] [] [] []) func160
end
