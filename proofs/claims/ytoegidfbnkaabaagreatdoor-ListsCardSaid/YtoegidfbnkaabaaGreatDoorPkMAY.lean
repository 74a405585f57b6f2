/- A part of one proof (KV15, KV16, KV17, BO1, VT1, ShX3). -/
import Derived.Test.YtoegidfbnkaabaaGreatDoorPkMAX
import Derived.Lib.SlBytesConst
set_option linter.all false
set_option maxRecDepth 100000
set_option maxHeartbeats 8000000
open Option renaming some → O, none → V
open Go renaming Value → Y, World → Z
open Bool renaming true → G, false → ae
open Go.Obj renaming cells → ah
open Go.Ending renaming returned → ai
open Go.Value renaming nilIface → aj, iface → ak, tuple → aq, pointer → au
open Go.Calls renaming mono → a3L
open List renaming getElem?_eq_getElem → a3P, mem_cons → a3T, not_mem_nil → a30, range → a4g, getElem?_eq_some_iff → a4l, replicate → a4r, map_append → a4H
open Option.some renaming inj → a3R
open Go.Value renaming slice → a3Y
open Option renaming map_eq_some_iff → a4c
open Go.World renaming ownsRow_nil → a4d
open Go.Result renaming andThen → a4D
open Prod renaming fst → a5g
open Nat renaming not_lt_zero → a5A
open Go.Oper renaming upon_value → a6f
open Go.Proofs.Tryz renaming prog → bdT
open Go.Proofs.Tryz
namespace Go.Proofs.YtoegidfbnkaabaaGreatDoor
open P
open Go.RowKit Sx
variable{B fw b c cb d f g i j m mb n o pb pc told wb:Nat}{D:Nat->Prop}{K:Y->Prop}{X:Y->Z->Prop}{av buf tv v:Y}{out s wd:Bs}{dJ:List Pd}{r:Except jP (Bool×Vm)}{iF:Array Y}{w w':Z}{xs:List Y}{y:Operand}{ρ:Nat->Nat}
def aQp{P:Program}{x:Operand}{t:TypeId}(h:Ax P t=G){a:Nat}{cb:Array Y}{c tb:TypeId}(d:w.heap[a]?=aO iF c)(e:w.heap[b]?=aO cb tb) :
 RD P (bo .neq t x y (pp a) (pp b)) w K X=K (.bool (!decide (a=b))):=gR (by simp [bo,eqGuard,binOp,Sem.run_bind,acP h d e])
section
variable{D:Nat->Prop}{ρ:Nat->Nat}{e:Bb}{av tv:Y}{dk:List Y}{w w':Z}{m:Vm}
def aQq(h:gm D ρ e av tv dk w m)(hD:∀ b,w.heap.size<=b->D b)(hC:yE w e.cb pb fw told dJ)(f:∀ p∈dJ,∀ c∈p.clauses,zE c){x:Fm}{i:P.In}(hi:Bf w g o i)(a:Mr m x i)(j:i.word≠Og)
 (hr:vO dJ d i m=O r) :
  Calls bdT 207 #[pp e.vb,pq g o] w (EPost D w (sx D ρ m.n e.vb e.cb e.fw) r):=by
 have hk:=a.ok.kn;simp only[a3T,a30,or_false] at hk;rcases hk with hk | hk | hk | hk | hk | hk | hk | hk | hk | hk | hk | hk | hk | hk | hk
 .exact ZY h hD hi a (.inl hk) hr
 .exact ZY h hD hi a zg hr
 .exact ahA h hD hi a (.inl hk) hr
 .exact ahA h hD hi a zg hr
 .exact aQm h hD hi a hk hr
 .exact ahA h hD hi a zg hr
 .exact aQl h hD hi a hk hr
 .exact ZY h hD hi a zg hr
 .exact ZY h hD hi a zg hr
 .exact ahH h hD hi a zg hr
 .exact ahH h hD hi a (.inl hk) hr
 .exact ahH h hD hi a zg hr
 .exact arY h hD hi a (.inl hk) hC f hr
 .exact arY h hD hi a (.inr hk) hC f hr
 .exact absurd hk j
end
section
variable{D:Nat->Prop}{ρ:Nat->Nat}{vb cb fw:Nat}{w w':Z}{m:Vm}
def P.aQr{m m':Vm}{l:List Co}{args:List Sl}(h:m.enter l args f pc n=O m'):m'.n=m.n:=by
 cases l with
 | nil=>cases h
 | cons c l=>have:=(a3R h).symm;grind
def P.arZ{m:Vm}{p:Bool×Vm}(h:m.back=O p):p.2.n=m.n:=by
 unfold Vm.back at h;split at h
 .grind
 .split at h
  .grind
  .split at h
   .grind
   .rename_i m' he;have:=(a3R h).symm;subst this;exact(P.aQr he).trans J
def aQs(h:B7 D ρ vb cb fw w m)(hD:∀ b,w.heap.size<=b->D b)(hC:yE w cb pb fw told dJ)(tK:∀ p∈dJ,∀ c∈p.clauses,zE c)(ON:B<=800000000)
  (l:gH B m) (hr:Od dJ d f m=O r) :
  Calls bdT 205 #[pp vb] w (EPost D w (sx D ρ m.n vb cb fw) r):=by
 suffices H:∀ R:Ending->Z->Prop,(∀ C w',EPost D w (sx D ρ m.n vb cb fw) r C w'->R C w')->Calls bdT 205 #[pp vb] w R from H _ fun _ _ h=>h;intro R E;refine aOH ?_;obtain⟨φ,ψ,av,tv,dk,hx⟩:=h;have xr:∀ {m:Vm},gH B m->∀ a∈m.bz,a.mark<=m.sr.tr.length/\(∀ c∈a.others,c.slots<=64)/\a.args.length<=60:=fun l a ha=>by
  obtain⟨i,hi,rfl⟩:=List.getElem_of_mem ha;have Rt:=a3P hi;have:=l.ag i _ Rt;exact⟨l.marks i _ Rt,(by grind [zE.sl,Yv.others]),this.qQ⟩
 have hlen:∀ {m:Vm},gH B m->m.sr.tr.length<=800000000/\m.bz.length+m.sr.fuel<=800000000/\m.sr.tr.length+m.sr.fuel<=800000000:=fun l=>by
  have o:_+_<=B:=l.cV;have h2:=l.nQ;omega
 have a0C:∀ (X:Nat->Nat) (m0:Vm) (w0:Z),eu ρ m.n X m0.n->B7 D X vb cb fw w0 m0->dc D w w0->gH B m0->zC dJ d f m0=O r->True:=yF;refine⟨fun _ w1=>∃ (y:Nat->Nat) (m1:Vm),eu ρ m.n y m1.n/\B7 D y vb cb fw w1 m1/\dc D w w1/\gH B m1/\zC dJ d f m1=O r,?_,?_⟩
 .have c0:=hx.cell;have l0:=bn c0;have aQt:=l.pc;unfold Od at hr;refine⟨fun s w1=>∃ (b:Bool) (y:Nat->Nat) (m1:Vm),s 13 = .bool (!b)/\eu ρ m.n y m1.n/\B7 D y vb cb fw w1 m1/\dc D w w1/\gH B m1/\(if b then zC dJ d f m1=O r else r = .ok (ae,m1)),?_,?_⟩
  .by_cases F:0<m.pc
   .rw[zip F] at hr;have zJ:(m.pc:Int) > 0:=zo;refine dA @c0 zJ ?_;cases t:m.back with
    | none=>rw[t] at hr;cases hr
    | some q=>
    rw[t] at hr;refine a3L (art hx hD (xr l) zg zg t) ?_;rintro C w1 ⟨S,rfl,o⟩;obtain⟨b,m1⟩:=q;have hn:=P.arZ t;simp only at hn;have hu:eu ρ m.n ρ m1.n:=⟨zo,zg⟩;cases b with
    | false=>
     refine bG ?_;exact⟨ae,ρ,m1,J,hu,o,S,l.back t,zg⟩
    | true=>
     refine bG ?_;exact⟨G,ρ,m1,J,hu,o,S,l.back t,zg⟩
   .rw[bU F] at hr;have zJ:¬ (m.pc:Int) > 0:=zo;refine dA @c0 zJ ?_;exact⟨G,ρ,m,J,eu.refl _ _,⟨_,_,_,_,_,hx⟩,yF,l,zg⟩
  .rintro s w1 ⟨b,y,m1,JX,vh,o,S,ti,I⟩ d1;clear d1;cases b with
   | false=>
    refine cJ JX ?_;have I:r = .ok (ae,m1):=zg;subst I;exact E _ _ ⟨S,J,y,vh,o⟩
   | true=>
    refine cJ JX ?_;exact yF
 .rintro s w1 ⟨y,m1,vh,o,S,ti,qH⟩ d1;clear d1 hx hr l;refine⟨fun n z w2=>∃ (vZ:Nat->Nat) (m2:Vm),eu ρ m.n vZ m2.n/\B7 D vZ vb cb fw w2 m2/\dc D w w2/\gH B m2/\zC dJ d n m2=O r,yF,?_⟩;intro n z dd w2 hI;clear dd;refine toPr ?_;obtain⟨vZ,m2,Ge,⟨A,ψ2,T,U,Rl,rS⟩,dX,j,e⟩:=hI;clear vh o S ti qH;cases n with
  | zero=>simp [zC] at e
  | succ n=>
  have s2:=dX.size;have hD2:∀ b,w2.heap.size<=b->D b:=yH;obtain⟨BL,qM,gF⟩:=hlen j;refine bG ?_;refine a3L (Ot rS.less Dy zo) ?_;rintro C w3 ⟨eI,W⟩;rw[zC] at e;by_cases h0:m2.sr.fuel=0
  .rw[zip h0] at e W;have e:=(a3R e).symm;subst e W;exact E _ _ ⟨dX.trans (eI.up fun _ h=>h.1),J⟩
  rw[bU h0] at e W;obtain⟨rfl,W⟩:=W;obtain⟨CU,eI⟩:=rS.store W eI;have H5:dc D w w3:=yF;have s3:=eI.size;obtain⟨x,xU,hfm⟩:=CU.cur;have xU:m2.fs[m2.f]?=O x:=xU;rw[xU] at e;simp only at e;obtain⟨⟨DA,K,vR,QQ⟩,aQv,-⟩:=hfm;have K:w3.heap[A m2.f]?=aO #[pp DA,cS (ψ2 m2.f) x.slots.length x.slots.length,zi (x.entry:Nat),B6 A x.back,zi (x.pc:Nat)] 203:=K;have Z0:=j.fr _ _ xU;have aQt:=j.pc;obtain⟨insv,gX,xH⟩:=id vR;obtain⟨ga,gc,Ab⟩:∃ a c,insv = .slice a x.code.ins.length c:=by
   grind
  have c3:w3.heap[vb]?=aO #[pp cb,U,zi (m2.sr.dec.fuel:Nat),pp (A m2.f),zi (m2.pc:Nat),T] 116:=CU.cell;have l3:=bn c3;have lf3:=bn K;have Zi:=bn gX;subst Ab;have af7:Ext w3 w3.drew:=yF;refine bG ?_;refine⟨fun _ w'=>w'=w3.drew/\m2.pc<x.code.ins.length,?_,?_⟩
  .by_cases F:m2.pc<x.code.ins.length
   .have Mt:¬ (m2.pc:Int) ≥ (x.code.ins.length:Int):=zo;refine dG @c3 K gX Mt ?_;omega
   .have Mt:(m2.pc:Int) ≥ (x.code.ins.length:Int):=zo;rw[List.getElem?_eq_none zo] at e;cases e;refine dG @c3 K gX Mt ?_;exact E _ _ ⟨yF,J⟩
  rintro z2 w4 ⟨rfl,F⟩ d4;clear d4;have aQw:Ext w3 w3.drew.drew:=af7.drew;rw[a3P F] at e;obtain⟨i,Gs⟩:=cj (x.code.ins[m2.pc]);rw[<- Gs] at e;have hiq:x.code.ins[m2.pc]?=O i:=zg;rcases xH with⟨o,-⟩| ⟨g,cap,cur,o,gU,BB,jr,aQy⟩
  .rw[o] at F;simp at F
  simp only[Value.slice.injEq,true_and] at o;obtain⟨rfl,rfl⟩:=o;have Jw:=aQy _ _ hiq;have zJ:(m2.pc:Int)<(x.code.ins.length:Int):=zo;have ept:(m2.pc:Int).toNat=m2.pc:=zo;simp only at e;obtain⟨m3,Rv⟩:∃ m3:Vm,m3={ m2 with sr:=m2.sr.dec,pc:=m2.pc+1 }:=⟨_,J⟩;obtain⟨k,oO⟩:=cj (bR w3.drew.drew vb (ah #[pp cb,U,zi (m2.sr.dec.fuel:Nat),pp (A m2.f),zi ((m2.pc+1:Nat):Int),T] 116));obtain⟨tl,uo⟩:=(CU.ext aQw).own (w':=k) (f':=m2.f) (pc':=m2.pc+1) (yF) (yH) j.f;have tl:gm D vZ ⟨A,ψ2,vb,cb,fw⟩ T U Rl k m3:=zg;have B2:dc D w3 k:=yF;have Iu:dc D w k:=yF;have Z1:=dc.toI B2;have s5:=B2.size;have c5:=tl.cell;have VR:=Z1 _ _ _ (yM) K;have L:=Z1 _ _ _ (yM) BB;have lf5:=bn VR;have lg5:=bn L;have M:=(hC.fr Iu).cell;have a0H:=bn M;have aQz:Bf k g (m2.pc*4) i:=⟨cur,L,zo,Jw.bL Z1⟩;have NY:=Jw.word;have N:uS x.code.slots i:=by rw[Gs];exact Z0.code.ins _ (List.getElem_mem _)
  have a0I:=Z0.code.len;have hB1:1<=B:=by have:=j.nQ;omega
  have zh:gH (B-1) m3:=by
   have hf:m2.sr.dec.fuel=m2.sr.fuel-1:=rfl;have hp:m2.sr.tr.length+m2.sr.fuel<=B:=j.cV;have zx:=j.nQ;rw[Rv];exact⟨j.f,j.fr,j.ag,j.marks,j.mono,by show m2.sr.tr.length+(m2.sr.fuel-1)<=B-1;omega,zg,zg,j.xw,j.ym⟩
  have a0J:gH B m3:=(by grind [gH.up]);have ar3:m3.fs[m3.f]?=O x:=zg;have a0K:m3.n=m2.n:=zg;rw[<- Rv] at e;refine dG @c3 K gX @ept ?_;have e1:bR w3.drew.drew vb (ah #[pp cb,U,zi (m2.sr.dec.fuel:Nat),pp (A m2.f),zi ((m2.pc:Int)+1),T] 116)=k:=oO.symm;have e2:bR w3.drew.drew vb (ah (pF #[pp cb,U,zi (m2.sr.dec.fuel:Nat),pp (A m2.f),zi (m2.pc:Nat),T] 4 (Value.int .i64 ((m2.pc:Int)+1)).cells.toList) 116 (0,0))=k:=oO.symm;try rw[e1]
  try rw[e2]
  clear e1 e2 oO;refine dA L NY ?_;by_cases Ja:i.word=[100,111,110,101]
  .rw[zip Ja] at e;have aQA:Ext k k.drew:=yF;have Q:k.heap[vb]?=aO #[pp cb,U,zi (m3.sr.fuel:Nat),pp (A m2.f),zi (m3.pc:Nat),T] 116:=by
    exact yH
   have l5:=bn Q;refine cJ Ja ?_;refine⟨fun z w'=>w'=k.drew/\z 86 = .bool (!x.ask),?_,?_⟩
   .cases VT:x.ask with
    | true=>
     have I:=aQv.1 VT;have ar4:=QQ VT;simp only at ar4;subst ar4;rw[I] at VR;simp (disch:=first|assumption|omega|simp only[zS]<;>omega|decide) only[zB,simprocAttr,kN,Q,VR,M,B6];have ar5:k.drew.heap[DA]?=_:=Z1 _ _ _ (yM) gX;rw[aQp zk ar5 ar5];simp;rfl
    | false=>
     obtain⟨b,I⟩:∃ b,x.back=O b:=by
      cases I:x.back with
      | none=>grind
      | some b=>grind
     rw[I] at VR;simp (disch:=first|assumption|omega|simp only[zS]<;>omega|decide) only[zB,simprocAttr,kN,Q,VR,M,B6]
   .rintro z3 w6 ⟨rfl,Z2⟩ d6;clear d6;cases VT:x.ask with
    | true=>
     rw[VT] at Z2 e;rw[zip rfl] at e;cases e;refine cJ Z2 ?_;exact E _ _ ⟨yF,J,vZ,zg,_,_,_,_,_,tl.ext aQA⟩
    | false=>
     rw[VT] at Z2 e;rw[bU zd] at e;cases e;refine cJ Z2 ?_;exact E _ _ ⟨yF,J⟩
  .rw[bU Ja] at e;have hH:Mr m3 x i:=⟨ar3,N,Z0.sl,Z0.tm,by have h9:m3.sr.tr.length+m3.sr.fuel<=B-1:=zh.cV;show m3.sr.tr.length+m3.sr.fuel<=_;omega,zg,N.small⟩;have OU:=tl.st.ok;have hD5:∀ b,k.heap.size<=b->D b:=yH;refine cJ Ja ?_;rw[ept,Nat.zero_add];refine⟨fun z w6=>∃ (ok:Bool) (u:Nat->Nat) (m6:Vm),z 96 = .bool (!ok)/\eu ρ m.n u m6.n/\B7 D u vb cb fw w6 m6/\dc D w w6/\gH B m6/\(if ok then zC dJ d n m6=O r else r = .ok (ae,m6)),?_,?_⟩
   .cases t:vO dJ d i m3 with
    | none=>rw[t] at e;cases e
    | some q=>
    rw[t] at e;have y5:=aQq tl hD5 (hC.fr Iu) tK aQz hH Ja t;refine a3L y5 ?_;rintro C w6 ⟨kq,oG⟩;have Z3:=Iu.trans kq;cases q with
    | error te=>
     cases e;have oG:C=gW te:=oG;subst oG;cases te<;>exact E _ _ ⟨Z3,J⟩
    | ok q=>
     obtain⟨b6,m6⟩:=q;obtain⟨rfl,u,ZI,RY⟩:=oG;have aQB:eu ρ m.n u m6.n:=(by grind [eu.trans]);have qf:gH B m6:=by
      have h9:=(aow zh OU ar3 N tK t).1;grind
     have e:(if b6=G then zC dJ d n m6 else match m6.back with
      | none=>V
      | some (ae,m)=>O (.ok (ae,m))
      | some (G,m)=>zC dJ d n m)=O r:=e
     cases b6 with
     | true=>
      refine bG ?_;exact⟨G,u,m6,zg,aQB,RY,Z3,qf,zg⟩
     | false=>
      simp only[Bool.false_eq_true,if_false] at e;cases B4:m6.back with
      | none=>rw[B4] at e;cases e
      | some q7=>
      rw[B4] at e;obtain⟨φ6,ψ6,av6,tv6,a0O,wh⟩:=RY;have s6:=kq.size;obtain⟨a0P,a0Q,a0R⟩:=hlen qf;refine bG ?_;refine a3L (art wh yH (xr qf) zg zg B4) ?_;rintro C w7 ⟨Hi,rfl,h7⟩;obtain⟨b7,m7⟩:=q7;have hn7:m7.n=m6.n:=P.arZ B4;have Za:eu ρ m.n u m7.n:=zg;have hg7:gH B m7:=qf.back B4;cases b7 with
      | true=>
       refine bG ?_;exact⟨G,u,m7,zg,Za,h7,yF,hg7,zg⟩
      | false=>
       refine bG ?_;exact⟨ae,u,m7,zg,Za,h7,yF,hg7,zg⟩
   .rintro z6 w6 ⟨ok,u,m6,h96,ZI,RY,Z3,qf,ZD⟩ d6;clear d6;cases ok with
    | true=>
     refine cJ h96 ?_;exact yF
    | false=>
     refine cJ h96 ?_;have ZD:r = .ok (ae,m6):=zg;subst ZD;exact E _ _ ⟨Z3,J,u,ZI,RY⟩
end
def aQD{ask:Co}(hC:yE w cb pb fw told dJ)(o:Gj w fw ask)(K:ask.slots<=64) :
  Calls bdT 35 #[pp cb] w fun e w'=>Ext w w'/\∃ q,e = ai (pp q)/\w.heap.size<=q/\∀ (D:Nat->Prop) (ρ:Nat->Nat),(∀ b,w.heap.size<=b->D b)->B7 D ρ q cb fw w' (BX ask):=by
 obtain⟨r,-⟩:=hC;obtain⟨insv,z,L⟩:=id o;have A:Ext w w.drew:=yF;have B:ask.slots<=1000000:=zo;refine aOA ?_;refine⟨fun w'=>Ext w w',A,?_⟩;rw[jI];refine cQ (pq cb 1) (fun w' s=>eR) ?_;refine cQ (pp fw) (fun w' s=>by have c:=s.ext _ _ r;have:=bn c;exact eV c) ?_;refine dA r z ?_;obtain⟨wr,C⟩:=cj (w.drew.alloc (ah (madeCells #[aj] ask.slots) 20 (0,0)));have d:Ext w wr:=yF;have sr:wr.heap.size=w.heap.size+1:=yH;have M:wr.heap[w.heap.size]?=aO (madeCells #[aj] ask.slots) 20:=yH;rw[<- C];refine⟨d,?_⟩;obtain⟨wf,E⟩:=cj (wr.alloc (ah #[pp fw,cS w.heap.size ask.slots ask.slots,zi 0,au V,zi 0] 203));have F:Ext wr wf:=yF;have sf:wf.heap.size=w.heap.size+2:=yH;have f:wf.heap[w.heap.size+1]?=aO #[pp fw,cS w.heap.size ask.slots ask.slots,zi 0,au V,zi 0] 203:=yH;obtain⟨h,k⟩:=cj (wf.alloc (ah #[pp cb,bW,zi 0,pp (w.heap.size+1),zi 0,bW] 116));have l:Ext wf h:=yF;have m:h.heap[w.heap.size+2]?=aO #[pp cb,bW,zi 0,pp (w.heap.size+1),zi 0,bW] 116:=yH;rw[<- E,<- k];have t:Ext w h:=yF;refine⟨yF,t,w.heap.size+2,J,zo,fun D ρ hD=>?_⟩;refine⟨fun _=>w.heap.size+1,fun _=>w.heap.size,bW,bW,[],?_⟩;refine⟨⟨⟨fun i j hi=>absurd hi (a5A _),fun i hi=>absurd hi (a5A _)⟩,fun i hi=>absurd hi (a5A _),m,a4d _ _ _ _,fun g n=>(by cases n),yH,List.nodup_nil,(fun p H=>by cases H),trivial⟩,
  by show 0<1;omega,fun i x hx=>?_,fun i x b hx N=>?_,yH,fun i j hi a _=>?_,a4d _ _ _ _,J,fun g n=>(by cases n)⟩
 .have hi:i=0:=by
   have:=(a4l.1 hx).1;have c:i<1:=this;omega
  subst hi;have hx:x=⟨ask,a4r ask.slots .nil,0,V,0,G⟩:=(a3R hx).symm;subst hx;have I:(a4r ask.slots Sl.nil).length=ask.slots:=List.length_replicate;refine⟨⟨fw,?_,o.bL (eJ.ea t),yH⟩,zg,madeCells #[aj] ask.slots,yH,by grind [size_madeCells],fun j y a=>?_⟩
  .simp only[I];exact l.ext _ _ f
  .have u:j<ask.slots:=zg;have a:(a4r ask.slots Sl.nil)[j]?=O y:=a;rw[List.getElem?_replicate,zip u] at a;cases a;refine⟨aj,?_,J⟩;have:=aqO aj ask.slots j u;grind
 .have hi:i=0:=by
   have:=(a4l.1 hx).1;have c:i<1:=this;omega
  subst hi;have hx:x=⟨ask,a4r ask.slots .nil,0,V,0,G⟩:=(a3R hx).symm;grind
 .have P:i<1:=hi;have c:j<1:=a;omega
section
variable{D:Nat->Prop}{ρ:Nat->Nat}{vb cb fw:Nat}{w w':Z}{m:Vm}
def aQJ(h:B7 D ρ vb cb fw w m){pb told:Nat}{dJ:List Pd}(hC:yE w cb pb fw told dJ)(ht:∀ x,m.fs[m.f]?=O x->told<=x.slots.length)(CO:told<=100000) :
  Calls bdT 36 #[pp vb] w fun e w'=>Ext w w'/\match m.iO (a4g told) with
   | .ok l=>∃ v us,e = ai v/\fO (fun _=>True) w' 89 v us/\ql ρ m.n w' us l
   | .error t=>e=gW t:=by
 obtain⟨φ,ψ,av,tv,dk,hx⟩:=h;obtain⟨x,q⟩:∃ x,m.fs[m.f]?=O x:=⟨_,a3P hx.fl⟩;have ht:=ht x q;suffices H:∀ R:Ending->Z->Prop,(∀ c w',Ext w w'->(match m.iO (a4g told) with
   | .ok l=>∃ v us,c = ai v/\fO (fun _=>True) w' 89 v us/\ql ρ m.n w' us l
   | .error t=>c=gW t)->R c w')->Calls bdT 36 #[au (O ⟨vb,0,V⟩)] w R from H _ yF
 intro R I;have c0:w.heap[vb]?=aO #[pp cb,tv,zi (m.sr.fuel:Nat),pp (φ m.f),zi (m.pc:Nat),av] 116:=hx.cell;obtain⟨⟨U,r,-,-⟩,-,W,i,Gn,Gp⟩:=hx.fs _ _ q;have r:w.heap[φ m.f]?=aO #[pp U,cS (ψ m.f) x.slots.length x.slots.length,zi (x.entry:Nat),B6 φ x.back,zi (x.pc:Nat)] 203:=r;have i:w.heap[ψ m.f]?=aO W 20:=i;have X:=hC.cell;have htc:(told:Int)<=(x.slots.length:Int):=zo;have K:∀ s,sliced (O ⟨ψ m.f,0,V⟩) 0 told x.slots.length s = cS (ψ m.f) told x.slots.length:=(by grind [sliced,Addr.add]);refine aOB ?_;refine dG @c0 r X K ?_;have dI:Ext w w.drew:=yF;refine⟨fun n z u=>∃ (j:Nat) (y:Y) (us:List Y) (d:List Tm),z 23=zi (j:Nat)/\z 2=y/\j<=told/\n=told-j/\Ext w u/\u.ownsRow w.heap.size 89 1 y j us/\us.length=j/\ql ρ m.n w us d/\m.iO (a4g told)=P.DG d (m.iO ((a4g told).drop j)),
  ⟨_,0,bW,[],[],J,J,Nat.zero_le _,J,dI,a4d _ _ _ _,J,by unfold ql iJ;rfl,by rw[List.drop_zero];cases m.iO (a4g told)<;>rfl⟩,?_⟩
 intro n z dz u hI;clear dz;refine toPr ?_;obtain⟨j,y,us,d,o,A,hj,rfl,g,B,vf,L,p⟩:=hI;obtain⟨pa,pc,Gr⟩:=gZ B;subst Gr;have sj:=g.size;by_cases hlt:j<told
 .have Dr:(j:Int)<(told:Int):=zo;have kf:(j:Int).toNat=j:=zo;have M:=g.ext _ _ i;have lrj:=bn M;obtain⟨C,v,q1,q2,q3,q4⟩:=hx.RR q (k:=j) zo;have q1:w.heap[ψ m.f]?=aO C 20:=q1;rw[i] at q1;cases q1;have a:=P.ahv (m:=m) (ks:=a4g told) (j:=j) (by simpa using hlt) p;simp only[List.getElem_range] at a;have hv:=q4.one;rcases hv with rfl | ⟨N,Q,rfl⟩;all_goals
   refine dG o A Dr (zA @kf (zA M (zA @q3 K))) ?_;refine a3L (arh _ (q4.bL (eJ.ea g) (eu.refl _ _))) ?_;rintro c w2 ⟨rfl,b⟩;cases E:P.v8 (m.slot j) with
   | error t=>
    rw[E] at b a;have a:m.iO (a4g told) = .error t:=a;have b:c=gW t:=b;subst b;cases t<;>exact I _ _ g (by rw[a];rfl)
   | ok t=>
    rw[E] at b a;have a:m.iO (a4g told)=P.DG (d++[t]) (m.iO ((a4g told).drop (j+1))):=a;have b:c = ai _:=b;subst b;have F:=P.ZW E;rw[F] at q4;have q4:dO ρ m.n w _ t:=q4;first
     | (exfalso;obtain⟨_,_,h9⟩:=q4.iface;cases h9;done)
     | (simp (disch:=first|assumption|omega|simp only[zS]<;>omega|decide) only[zB,simprocAttr,kN,o,A];have S:(w2.alloc (ah #[ak N Q] 89 (0,0))).ownsRow w.heap.size 89 1 (.slice pa j pc) j us:=jK yH B;refine Q9 S (tW J) J zo (by rw[size_alloc];omega) ?_;intro v' w' T jL Es;obtain⟨DD,pc',JU⟩:=gZ T;subst JU;simp (disch:=first|assumption|omega|simp only[zS]<;>omega|decide) only[zB,simprocAttr,kN,o];exact⟨told-(j+1),zo,j+1,_,us++[ak N Q],d++[t],zg,zg,zo,J,ahq yF S jL,T,zg,L.snoc q4,a⟩)
 .have fm:j=told:=zo;subst fm;rw[List.drop_of_length_le zs] at p;have p:m.iO (a4g j) = .ok d:=by grind [Vm.iO,P.DG]
  refine dA o A ?_;exact I _ _ g (by rw[p];exact⟨_,us,J,Vs B vf.symm,L.bL (rF.ea g)⟩)
end
def P.ar8(s:Vm)(f:Nat):∀ (ks:List Nat),Vm.iO { s with sr:={ s.sr with fuel:=f } } ks=Vm.iO s ks
 | []=>rfl
 | k::r=>by
  rw[P.ahu,P.ahu,P.ar8 s f r];rfl
structure VmQ(dJ:List Pd)(told vb cb fw pb:Nat)(D:Nat->Prop)(ρ:Nat->Nat)(w:Z)(m:Vm):Prop where
 vm:B7 D ρ vb cb fw w m
 code:yE w cb pb fw told dJ
def RZ(dJ:List Pd)(told vb cb fw pb:Nat):Dv (Om dJ told) where
 T:=116
 pT:=111
 fN:=205
 fT:=36
 eb:=vb
 tf:=#[pp vb]
 tc:=#[]
 Mem D ρ w m:=VmQ dJ told vb cb fw pb D ρ w m
 Good c m:=gH (c*1000000) { m with sr:={ m.sr with fuel:=0 } }/\jS told m/\∃ x,m.fs[m.f]?=O x/\x.ask=G
def gm.aQM{e:Bb}{m:Vm}(h:gm D ρ e av tv xs w m){C:Array Y}(a:w.heap[e.vb]?=aO C 116)(hk:Ii e.vb w w')(c:w'.heap[e.vb]?=aO (kB C 1 (f:Int)) 116) :
  gm D ρ e av tv xs w' { m with sr:={ m.sr with fuel:=f } }:=by
 have d:eJ w w':=hk.toI (T:=116) (by grind [lH]) a;have i:av.ownBlock≠O e.vb:=(by grind [ZK]);exact h.rest ⟨d,fun b cs g=>hk.1 b cs _ zg zo zo g⟩ (eu.refl _ _) (by grind [agM,ar]) (h.st.aq7 Dy hk a c) h.fl
theorem ar9(dJ:List Pd)(told vb cb fw pb:Nat)(tK:∀ p∈dJ,∀ c∈p.clauses,zE c)(aQN:told<=100000):JP (RZ dJ told vb cb fw pb) where
 st:=by
  rintro D ρ w s ⟨⟨φ,ψ,av,tv,dk,h⟩,-⟩;exact⟨_,tv,Dy,h.st⟩
 ext:=by
  rintro D ρ w w' s ⟨⟨φ,ψ,av,tv,dk,h⟩,h2⟩ hE;exact⟨⟨φ,ψ,av,tv,dk,h.ext hE⟩,(by grind [eJ.ea,yE.bL,bD.ext])⟩
 fuel:=by
  rintro D ρ w w' s C f ⟨⟨φ,ψ,av,tv,dk,h⟩,h2⟩ hc hk oB;have hI:eJ w w':=hk.toI (T:=116) (by grind [lH]) hc;have hc:w.heap[vb]?=aO C 116:=hc;exact⟨⟨φ,ψ,av,tv,dk,h.aQM hc hk oB⟩,h2.bL hI fun l hm=>hk.2 _ _ _ (fun e=>by
   have e:pb=vb:=e;rw[e,hc] at hm;cases hm) hm⟩
 aqQ:=fun s f=>rfl
 agu:=fun s f=>P.ar8 s f (a4g told)
 next:=by
  rintro D ρ w s c d f r ⟨h1,h2⟩ hD ⟨hg,hl,hq⟩ hc hr;have jL:gH (c*1000000+1000000) { s with sr:={ s.sr with fuel:=1000000 } }:=by
   have g1:s.sr.tr.length+0<=c*1000000:=hg.cV;have g2:s.bz.length+0<=c*1000000:=hg.nQ;exact⟨hg.f,hg.fr,hg.ag,hg.marks,hg.mono,by show s.sr.tr.length+1000000<=_;omega,zg,hg.pc,hg.xw,hg.ym⟩
  have hr:Od dJ d f { s with sr:={ s.sr with fuel:=1000000 } }=O r:=hr;refine(aQs h1 hD h2 tK zo jL hr).mono ?_;rintro e w' ⟨hE,hp⟩;refine⟨hE,?_⟩;cases r with
  | error t=>omega
  | ok p=>
   obtain⟨rfl,eP,hu,hm⟩:=hp;exact⟨J,eP,hm,h2.fr hE⟩
 Fu:=by
  rintro s c d f k ⟨hg,hl,hq⟩ hc-hr;have jL:gH (c*1000000+1000000) { s with sr:={ s.sr with fuel:=1000000 } }:=by
   have g1:s.sr.tr.length+0<=c*1000000:=hg.cV;have g2:s.bz.length+0<=c*1000000:=hg.nQ;exact⟨hg.f,hg.fr,hg.ag,hg.marks,hg.mono,by show s.sr.tr.length+1000000<=_;omega,zg,hg.pc,hg.xw,hg.ym⟩
  have hr:Od dJ d f { s with sr:={ s.sr with fuel:=1000000 } }=O (.ok (G,k)):=hr;obtain⟨h1,h2,h3,h4⟩:=aJL tK jL (show jS told { s with sr:={ s.sr with fuel:=1000000 } } from⟨hl.tr,hl.fr,hl.ag,⟨hl.sr.FU,hl.sr.ok⟩,hl.ask⟩) hr;refine⟨h3,fun f'=>⟨?_,⟨h2.tr,h2.fr,h2.ag,⟨h2.sr.FU,h2.sr.ok⟩,h2.ask⟩,h4 J⟩⟩;have g1:k.sr.tr.length+k.sr.fuel<=c*1000000+1000000:=h1.cV;have g2:k.bz.length+k.sr.fuel<=c*1000000+1000000:=h1.nQ;exact⟨h1.f,h1.fr,h1.ag,h1.marks,h1.mono,by show k.sr.tr.length+0<=(c+1)*1000000;omega,by show k.bz.length+0<=(c+1)*1000000;omega,h1.pc,h1.xw,h1.ym⟩
 told:=by
  rintro D ρ w s ⟨h1,h2⟩ ⟨c,f,-,hl,x,hx,hk⟩;have hx:s.fs[s.f]?=O x:=hx;exact aQJ h1 h2 (fun y hy=>by rw[hx] at hy;cases hy;exact hl.ask _ _ hx hk) aQN
 agv:=by
  rintro s c l ⟨hg,hl,x,hx,hk⟩ h;have hF:=hg.fr _ _ hx;exact Yx (Ut hx hF.tm h).1
 agw:=fun w=>by
  show(method (Tryz.prog.types.size+Made.depth) 111 (pp vb) "Next").run bdT w = .ok (205,pp vb) w
  kernel_rfl
 cN:=by show Al bdT 205=G;kernel_rfl
 cT:=by show Al bdT 36=G;kernel_rfl
def qZ(w:Z)(wb:Nat)(out:Bs):Prop:=
 ∃ a buf,(a = au V\/a=pp wb)/\w.heap[wb]?=aO #[a,buf] 100/\w.ownsRow (wb+1) 5 1 buf out.length (uW out)
def aQO:liesAt bdT Tryz.prog.depth 100 (2 / Tryz.prog.cellsOf 100) 0 100 1=true:=zk
def aQP(h:w.heap[b]?=aO #[pp b,buf] 100) :
  Calls bdT 82 #[pp b] w fun e w'=>e = ai (aq #[])/\w'=w:=by
 obtain⟨j,hj,_⟩:=a4c.1 YQ;have h0:w.cell? ⟨b,0,V⟩=O (pp b):=by grind [World.cell?]
 go_enter func82,ntmps82
 go_wp2
 rw[Lib.run_neq_ptr_same w _ underlying97 hj]
 go_wp2
 go_end0
 grind
def aQQ(h:w.heap[b]?=aO #[au V,buf] 100) :
  Calls bdT 82 #[pp b] w fun e w'=>e = ai (aq #[])/\w'=w.setCell ⟨b,0,V⟩ (pp b):=by
 obtain⟨j,hj,QZ⟩:=a4c.1 YQ;have h0:w.cell? ⟨b,0,V⟩=O (au V):=by grind [World.cell?]
 have I5:w.frozen? ⟨b,0,V⟩=false:=jV h 0;have tL:w.shape? b=O (100,2):=by grind [World.shape?]
 go_enter func82,ntmps82
 go_wp2
 rw[Lib.run_to_unsafe w ⟨b,0,V⟩ underlying97 underlying155 hj zo tL (Nat.zero_lt_succ 1)];simp only[a4D];rw[a6f]
 go_wp2
 rw[run_callFunc_extern func110 zk zk zk (e:=Extern.AbiNoEscape.same) zk];rw[Lib.run_noEscape];simp only[a4D];rw[a6f]
 go_wp2
 rw[Lib.run_from_unsafe w ⟨b,0,V⟩ underlying155 underlying97 hj tL aQO];simp only[a4D];rw[a6f]
 go_wp2
 go_end0
 grind
def asa(h:qZ w wb out) :
  Calls bdT 82 #[pp wb] w fun e w'=>e = ai (aq #[])/\jT wb w w'/\w'.heap.size=w.heap.size/\∃ buf,
   w'.heap[wb]?=aO #[pp wb,buf] 100/\w'.ownsRow (wb+1) 5 1 buf out.length (uW out):=by
 obtain⟨d,buf,b,a,c⟩:=h;rcases b with rfl | rfl
 .refine(aQQ a).mono ?_;rintro e w' ⟨rfl,rfl⟩;rw[vz a];refine⟨J,(bD.refl _ _).bR (.inl fun _=>.inl J),yH,buf,yH,(by grind [KD])⟩
 .refine(aQP a).mono ?_;rintro e w' ⟨rfl,rfl⟩;exact⟨J,bD.refl _ _,J,buf,a,c⟩
def asb(h:qZ w wb out)(s:Bs)(f:out.length+s.length<=1000000000) :
  Calls bdT 44 #[pp wb,aW s] w fun e w'=>(∃ v,e = ai v)/\qZ w' wb (out++s)/\jT wb w w':=by
 refine apm ?_;refine(asa h).mono ?_;rintro e w1 ⟨rfl,g,s1,buf,b,a⟩;have i:=bn b;refine cJ b ?_;refine akS (e:=5) zk a s f zo ?_;intro v' w2 o2 c hv;have d:w2.heap[wb]?=aO #[pp wb,buf] 100:=by
  rw[c.block wb i (fun e=>by have:=(a.lt wb e.symm).1;omega)];omega
 have j:=bn d;obtain⟨l,rc,rfl⟩:=gZ o2;refine cJ d ?_;have k:jT wb w1 w2:=jT.YR a c;refine⟨⟨_,J⟩,⟨_,_,.inr J,qI J j,KD ?_ zo⟩,(g.trans k).bR (.inl fun _=>.inl J)⟩;grind
def aQR(h:qZ w wb out)(c:UInt8)(j:out.length+1<=1000000000) :
  Hy (pp wb) (.int .u8 c.toNat) w fun e w'=>(∃ v,e = ai v)/\qZ w' wb (out++[c])/\jT wb w w':=by
 obtain⟨i,hi,d⟩:=a4c.1 apr;simp only[Prod.mk.injEq] at d;obtain⟨k,l,n⟩:=d;unfold Hy;refine a3L (asa h) ?_;rintro e w1 ⟨rfl,o,s1,buf,f,a⟩;have r:=bn f;refine dA @Hy.eq_1 f ?_;refine Sx.DY (m:=1) (t:=98) (e:=5) zk hi k l n J zd (a.alloc _) (blk_alloc_new _ _) J (fun u hu=>?_) j zd (by rw[size_alloc];omega) ?_
 .simp only[a3T,a30,or_false] at hu;subst hu;rfl
 intro v' w2 o2 b hv;have s2:=b.size;rw[size_alloc] at s2;have g:w2.heap[wb]?=aO #[pp wb,buf] 100:=by
  rw[b.block wb (yH) (fun e=>by have:=(a.lt wb e.symm).1;omega)];exact yH
 have p:=bn g;obtain⟨s,rc,rfl⟩:=gZ o2;refine dA @Hy.eq_1 g ?_;have q:jT wb w1 w2:=((bD.refl _ _).alloc _).trans (jT.YR (a.alloc _) b);refine⟨⟨_,J⟩,⟨_,_,.inr J,qI J p,KD ?_ zo⟩,(o.trans q).bR (.inl fun _=>.inl J)⟩;grind
def aQS(h:qZ w wb out)(c:UInt8)(a:out.length+1<=1000000000) :
  Calls bdT 95 #[pp wb,.int .u8 c.toNat] w fun e w'=>(∃ v,e = ai v)/\qZ w' wb (out++[c])/\jT wb w w':=
 apn (aQR h c a)
def aQT(h:qZ w wb out)(h0:out≠[]) :
  Calls bdT 33 #[pp wb] w fun e w'=>e = ai (aW out)/\jT wb w w':=by
 obtain⟨ad,buf,Hz,hb,ho⟩:=h;have rm:out.length≠0:=zg;obtain⟨g,cap,cur,rfl,Xg,hg,tV,Cn,jr,Xh⟩:∃ g cap cur,buf = cS g out.length cap/\wb+1<=g/\w.heap[g]?=aO cur 5/\out.length<=cap/\cap<=maxLen/\cur.size=cap*1/\cur.toList.take (out.length*1)=uW out:=by
  rcases ho.2 with⟨_,hz⟩| ⟨g,cap,cur,hv,r⟩
  .exact yH
  .exact⟨g,cap,cur,hv,r⟩
 have nZ:w.drew.heap[wb]?=aO #[ad,cS g out.length cap] 100:=hb;have c1:w.drew.cell? ⟨wb,1,V⟩=O (cS g out.length cap):=by grind [World.cell?]
 have hSD:(Builtin.unsafeSliceData_ #[98] 181 #[cS g out.length cap]).run bdT w.drew = .ok (pp g) w.drew:=
  (by grind [Lib.run_unsafeSliceData_row])
 have hUS:(Builtin.unsafeString_ #[181,3] 9 #[pp g,zi out.length]).run bdT w.drew = .ok (aW out) (w.drew.freeze ⟨g,0,V⟩ out.length):=by
  refine Lib.run_unsafeString_row w.drew 181 3 9 5 underlying181 apv g cur.size (by have jL:w.drew.heap[g]?=aO cur 5:=hg;grind [World.shape?]) out h0 zo (by grind [maxLen]) ?_;intro j x hx;have:=ho.cells (g:=g) J j (.int .u8 x.toNat) zg;exact this
 go_enter func33,ntmps33
 go_wp2
 go_region
 all_goals (go_wp2;go_ret;exact⟨J,(bD.drew (bD.refl _ _)).trans (apw zo hg)⟩)
def DI{C:Array Y}(hm:C.size=m)(a:g=w.heap.size){K:Y->Z->Prop}:WR bdT (convert 98 98 (cS g n c)) (w.alloc (ah C 5 (0,0))) K X=K (cS g n c) (w.alloc (ah C 5 (m,m+1))):=by
 subst a hm;unfold WR;rw[Lib.run_convert_bytes_const w 98 5 C n c zk zk]
def JY(w:Z)(mb:Nat)(v:Y)(sh:Bs):Prop:=(sh=[]/\v = bW)\/∃ b z,sh≠[]/\v = cS b sh.length sh.length/\b≠mb/\w.heap[b]?=O (ah (uW sh).toArray 5 z)
theorem JY.bL{sh:Bs}(h:JY w mb v sh)(hk:∀ b o,b≠mb->w.heap[b]?=O o->w'.heap[b]?=O o):JY w' mb v sh:=by
 rcases h with h | ⟨b,z,a,c,d,e⟩
 .exact .inl h
 .exact .inr yH
structure q8(w:Z)(mb:Nat)(l:List (Bs×Y)):Prop where
 map:w.heap[mb]?=O (eM l)
 row:∀ p∈l,∃ sh,kT p.1=O sh/\JY w mb p.2 sh
theorem q8.step{l:List (Bs×Y)}(h:q8 w mb l){sh:Bs}(c:kT wd=O sh)(f:sh≠[]) :
  q8 (bR (w.alloc (ah (uW sh).toArray 5 (sh.length,sh.length+1))) mb (eM (l++[(wd,cS w.heap.size sh.length sh.length)]))) mb (l++[(wd,cS w.heap.size sh.length sh.length)]):=by
 have lm:=bn h.map;refine⟨yH,fun p a=>?_⟩;rcases List.mem_append.1 a with a | a
 .obtain⟨b,d,e⟩:=h.row p a;exact⟨b,d,e.bL yH⟩
 .rw[List.mem_singleton] at a;subst a;refine⟨sh,c,?_⟩;have g:(bR (w.alloc (ah (uW sh).toArray 5 (sh.length,sh.length+1))) mb (eM (l++[(wd,cS w.heap.size sh.length sh.length)]))).heap[w.heap.size]?=O (ah (uW sh).toArray 5 (sh.length,sh.length+1)):=by
   exact yH
  exact .inr yH
def q8.asc{l:List (Bs×Y)}(h:q8 w mb l)(b:kT wd=O []):q8 (bR w mb (eM (l++[(wd,bW)]))) mb (l++[(wd,bW)]):=by
 refine⟨qI J (bn h.map),fun p a=>?_⟩;rcases List.mem_append.1 a with a | a
 .grind [jg,row,JY.bL]
 .rw[List.mem_singleton] at a;subst a;exact⟨[],b,.inl ⟨J,J⟩⟩
theorem Ac{s:Bs}:∀ {l:List (Bs×Y)} {i:Nat},s ∉ l.map a5g->fQ s l i=V
 | [],_,_=>rfl
 | (u,v)::r,i,h=>by
  unfold fQ;rw[bU (fun e=>h (by simp [e]))];exact Ac zg
def aQV{l:List (Bs×Y)}(h:fQ s l i=O (j,v)):(s,v)∈l:=List.mem_of_getElem? (Zw h).2
def aQW{sh:Bs}(h:kT wd=O sh):wd∈[P.oe,FW,Ew,FX,Jt,Ju,mD,pL,qR,kZ,kr,jQ,rA,Of,Og]:=by
 simp only[a3T,a30,or_false];rcases QR h with⟨hw,-⟩| ⟨hw,-⟩| ⟨hw,-⟩| ⟨hw,-⟩| ⟨hw,-⟩| ⟨hw,-⟩| ⟨hw,-⟩<;>(first | (rcases hw with rfl | rfl | rfl | rfl<;>simp) | (rcases hw with rfl | rfl<;>simp) | (subst hw;simp))
abbrev asd:List Bs:=[P.oe,FW,Ew,FX,Jt,Ju,mD,pL,qR,kZ,kr,jQ,rA,Of,Og]
theorem q8.find{w:Z}{mb:Nat}{l:List (Bs×Y)}(h:q8 w mb l)(hk:l.map a5g=asd)(wd:Bs):match fQ wd l 0 with
  | none=>kT wd=V
  | some (_,v)=>∃ sh,kT wd=O sh/\JY w mb v sh:=by
 cases b:fQ wd l 0 with
 | none=>
  simp only;cases c:kT wd with
  | none=>rfl
  | some sh=>
   have hm:=aQW c;rw[show [P.oe,FW,Ew,FX,Jt,Ju,mD,pL,qR,kZ,kr,jQ,rA,Of,Og]=l.map a5g from hk.symm] at hm;obtain⟨p,d,rfl⟩:=List.mem_map.1 hm;exfalso;have:∀ (l:List (Bs×Y)) (i:Nat),p∈l->fQ p.1 l i≠none:=by
    intro l;induction l with
    | nil=>grind
    | cons a r ih=>
     intro i d;obtain⟨u,v⟩:=a;unfold fQ;grind
   grind
 | some q=>
  obtain⟨j,v⟩:=q;exact h.row _ (aQV b)
def ase(w:Z):Calls bdT 101 #[] w fun e w'=>Ext w w'/\∃ mb l,e = ai (.map (O mb))/\w.heap.size<=mb/\q8 w' mb l/\l.map a5g=asd:=by
 refine aQb ?_;refine bG ?_;obtain⟨w0,L⟩:=cj (w.alloc (.map #[] 0));have po:Ext w w0:=yF;have M:q8 w0 w.heap.size []:=⟨by rw[L];exact tW J,yH⟩;have s0:w0.heap.size=w.heap.size+1:=yH;obtain⟨mb,Mg⟩:=cj w.heap.size;rw[<- L,<- s0];rw[<- Mg] at M ⊢;clear L;have k1:fQ [110,101,119] [] 0=none:=Ac zs;have a1:=M.step (wd:=[110,101,119]) (sh:=[115]) zd zs;have JL:(w0.alloc (ah #[.int .u8 115] 5 (1,1+1))).heap[mb]?=O (eM []):=((bD.refl (fun _ _=>False) _).alloc _).block _ _ M.map zg;rw[DI (m:=1) J rfl];rw[yv (k:=9) (e:=98) zk zk JL [110,101,119] k1];obtain⟨w1,e1⟩:=cj (bR (w0.alloc (ah #[.int .u8 115] 5 (1,1+1))) mb (eM ([]++[([110,101,119],cS w0.heap.size 1 1)])));obtain⟨b,f1⟩:=cj (([]:List (Bs×Y))++[([110,101,119],a3Y (O ⟨w0.heap.size,0,V⟩) 1 1)]);have h1:q8 w1 mb b:=zg;have dF:Ext w w1:=yF;have m1:b.map a5g=[[110,101,119]]:=zg;rw[<- e1];clear e1 f1 a1;refine bG ?_;have k2:fQ [112,117,116] b 0=none:=(by grind [Ac]);have a2:=h1.step (wd:=[112,117,116]) (sh:=[115,99]) zd zs;have od:(w1.alloc (ah #[.int .u8 115,.int .u8 99] 5 (2,2+1))).heap[mb]?=O (eM b):=((bD.refl (fun _ _=>False) _).alloc _).block _ _ h1.map zg;rw[DI (m:=2) J rfl];rw[yv (k:=9) (e:=98) zk zk od [112,117,116] k2];obtain⟨w2,e2⟩:=cj (bR (w1.alloc (ah #[.int .u8 115,.int .u8 99] 5 (2,2+1))) mb (eM (b++[([112,117,116],cS w1.heap.size 2 2)])));obtain⟨c,f2⟩:=cj (b++[([112,117,116],a3Y (O ⟨w1.heap.size,0,V⟩) 2 2)]);have h2:q8 w2 mb c:=zg;have dX:Ext w w2:=yF;have m2:c.map a5g=[[110,101,119],[112,117,116]]:=zg;rw[<- e2];clear e2 f2 a2;refine bG ?_;have k3:fQ [99,111,110,115,116] c 0=none:=(by grind [Ac]);have a3:=h2.step (wd:=[99,111,110,115,116]) (sh:=[115,99]) zd zs;have Rv:(w2.alloc (ah #[.int .u8 115,.int .u8 99] 5 (2,2+1))).heap[mb]?=O (eM c):=((bD.refl (fun _ _=>False) _).alloc _).block _ _ h2.map zg;rw[DI (m:=2) J rfl];rw[yv (k:=9) (e:=98) zk zk Rv [99,111,110,115,116] k3];obtain⟨w3,e3⟩:=cj (bR (w2.alloc (ah #[.int .u8 115,.int .u8 99] 5 (2,2+1))) mb (eM (c++[([99,111,110,115,116],cS w2.heap.size 2 2)])));obtain⟨d,f3⟩:=cj (c++[([99,111,110,115,116],a3Y (O ⟨w2.heap.size,0,V⟩) 2 2)]);have h3:q8 w3 mb d:=zg;have eI:Ext w w3:=yF;have m3:d.map a5g=[[110,101,119],[112,117,116],[99,111,110,115,116]]:=zg;rw[<- e3];clear e3 f3 a3;refine bG ?_;have k4:fQ [115,97,109,101] d 0=none:=(by grind [Ac]);have a4:=h3.step (wd:=[115,97,109,101]) (sh:=[115,115]) zd zs;have N:(w3.alloc (ah #[.int .u8 115,.int .u8 115] 5 (2,2+1))).heap[mb]?=O (eM d):=((bD.refl (fun _ _=>False) _).alloc _).block _ _ h3.map zg;rw[DI (m:=2) J rfl];rw[yv (k:=9) (e:=98) zk zk N [115,97,109,101] k4];obtain⟨f,e4⟩:=cj (bR (w3.alloc (ah #[.int .u8 115,.int .u8 115] 5 (2,2+1))) mb (eM (d++[([115,97,109,101],cS w3.heap.size 2 2)])));obtain⟨g,f4⟩:=cj (d++[([115,97,109,101],a3Y (O ⟨w3.heap.size,0,V⟩) 2 2)]);have h4:q8 f mb g:=zg;have gT:Ext w f:=yF;have m4:g.map a5g=[[110,101,119],[112,117,116],[99,111,110,115,116],[115,97,109,101]]:=zg;rw[<- e4];clear e4 f4 a4;refine bG ?_;have k5:fQ [109,97,107,101] g 0=none:=(by grind [Ac]);have a5:=h4.step (wd:=[109,97,107,101]) (sh:=[115,110,42]) zd zs;have JO:(f.alloc (ah #[.int .u8 115,.int .u8 110,.int .u8 42] 5 (3,3+1))).heap[mb]?=O (eM g):=((bD.refl (fun _ _=>False) _).alloc _).block _ _ h4.map zg;rw[DI (m:=3) J rfl];rw[yv (k:=9) (e:=98) zk zk JO [109,97,107,101] k5];obtain⟨h,e5⟩:=cj (bR (f.alloc (ah #[.int .u8 115,.int .u8 110,.int .u8 42] 5 (3,3+1))) mb (eM (g++[([109,97,107,101],cS f.heap.size 3 3)])));obtain⟨i,f5⟩:=cj (g++[([109,97,107,101],a3Y (O ⟨f.heap.size,0,V⟩) 3 3)]);have h5:q8 h mb i:=zg;have uo:Ext w h:=yF;have m5:i.map a5g=[[110,101,119],[112,117,116],[99,111,110,115,116],[115,97,109,101],[109,97,107,101]]:=zg;rw[<- e5];clear e5 f5 a5;refine bG ?_;have k6:fQ [115,112,108,105,116] i 0=none:=Ac zg;have a6:=h5.step (wd:=[115,112,108,105,116]) (sh:=[115,110,42]) zd zs;have RY:(h.alloc (ah #[.int .u8 115,.int .u8 110,.int .u8 42] 5 (3,3+1))).heap[mb]?=O (eM i):=((bD.refl (fun _ _=>False) _).alloc _).block _ _ h5.map zg;rw[DI (m:=3) J rfl];rw[yv (k:=9) (e:=98) zk zk RY [115,112,108,105,116] k6];obtain⟨j,e6⟩:=cj (bR (h.alloc (ah #[.int .u8 115,.int .u8 110,.int .u8 42] 5 (3,3+1))) mb (eM (i++[([115,112,108,105,116],cS h.heap.size 3 3)])));obtain⟨n,f6⟩:=cj (i++[([115,112,108,105,116],a3Y (O ⟨h.heap.size,0,V⟩) 3 3)]);have h6:q8 j mb n:=zg;have kq:Ext w j:=yF;have m6:n.map a5g=[[110,101,119],[112,117,116],[99,111,110,115,116],[115,97,109,101],[109,97,107,101],[115,112,108,105,116]]:=by rw[f6,a4H,m5];rfl
 rw[<- e6];clear e6 f6 a6;refine bG ?_;have k7:fQ [116,101,115,116] n 0=none:=Ac zg;have a7:=h6.step (wd:=[116,101,115,116]) (sh:=[110,42]) zd zs;have P:(j.alloc (ah #[.int .u8 110,.int .u8 42] 5 (2,2+1))).heap[mb]?=O (eM n):=((bD.refl (fun _ _=>False) _).alloc _).block _ _ h6.map zg;rw[DI (m:=2) J rfl];rw[yv (k:=9) (e:=98) zk zk P [116,101,115,116] k7];obtain⟨o,e7⟩:=cj (bR (j.alloc (ah #[.int .u8 110,.int .u8 42] 5 (2,2+1))) mb (eM (n++[([116,101,115,116],cS j.heap.size 2 2)])));obtain⟨p,f7⟩:=cj (n++[([116,101,115,116],a3Y (O ⟨j.heap.size,0,V⟩) 2 2)]);have h7:q8 o mb p:=zg;have Hi:Ext w o:=yF;have m7:p.map a5g=[[110,101,119],[112,117,116],[99,111,110,115,116],[115,97,109,101],[109,97,107,101],[115,112,108,105,116],[116,101,115,116]]:=by rw[f7,a4H,m6];rfl
 rw[<- e7];clear e7 f7 a7;refine bG ?_;have k8:fQ [109,97,114,107] p 0=none:=Ac zg;have a8:=h7.step (wd:=[109,97,114,107]) (sh:=[115]) zd zs;have Q:(o.alloc (ah #[.int .u8 115] 5 (1,1+1))).heap[mb]?=O (eM p):=((bD.refl (fun _ _=>False) _).alloc _).block _ _ h7.map zg;rw[DI (m:=1) J rfl];rw[yv (k:=9) (e:=98) zk zk Q [109,97,114,107] k8];obtain⟨q,e8⟩:=cj (bR (o.alloc (ah #[.int .u8 115] 5 (1,1+1))) mb (eM (p++[([109,97,114,107],cS o.heap.size 1 1)])));obtain⟨r,f8⟩:=cj (p++[([109,97,114,107],a3Y (O ⟨o.heap.size,0,V⟩) 1 1)]);have h8:q8 q mb r:=zg;have tS:Ext w q:=yF;have m8:r.map a5g=[[110,101,119],[112,117,116],[99,111,110,115,116],[115,97,109,101],[109,97,107,101],[115,112,108,105,116],[116,101,115,116],[109,97,114,107]]:=by rw[f8,a4H,m7];rfl
 rw[<- e8];clear e8 f8 a8;refine bG ?_;have k9:fQ [108,101,118,101,108] r 0=none:=Ac (by rw[m8];decide);have a9:=h8.step (wd:=[108,101,118,101,108]) (sh:=[115]) zd zs;have R:(q.alloc (ah #[.int .u8 115] 5 (1,1+1))).heap[mb]?=O (eM r):=((bD.refl (fun _ _=>False) _).alloc _).block _ _ h8.map zg;rw[DI (m:=1) J rfl];rw[yv (k:=9) (e:=98) zk zk R [108,101,118,101,108] k9];obtain⟨s,e9⟩:=cj (bR (q.alloc (ah #[.int .u8 115] 5 (1,1+1))) mb (eM (r++[([108,101,118,101,108],cS q.heap.size 1 1)])));obtain⟨t,f9⟩:=cj (r++[([108,101,118,101,108],a3Y (O ⟨q.heap.size,0,V⟩) 1 1)]);have h9:q8 s mb t:=zg;have mH:Ext w s:=yF;have m9:t.map a5g=[[110,101,119],[112,117,116],[99,111,110,115,116],[115,97,109,101],[109,97,107,101],[115,112,108,105,116],[116,101,115,116],[109,97,114,107],[108,101,118,101,108]]:=by rw[f9,a4H,m8];rfl
 rw[<- e9];clear e9 f9 a9;refine bG ?_;have O8:fQ [99,117,116] t 0=none:=Ac (by rw[m9];decide);have S:=h9.step (wd:=[99,117,116]) (sh:=[115]) zd zs;have O9:(s.alloc (ah #[.int .u8 115] 5 (1,1+1))).heap[mb]?=O (eM t):=((bD.refl (fun _ _=>False) _).alloc _).block _ _ h9.map zg;rw[DI (m:=1) J rfl];rw[yv (k:=9) (e:=98) zk zk O9 [99,117,116] O8];obtain⟨u,B⟩:=cj (bR (s.alloc (ah #[.int .u8 115] 5 (1,1+1))) mb (eM (t++[([99,117,116],cS s.heap.size 1 1)])));obtain⟨l10,f10⟩:=cj (t++[([99,117,116],a3Y (O ⟨s.heap.size,0,V⟩) 1 1)]);have rz:q8 u mb l10:=zg;have B9:Ext w u:=yF;have m10:l10.map a5g=[[110,101,119],[112,117,116],[99,111,110,115,116],[115,97,109,101],[109,97,107,101],[115,112,108,105,116],[116,101,115,116],[109,97,114,107],[108,101,118,101,108],[99,117,116]]:=by rw[f10,a4H,m9];rfl
 rw[<- B];clear B f10 S;refine bG ?_;have T:fQ [116,114,121] l10 0=none:=Ac (by rw[m10];decide);have U:=rz.step (wd:=[116,114,121]) (sh:=[112]) zd zs;have W:(u.alloc (ah #[.int .u8 112] 5 (1,1+1))).heap[mb]?=O (eM l10):=((bD.refl (fun _ _=>False) _).alloc _).block _ _ rz.map zg;rw[DI (m:=1) J rfl];rw[yv (k:=9) (e:=98) zk zk W [116,114,121] T];obtain⟨x,C⟩:=cj (bR (u.alloc (ah #[.int .u8 112] 5 (1,1+1))) mb (eM (l10++[([116,114,121],cS u.heap.size 1 1)])));obtain⟨y,f11⟩:=cj (l10++[([116,114,121],a3Y (O ⟨u.heap.size,0,V⟩) 1 1)]);have uO:q8 x mb y:=zg;have Ad:Ext w x:=yF;have m11:y.map a5g=[[110,101,119],[112,117,116],[99,111,110,115,116],[115,97,109,101],[109,97,107,101],[115,112,108,105,116],[116,101,115,116],[109,97,114,107],[108,101,118,101,108],[99,117,116],[116,114,121]]:=by rw[f11,a4H,m10];rfl
 rw[<- C];clear C f11 U;refine bG ?_;have X:fQ [106,117,109,112] y 0=none:=Ac (by rw[m11];decide);have a12:=uO.step (wd:=[106,117,109,112]) (sh:=[112]) zd zs;have Z5:(x.alloc (ah #[.int .u8 112] 5 (1,1+1))).heap[mb]?=O (eM y):=((bD.refl (fun _ _=>False) _).alloc _).block _ _ uO.map zg;rw[DI (m:=1) J rfl];rw[yv (k:=9) (e:=98) zk zk Z5 [106,117,109,112] X];obtain⟨z,D⟩:=cj (bR (x.alloc (ah #[.int .u8 112] 5 (1,1+1))) mb (eM (y++[([106,117,109,112],cS x.heap.size 1 1)])));obtain⟨A,f12⟩:=cj (y++[([106,117,109,112],a3Y (O ⟨x.heap.size,0,V⟩) 1 1)]);have vH:q8 z mb A:=zg;have rH:Ext w z:=yF;have m12:A.map a5g=[[110,101,119],[112,117,116],[99,111,110,115,116],[115,97,109,101],[109,97,107,101],[115,112,108,105,116],[116,101,115,116],[109,97,114,107],[108,101,118,101,108],[99,117,116],[116,114,121],[106,117,109,112]]:=by rw[f12,a4H,m11];rfl
 rw[<- D];clear D f12 a12;refine bG ?_;have k13:fQ [99,97,108,108] A 0=none:=Ac (by rw[m12];decide);have a13:=vH.step (wd:=[99,97,108,108]) (sh:=[110,42]) zd zs;have R4:(z.alloc (ah #[.int .u8 110,.int .u8 42] 5 (2,2+1))).heap[mb]?=O (eM A):=((bD.refl (fun _ _=>False) _).alloc _).block _ _ vH.map zg;rw[DI (m:=2) J rfl];rw[yv (k:=9) (e:=98) zk zk R4 [99,97,108,108] k13];obtain⟨mJ,E⟩:=cj (bR (z.alloc (ah #[.int .u8 110,.int .u8 42] 5 (2,2+1))) mb (eM (A++[([99,97,108,108],cS z.heap.size 2 2)])));obtain⟨F,f13⟩:=cj (A++[([99,97,108,108],a3Y (O ⟨z.heap.size,0,V⟩) 2 2)]);have JX:q8 mJ mb F:=zg;have se:Ext w mJ:=yF;have m13:F.map a5g=[[110,101,119],[112,117,116],[99,111,110,115,116],[115,97,109,101],[109,97,107,101],[115,112,108,105,116],[116,101,115,116],[109,97,114,107],[108,101,118,101,108],[99,117,116],[116,114,121],[106,117,109,112],[99,97,108,108]]:=by rw[f13,a4H,m12];rfl
 rw[<- E];clear E f13 a13;have k14:fQ [114,101,116] F 0=none:=Ac (by rw[m13];decide);have a14:=JX.asc (wd:=[114,101,116]) zd;rw[yv (k:=9) (e:=98) zk zk JX.map [114,101,116] k14];obtain⟨Gt,H⟩:=cj (bR mJ mb (eM (F++[([114,101,116],bW)])));obtain⟨I,f14⟩:=cj (F++[([114,101,116],a3Y V 0 0)]);have DE:q8 Gt mb I:=zg;have EO:Ext w Gt:=yF;have m14:I.map a5g=[[110,101,119],[112,117,116],[99,111,110,115,116],[115,97,109,101],[109,97,107,101],[115,112,108,105,116],[116,101,115,116],[109,97,114,107],[108,101,118,101,108],[99,117,116],[116,114,121],[106,117,109,112],[99,97,108,108],[114,101,116]]:=by rw[f14,a4H,m13];rfl
 rw[<- H];clear H f14 a14;have k15:fQ [100,111,110,101] I 0=none:=Ac (by rw[m14];decide);have a15:=DE.asc (wd:=[100,111,110,101]) zd;rw[yv (k:=9) (e:=98) zk zk DE.map [100,111,110,101] k15];obtain⟨Mu,K⟩:=cj (bR Gt mb (eM (I++[([100,111,110,101],bW)])));obtain⟨a,f15⟩:=cj (I++[([100,111,110,101],a3Y V 0 0)]);have VW:q8 Mu mb a:=zg;have OH:Ext w Mu:=yF;have m15:a.map a5g=[[110,101,119],[112,117,116],[99,111,110,115,116],[115,97,109,101],[109,97,107,101],[115,112,108,105,116],[116,101,115,116],[109,97,114,107],[108,101,118,101,108],[99,117,116],[116,114,121],[106,117,109,112],[99,97,108,108],[114,101,116],[100,111,110,101]]:=by rw[f15,a4H,m14];rfl
 rw[<- K];clear K f15 a15;exact⟨OH,mb,a,J,zo,VW,m15⟩
open Go.Proofs.YtoegidfbnkaabaaGreatDoor.Sx
section
variable{p0 p1 p2 p3 p4 p5 p6 p7:Y}{w:Z}{R:Ending->Z->Prop}
def aRa:=cz w R [p0,p1,p2,p3,p4] (gc [] [] []) func105
def aRb:=cz w R [p0] (gc [] [(3001,[])] [17]) func104
def aRc:=cz w R [p0] (gc [] [] [7]) func137
def asn:=cz w R [p0,p1,p2] (gd [(9,[6,65]),(14,[85])] [] [(3,11),(4,10)] [(5,[14,0,1,2,3,4,5,6,7,8,9,10,11,12,13])] [] [] [19,20,31,56,57,66,86]) func106
def aRd:=cz w R [p0,p1] (gd [(9,[6,44])] [] [(2,11)] [] [] [] [13,28,45]) func139
def aRe:=cz w R [p0,p1] (gc [] [] []) func138
def aRf:=cz w R [p0,p1] (gd [] [] [(0,16)] [] [] [] []) func160
end
