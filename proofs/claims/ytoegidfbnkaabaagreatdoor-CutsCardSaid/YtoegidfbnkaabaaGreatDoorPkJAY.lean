/- A part of one proof (KV15, KV16, KV17, BO1, VT1, ShX3). -/
import Derived.Test.YtoegidfbnkaabaaGreatDoorPkJAX
import Derived.Lib.SlBytesConst
set_option linter.all false
set_option maxRecDepth 100000
set_option maxHeartbeats 8000000
open Option renaming some → O, none → V
open Go renaming Value → Y, World → Z
open Bool renaming true → A, false → G
open Go.Obj renaming cells → ae
open Go.Ending renaming returned → ah
open Go.Value renaming nilIface → ai, iface → aj, tuple → ak, pointer → aq
open Go.Calls renaming mono → aZJ
open List renaming getElem?_eq_getElem → aZM, mem_cons → aZU, not_mem_nil → aZ2, range → aZ9, replicate → a0m, getElem?_eq_some_iff → a0r, map_append → a0F
open Option.some renaming inj → aZN
open Go.Value renaming slice → aZT
open Option renaming map_eq_some_iff → aZ7
open Go.World renaming ownsRow_nil → aZ8
open Go.Result renaming andThen → a0x
open Prod renaming fst → a0X
open Nat renaming not_lt_zero → a1C
open Go.Oper renaming upon_value → a1V
open Go.Proofs.Tryz renaming prog → a9J
open Go.Proofs.Tryz
namespace Go.Proofs.YtoegidfbnkaabaaGreatDoor
open P
open Go.RowKit Sx
variable{B fm b c cb d f g i j m mb n o pb pc told wb:Nat}{D:Nat->Prop}{K:Y->Prop}{X:Y->Z->Prop}{av buf tv v:Y}{out s wd:Bs}{dK:List Pd}{r:Except jB (Bool×Vm)}{iB:Array Y}{w w':Z}{xs:List Y}{y:Operand}{ρ:Nat->Nat}
def aNO{P:Program}{x:Operand}{t:TypeId}(h:zv P t=A){a:Nat}{cb:Array Y}{c tb:TypeId}(d:w.heap[a]?=aM iB c)(e:w.heap[b]?=aM cb tb) :
 RD P (bo .neq t x y (pp a) (pp b)) w K X=K (.bool (!decide (a=b))):=gU (by simp [bo,eqGuard,binOp,Sem.run_bind,aaN h d e])
section
variable{D:Nat->Prop}{ρ:Nat->Nat}{e:Aq}{av tv:Y}{di:List Y}{w w':Z}{m:Vm}
def aNP(h:fZ D ρ e av tv di w m)(hD:∀ b,w.heap.size<=b->D b)(hC:xS w e.cb pb fm told dK)(j:∀ p∈dK,∀ c∈p.clauses,yL c){x:Fm}{i:P.In}(f:Au w g o i)(a:K6 m x i)(k:i.word≠MN)
 (hr:uR dK d i m=O r) :
  Calls a9J 207 #[pp e.vb,pq g o] w (EPost D w (rA D ρ m.n e.vb e.cb e.fm) r):=by
 have hk:=a.ok.kn;simp only[aZU,aZ2,or_false] at hk;rcases hk with hk | hk | hk | hk | hk | hk | hk | hk | hk | hk | hk | hk | hk | hk | hk
 .exact Yh h hD f a (.inl hk) hr
 .exact Yh h hD f a zg hr
 .exact afx h hD f a (.inl hk) hr
 .exact afx h hD f a zg hr
 .exact aNL h hD f a hk hr
 .exact afx h hD f a zg hr
 .exact aNK h hD f a hk hr
 .exact Yh h hD f a zg hr
 .exact Yh h hD f a zg hr
 .exact afE h hD f a zg hr
 .exact afE h hD f a (.inl hk) hr
 .exact afE h hD f a zg hr
 .exact apE h hD f a (.inl hk) hC j hr
 .exact apE h hD f a (.inr hk) hC j hr
 .exact absurd hk k
end
section
variable{D:Nat->Prop}{ρ:Nat->Nat}{vb cb fm:Nat}{w w':Z}{m:Vm}
def P.aNQ{m m':Vm}{l:List Co}{args:List Sl}(h:m.enter l args f pc n=O m'):m'.n=m.n:=by
 cases l with
 | nil=>cases h
 | cons c l=>have:=(aZN h).symm;grind
def P.apF{m:Vm}{p:Bool×Vm}(h:m.back=O p):p.2.n=m.n:=by
 unfold Vm.back at h;split at h
 .grind
 .split at h
  .grind
  .split at h
   .grind
   .rename_i m' he;have:=(aZN h).symm;subst this;exact(P.aNQ he).trans J
def aNR(h:Bm D ρ vb cb fm w m)(hD:∀ b,w.heap.size<=b->D b)(hC:xS w cb pb fm told dK)(rX:∀ p∈dK,∀ c∈p.clauses,yL c)(Nk:B<=800000000)
  (l:gA B m) (hr:ML dK d f m=O r) :
  Calls a9J 205 #[pp vb] w (EPost D w (rA D ρ m.n vb cb fm) r):=by
 suffices H:∀ R:Ending->Z->Prop,(∀ E w',EPost D w (rA D ρ m.n vb cb fm) r E w'->R E w')->Calls a9J 205 #[pp vb] w R from H _ fun _ _ h=>h;intro R F;refine aL6 ?_;obtain⟨φ,ψ,av,tv,di,hx⟩:=h;have vU:∀ {m:Vm},gA B m->∀ a∈m.bw,a.mark<=m.sr.tr.length/\(∀ c∈a.others,c.slots<=64)/\a.args.length<=60:=fun l a ha=>by
  obtain⟨i,hi,rfl⟩:=List.getElem_of_mem ha;have PS:=aZM hi;have:=l.ag i _ PS;exact⟨l.marks i _ PS,(by grind [yL.sl,WG.others]),this.qg⟩
 have hlen:∀ {m:Vm},gA B m->m.sr.tr.length<=800000000/\m.bw.length+m.sr.fuel<=800000000/\m.sr.tr.length+m.sr.fuel<=800000000:=fun l=>by
  have o:_+_<=B:=l.cU;have h2:=l.nh;omega
 have aXf:∀ (ρ0:Nat->Nat) (m0:Vm) (w0:Z),eg ρ m.n ρ0 m0.n->Bm D ρ0 vb cb fm w0 m0->dc D w w0->gA B m0->yJ dK d f m0=O r->True:=yF;refine⟨fun _ w1=>∃ (y:Nat->Nat) (m1:Vm),eg ρ m.n y m1.n/\Bm D y vb cb fm w1 m1/\dc D w w1/\gA B m1/\yJ dK d f m1=O r,?_,?_⟩
 .have c0:=hx.cell;have l0:=bg c0;have aNS:=l.pc;unfold ML at hr;refine⟨fun s w1=>∃ (b:Bool) (y:Nat->Nat) (m1:Vm),s 13 = .bool (!b)/\eg ρ m.n y m1.n/\Bm D y vb cb fm w1 m1/\dc D w w1/\gA B m1/\(if b then yJ dK d f m1=O r else r = .ok (G,m1)),?_,?_⟩
  .by_cases I:0<m.pc
   .rw[zip I] at hr;have yP:(m.pc:Int) > 0:=zo;refine du @c0 yP ?_;cases t:m.back with
    | none=>rw[t] at hr;cases hr
    | some q=>
    rw[t] at hr;refine aZJ (ao6 hx hD (vU l) zg zg t) ?_;rintro E w1 ⟨T,rfl,o⟩;obtain⟨b,m1⟩:=q;have hn:=P.apF t;simp only at hn;have hu:eg ρ m.n ρ m1.n:=⟨zo,zg⟩;cases b with
    | false=>
     refine bE ?_;exact⟨G,ρ,m1,J,hu,o,T,l.back t,zg⟩
    | true=>
     refine bE ?_;exact⟨A,ρ,m1,J,hu,o,T,l.back t,zg⟩
   .rw[bZ I] at hr;have yP:¬ (m.pc:Int) > 0:=zo;refine du @c0 yP ?_;exact⟨A,ρ,m,J,eg.refl _ _,⟨_,_,_,_,_,hx⟩,yF,l,zg⟩
  .rintro s w1 ⟨b,y,m1,IY,uk,o,T,tL,K⟩ d1;clear d1;cases b with
   | false=>
    refine cH IY ?_;have K:r = .ok (G,m1):=zg;subst K;exact F _ _ ⟨T,J,y,uk,o⟩
   | true=>
    refine cH IY ?_;exact yF
 .rintro s w1 ⟨y,m1,uk,o,T,tL,pR⟩ d1;clear d1 hx hr l;refine⟨fun n z w2=>∃ (vh:Nat->Nat) (m2:Vm),eg ρ m.n vh m2.n/\Bm D vh vb cb fm w2 m2/\dc D w w2/\gA B m2/\yJ dK d n m2=O r,yF,?_⟩;intro n z dd w2 hI;clear dd;refine toPr ?_;obtain⟨vh,m2,Fe,⟨C,ψ2,U,W,PL,q9⟩,dS,j,e⟩:=hI;clear uk o T tL pR;cases n with
  | zero=>simp [yJ] at e
  | succ n=>
  have s2:=dS.size;have hD2:∀ b,w2.heap.size<=b->D b:=yH;obtain⟨AZ,pY,gn⟩:=hlen j;refine bE ?_;refine aZJ (MU q9.less Cx zo) ?_;rintro E w3 ⟨eD,X⟩;rw[yJ] at e;by_cases h0:m2.sr.fuel=0
  .rw[zip h0] at e X;have e:=(aZN e).symm;subst e X;exact F _ _ ⟨dS.trans (eD.up fun _ h=>h.1),J⟩
  rw[bZ h0] at e X;obtain⟨rfl,X⟩:=X;obtain⟨BZ,eD⟩:=q9.store X eD;have GI:dc D w w3:=yF;have s3:=eD.size;obtain⟨x,xd,hfm⟩:=BZ.cur;have xd:m2.fs[m2.f]?=O x:=xd;rw[xd] at e;simp only at e;obtain⟨⟨CB,L,uW,O9⟩,aNU,-⟩:=hfm;have L:w3.heap[C m2.f]?=aM #[pp CB,cR (ψ2 m2.f) x.slots.length x.slots.length,zi (x.entry:Nat),Bl C x.back,zi (x.pc:Nat)] 203:=L;have Yj:=j.fr _ _ xd;have aNS:=j.pc;obtain⟨insv,gS,wK⟩:=id uW;obtain⟨ga,gc,yX⟩:∃ a c,insv = .slice a x.code.ins.length c:=by
   grind
  have c3:w3.heap[vb]?=aM #[pp cb,W,zi (m2.sr.dec.fuel:Nat),pp (C m2.f),zi (m2.pc:Nat),U] 116:=BZ.cell;have l3:=bg c3;have lf3:=bg L;have XC:=bg gS;subst yX;have ad6:Ext w3 w3.drew:=yF;refine bE ?_;refine⟨fun _ w'=>w'=w3.drew/\m2.pc<x.code.ins.length,?_,?_⟩
  .by_cases I:m2.pc<x.code.ins.length
   .have Yk:¬ (m2.pc:Int) ≥ (x.code.ins.length:Int):=zo;refine dH @c3 L gS Yk ?_;omega
   .have Yk:(m2.pc:Int) ≥ (x.code.ins.length:Int):=zo;rw[List.getElem?_eq_none zo] at e;cases e;refine dH @c3 L gS Yk ?_;exact F _ _ ⟨yF,J⟩
  rintro z2 w4 ⟨rfl,I⟩ d4;clear d4;have aNV:Ext w3 w3.drew.drew:=ad6.drew;rw[aZM I] at e;obtain⟨i,NL⟩:=cd (x.code.ins[m2.pc]);rw[<- NL] at e;have hiq:x.code.ins[m2.pc]?=O i:=zg;rcases wK with⟨o,-⟩| ⟨g,cap,cur,o,gL,AO,jI,aNX⟩
  .rw[o] at I;simp at I
  simp only[Value.slice.injEq,true_and] at o;obtain⟨rfl,rfl⟩:=o;have Iw:=aNX _ _ hiq;have yP:(m2.pc:Int)<(x.code.ins.length:Int):=zo;have ept:(m2.pc:Int).toNat=m2.pc:=zo;simp only at e;obtain⟨m3,PU⟩:∃ m3:Vm,m3={ m2 with sr:=m2.sr.dec,pc:=m2.pc+1 }:=⟨_,J⟩;obtain⟨k,nZ⟩:=cd (bO w3.drew.drew vb (ae #[pp cb,W,zi (m2.sr.dec.fuel:Nat),pp (C m2.f),zi ((m2.pc+1:Nat):Int),U] 116));obtain⟨p8,ud⟩:=(BZ.ext aNV).own (w':=k) (f':=m2.f) (pc':=m2.pc+1) (yF) (yH) j.f;have p8:fZ D vh ⟨C,ψ2,vb,cb,fm⟩ U W PL k m3:=zg;have Bg:dc D w3 k:=yF;have G5:dc D w k:=yF;have Yl:=dc.toI Bg;have s5:=Bg.size;have c5:=p8.cell;have T6:=Yl _ _ _ (yM) L;have M:=Yl _ _ _ (yM) AO;have lf5:=bg T6;have lg5:=bg M;have N:=(hC.fr G5).cell;have aXk:=bg N;have aNY:Au k g (m2.pc*4) i:=⟨cur,M,zo,Iw.bH Yl⟩;have Mu:=Iw.word;have Q:tV x.code.slots i:=by rw[NL];exact Yj.code.ins _ (List.getElem_mem _)
  have aXl:=Yj.code.len;have hB1:1<=B:=by have:=j.nh;omega
  have AY:gA (B-1) m3:=by
   have hf:m2.sr.dec.fuel=m2.sr.fuel-1:=rfl;have hp:m2.sr.tr.length+m2.sr.fuel<=B:=j.cU;have yE:=j.nh;rw[PU];exact⟨j.f,j.fr,j.ag,j.marks,j.mono,by show m2.sr.tr.length+(m2.sr.fuel-1)<=B-1;omega,zg,zg,j.vW,j.xA⟩
  have aXm:gA B m3:=(by grind [gA.up]);have apJ:m3.fs[m3.f]?=O x:=zg;have aXn:m3.n=m2.n:=zg;rw[<- PU] at e;refine dH @c3 L gS @ept ?_;have e1:bO w3.drew.drew vb (ae #[pp cb,W,zi (m2.sr.dec.fuel:Nat),pp (C m2.f),zi ((m2.pc:Int)+1),U] 116)=k:=nZ.symm;have e2:bO w3.drew.drew vb (ae (oF #[pp cb,W,zi (m2.sr.dec.fuel:Nat),pp (C m2.f),zi (m2.pc:Nat),U] 4 (Value.int .i64 ((m2.pc:Int)+1)).cells.toList) 116 (0,0))=k:=nZ.symm;try rw[e1]
  try rw[e2]
  clear e1 e2 nZ;refine du M Mu ?_;by_cases H5:i.word=[100,111,110,101]
  .rw[zip H5] at e;have aNZ:Ext k k.drew:=yF;have S:k.heap[vb]?=aM #[pp cb,W,zi (m3.sr.fuel:Nat),pp (C m2.f),zi (m3.pc:Nat),U] 116:=by
    exact yH
   have l5:=bg S;refine cH H5 ?_;refine⟨fun z w'=>w'=k.drew/\z 86 = .bool (!x.ask),?_,?_⟩
   .cases T7:x.ask with
    | true=>
     have K:=aNU.1 T7;have apK:=O9 T7;simp only at apK;subst apK;rw[K] at T6;simp (disch:=first|assumption|omega|simp only[zS]<;>omega|decide) only[zB,simprocAttr,kJ,S,T6,N,Bl];have apL:k.drew.heap[CB]?=_:=Yl _ _ _ (yM) gS;rw[aNO zk apL apL];simp;rfl
    | false=>
     obtain⟨b,K⟩:∃ b,x.back=O b:=by
      cases K:x.back with
      | none=>grind
      | some b=>grind
     rw[K] at T6;simp (disch:=first|assumption|omega|simp only[zS]<;>omega|decide) only[zB,simprocAttr,kJ,S,T6,N,Bl]
   .rintro z3 w6 ⟨rfl,Ym⟩ d6;clear d6;cases T7:x.ask with
    | true=>
     rw[T7] at Ym e;rw[zip rfl] at e;cases e;refine cH Ym ?_;exact F _ _ ⟨yF,J,vh,zg,_,_,_,_,_,p8.ext aNZ⟩
    | false=>
     rw[T7] at Ym e;rw[bZ zd] at e;cases e;refine cH Ym ?_;exact F _ _ ⟨yF,J⟩
  .rw[bZ H5] at e;have hH:K6 m3 x i:=⟨apJ,Q,Yj.sl,Yj.tm,by have h9:m3.sr.tr.length+m3.sr.fuel<=B-1:=AY.cU;show m3.sr.tr.length+m3.sr.fuel<=_;omega,zg,Q.small⟩;have Nt:=p8.st.ok;have hD5:∀ b,k.heap.size<=b->D b:=yH;refine cH H5 ?_;rw[ept,Nat.zero_add];refine⟨fun z w6=>∃ (ok:Bool) (u:Nat->Nat) (m6:Vm),z 96 = .bool (!ok)/\eg ρ m.n u m6.n/\Bm D u vb cb fm w6 m6/\dc D w w6/\gA B m6/\(if ok then yJ dK d n m6=O r else r = .ok (G,m6)),?_,?_⟩
   .cases t:uR dK d i m3 with
    | none=>rw[t] at e;cases e
    | some q=>
    rw[t] at e;have y5:=aNP p8 hD5 (hC.fr G5) rX aNY hH H5 t;refine aZJ y5 ?_;rintro E w6 ⟨j5,mQ⟩;have Yn:=G5.trans j5;cases q with
    | error te=>
     cases e;have mQ:E=gR te:=mQ;subst mQ;cases te<;>exact F _ _ ⟨Yn,J⟩
    | ok q=>
     obtain⟨b6,m6⟩:=q;obtain⟨rfl,u,XZ,Qm⟩:=mQ;have aN0:eg ρ m.n u m6.n:=(by grind [eg.trans]);have po:gA B m6:=by
      have h9:=(amd AY Nt apJ Q rX t).1;grind
     have e:(if b6=A then yJ dK d n m6 else match m6.back with
      | none=>V
      | some (G,m)=>O (.ok (G,m))
      | some (A,m)=>yJ dK d n m)=O r:=e
     cases b6 with
     | true=>
      refine bE ?_;exact⟨A,u,m6,zg,aN0,Qm,Yn,po,zg⟩
     | false=>
      simp only[Bool.false_eq_true,if_false] at e;cases Bj:m6.back with
      | none=>rw[Bj] at e;cases e
      | some q7=>
      rw[Bj] at e;obtain⟨φ6,ψ6,av6,tv6,aXr,vk⟩:=Qm;have s6:=j5.size;obtain⟨aXs,aXt,aXu⟩:=hlen po;refine bE ?_;refine aZJ (ao6 vk yH (vU po) zg zg Bj) ?_;rintro E w7 ⟨BX,rfl,h7⟩;obtain⟨b7,m7⟩:=q7;have hn7:m7.n=m6.n:=P.apF Bj;have Xu:eg ρ m.n u m7.n:=zg;have hg7:gA B m7:=po.back Bj;cases b7 with
      | true=>
       refine bE ?_;exact⟨A,u,m7,zg,Xu,h7,yF,hg7,zg⟩
      | false=>
       refine bE ?_;exact⟨G,u,m7,zg,Xu,h7,yF,hg7,zg⟩
   .rintro z6 w6 ⟨ok,u,m6,h96,XZ,Qm,Yn,po,XU⟩ d6;clear d6;cases ok with
    | true=>
     refine cH h96 ?_;exact yF
    | false=>
     refine cH h96 ?_;have XU:r = .ok (G,m6):=zg;subst XU;exact F _ _ ⟨Yn,J,u,XZ,Qm⟩
end
def aN3{ask:Co}(hC:xS w cb pb fm told dK)(r:Fj w fm ask)(M:ask.slots<=64) :
  Calls a9J 35 #[pp cb] w fun e w'=>Ext w w'/\∃ q,e = ah (pp q)/\w.heap.size<=q/\∀ (D:Nat->Prop) (ρ:Nat->Nat),(∀ b,w.heap.size<=b->D b)->Bm D ρ q cb fm w' (Iy ask):=by
 obtain⟨s,-⟩:=hC;obtain⟨insv,B,N⟩:=id r;have C:Ext w w.drew:=yF;have E:ask.slots<=1000000:=zo;refine aLZ ?_;refine⟨fun w'=>Ext w w',C,?_⟩;rw[ju];refine cO (pq cb 1) (fun w' t=>eR) ?_;refine cO (pp fm) (fun w' t=>by have d:=t.ext _ _ s;have:=bg d;exact fa d) ?_;refine du s B ?_;obtain⟨wr,F⟩:=cd (w.drew.alloc (ae (madeCells #[ai] ask.slots) 20 (0,0)));have f:Ext w wr:=yF;have sr:wr.heap.size=w.heap.size+1:=yH;have P:wr.heap[w.heap.size]?=aM (madeCells #[ai] ask.slots) 20:=yH;rw[<- F];refine⟨f,?_⟩;obtain⟨wf,H⟩:=cd (wr.alloc (ae #[pp fm,cR w.heap.size ask.slots ask.slots,zi 0,aq V,zi 0] 203));have I:Ext wr wf:=yF;have sf:wf.heap.size=w.heap.size+2:=yH;have h:wf.heap[w.heap.size+1]?=aM #[pp fm,cR w.heap.size ask.slots ask.slots,zi 0,aq V,zi 0] 203:=yH;obtain⟨k,l⟩:=cd (wf.alloc (ae #[pp cb,bV,zi 0,pp (w.heap.size+1),zi 0,bV] 116));have m:Ext wf k:=yF;have n:k.heap[w.heap.size+2]?=aM #[pp cb,bV,zi 0,pp (w.heap.size+1),zi 0,bV] 116:=yH;rw[<- H,<- l];have u:Ext w k:=yF;refine⟨yF,u,w.heap.size+2,J,zo,fun D ρ hD=>?_⟩;refine⟨fun _=>w.heap.size+1,fun _=>w.heap.size,bV,bV,[],?_⟩;refine⟨⟨⟨fun i j a=>absurd a (a1C _),fun i a=>absurd a (a1C _)⟩,fun i a=>absurd a (a1C _),n,aZ8 _ _ _ _,fun g o=>(by cases o),yH,List.nodup_nil,(fun p K=>by cases K),trivial⟩,
  by show 0<1;omega,fun i x hx=>?_,fun i x b hx Q=>?_,yH,fun i j a c _=>?_,aZ8 _ _ _ _,J,fun g o=>(by cases o)⟩
 .have a:i=0:=by
   have:=(a0r.1 hx).1;have d:i<1:=this;omega
  subst a;have hx:x=⟨ask,a0m ask.slots .nil,0,V,0,A⟩:=(aZN hx).symm;subst hx;have L:(a0m ask.slots Sl.nil).length=ask.slots:=List.length_replicate;refine⟨⟨fm,?_,r.bH (eH.dZ u),yH⟩,zg,madeCells #[ai] ask.slots,yH,by grind [size_madeCells],fun j y c=>?_⟩
  .simp only[L];exact m.ext _ _ h
  .have z:j<ask.slots:=zg;have c:(a0m ask.slots Sl.nil)[j]?=O y:=c;rw[List.getElem?_replicate,zip z] at c;cases c;refine⟨ai,?_,J⟩;have:=aor ai ask.slots j z;grind
 .have a:i=0:=by
   have:=(a0r.1 hx).1;have d:i<1:=this;omega
  subst a;have hx:x=⟨ask,a0m ask.slots .nil,0,V,0,A⟩:=(aZN hx).symm;grind
 .have R:i<1:=a;have d:j<1:=c;omega
section
variable{D:Nat->Prop}{ρ:Nat->Nat}{vb cb fm:Nat}{w w':Z}{m:Vm}
def aN9(h:Bm D ρ vb cb fm w m){pb told:Nat}{dK:List Pd}(hC:xS w cb pb fm told dK)(ht:∀ x,m.fs[m.f]?=O x->told<=x.slots.length)(BV:told<=100000) :
  Calls a9J 36 #[pp vb] w fun e w'=>Ext w w'/\match m.iK (aZ9 told) with
   | .ok l=>∃ v us,e = ah v/\fK (fun _=>True) w' 89 v us/\py ρ m.n w' us l
   | .error t=>e=gR t:=by
 obtain⟨φ,ψ,av,tv,di,hx⟩:=h;obtain⟨x,q⟩:∃ x,m.fs[m.f]?=O x:=⟨_,aZM hx.fl⟩;have ht:=ht x q;suffices H:∀ R:Ending->Z->Prop,(∀ c w',Ext w w'->(match m.iK (aZ9 told) with
   | .ok l=>∃ v us,c = ah v/\fK (fun _=>True) w' 89 v us/\py ρ m.n w' us l
   | .error t=>c=gR t)->R c w')->Calls a9J 36 #[aq (O ⟨vb,0,V⟩)] w R from H _ yF
 intro R K;have c0:w.heap[vb]?=aM #[pp cb,tv,zi (m.sr.fuel:Nat),pp (φ m.f),zi (m.pc:Nat),av] 116:=hx.cell;obtain⟨⟨W,r,-,-⟩,-,X,i,Fo,Fp⟩:=hx.fs _ _ q;have r:w.heap[φ m.f]?=aM #[pp W,cR (ψ m.f) x.slots.length x.slots.length,zi (x.entry:Nat),Bl φ x.back,zi (x.pc:Nat)] 203:=r;have i:w.heap[ψ m.f]?=aM X 20:=i;have oB:=hC.cell;have htc:(told:Int)<=(x.slots.length:Int):=zo;have L:∀ s,sliced (O ⟨ψ m.f,0,V⟩) 0 told x.slots.length s = cR (ψ m.f) told x.slots.length:=(by grind [sliced,Addr.add]);refine aL0 ?_;refine dH @c0 r oB L ?_;have dC:Ext w w.drew:=yF;refine⟨fun n z u=>∃ (j:Nat) (y:Y) (us:List Y) (d:List Tm),z 23=zi (j:Nat)/\z 2=y/\j<=told/\n=told-j/\Ext w u/\u.ownsRow w.heap.size 89 1 y j us/\us.length=j/\py ρ m.n w us d/\m.iK (aZ9 told)=P.CF d (m.iK ((aZ9 told).drop j)),
  ⟨_,0,bV,[],[],J,J,Nat.zero_le _,J,dC,aZ8 _ _ _ _,J,by unfold py iE;rfl,by rw[List.drop_zero];cases m.iK (aZ9 told)<;>rfl⟩,?_⟩
 intro n z dz u hI;clear dz;refine toPr ?_;obtain⟨j,y,us,d,o,B,hj,rfl,g,C,uh,M,p⟩:=hI;obtain⟨pa,pc,Fs⟩:=gV C;subst Fs;have sj:=g.size;by_cases hlt:j<told
 .have Cr:(j:Int)<(told:Int):=zo;have jW:(j:Int).toNat=j:=zo;have N:=g.ext _ _ i;have lrj:=bg N;obtain⟨E,v,q1,q2,q3,q4⟩:=hx.Qg q (k:=j) zo;have q1:w.heap[ψ m.f]?=aM E 20:=q1;rw[i] at q1;cases q1;have a:=P.afs (m:=m) (ks:=aZ9 told) (j:=j) (by simpa using hlt) p;simp only[List.getElem_range] at a;have hv:=q4.one;rcases hv with rfl | ⟨Q,S,rfl⟩;all_goals
   refine dH o B Cr (zA @jW (zA N (zA @q3 L))) ?_;refine aZJ (aoU _ (q4.bH (eH.dZ g) (eg.refl _ _))) ?_;rintro c w2 ⟨rfl,b⟩;cases F:P.vi (m.slot j) with
   | error t=>
    rw[F] at b a;have a:m.iK (aZ9 told) = .error t:=a;have b:c=gR t:=b;subst b;cases t<;>exact K _ _ g (by rw[a];rfl)
   | ok t=>
    rw[F] at b a;have a:m.iK (aZ9 told)=P.CF (d++[t]) (m.iK ((aZ9 told).drop (j+1))):=a;have b:c = ah _:=b;subst b;have I:=P.Yf F;rw[I] at q4;have q4:dM ρ m.n w _ t:=q4;first
     | (exfalso;obtain⟨_,_,h9⟩:=q4.iface;cases h9;done)
     | (simp (disch:=first|assumption|omega|simp only[zS]<;>omega|decide) only[zB,simprocAttr,kJ,o,B];have T:(w2.alloc (ae #[aj Q S] 89 (0,0))).ownsRow w.heap.size 89 1 (.slice pa j pc) j us:=jJ yH C;refine Pz T (sx J) J zo (by rw[size_alloc];omega) ?_;intro v' w' U jx Dx;obtain⟨CD,pc',IV⟩:=gV U;subst IV;simp (disch:=first|assumption|omega|simp only[zS]<;>omega|decide) only[zB,simprocAttr,kJ,o];exact⟨told-(j+1),zo,j+1,_,us++[aj Q S],d++[t],zg,zg,zo,J,afn yF T jx,U,zg,M.snoc q4,a⟩)
 .have fw:j=told:=zo;subst fw;rw[List.drop_of_length_le zs] at p;have p:m.iK (aZ9 j) = .ok d:=by grind [Vm.iK,P.CF]
  refine du o B ?_;exact K _ _ g (by rw[p];exact⟨_,us,J,TG C uh.symm,M.bH (qL.dZ g)⟩)
end
def P.apO(s:Vm)(f:Nat):∀ (ks:List Nat),Vm.iK { s with sr:={ s.sr with fuel:=f } } ks=Vm.iK s ks
 | []=>rfl
 | k::r=>by
  rw[P.afr,P.afr,P.apO s f r];rfl
structure VmQ(dK:List Pd)(told vb cb fm pb:Nat)(D:Nat->Prop)(ρ:Nat->Nat)(w:Z)(m:Vm):Prop where
 vm:Bm D ρ vb cb fm w m
 code:xS w cb pb fm told dK
def Qn(dK:List Pd)(told vb cb fm pb:Nat):Bi (vmE dK told) where
 T:=116
 pT:=111
 fN:=205
 fT:=36
 eb:=vb
 tf:=#[pp vb]
 tc:=#[]
 Mem D ρ w m:=VmQ dK told vb cb fm pb D ρ w m
 Good c m:=gA (c*1000000) { m with sr:={ m.sr with fuel:=0 } }/\jD told m/\∃ x,m.fs[m.f]?=O x/\x.ask=A
def fZ.aOc{e:Aq}{m:Vm}(h:fZ D ρ e av tv xs w m){C:Array Y}(a:w.heap[e.vb]?=aM C 116)(hk:GV e.vb w w')(c:w'.heap[e.vb]?=aM (kg C 1 (f:Int)) 116) :
  fZ D ρ e av tv xs w' { m with sr:={ m.sr with fuel:=f } }:=by
 have d:eH w w':=hk.toI (T:=116) (by grind [kT]) a;have i:av.ownBlock≠O e.vb:=(by grind [X1]);exact h.rest ⟨d,fun b cs g=>hk.1 b cs _ zg zo zo g⟩ (eg.refl _ _) (by grind [aeL,ar]) (h.st.aoK Cx hk a c) h.fl
theorem apP(dK:List Pd)(told vb cb fm pb:Nat)(rX:∀ p∈dK,∀ c∈p.clauses,yL c)(aOd:told<=100000):GW (Qn dK told vb cb fm pb) where
 st:=by
  rintro D ρ w s ⟨⟨φ,ψ,av,tv,di,h⟩,-⟩;exact⟨_,tv,Cx,h.st⟩
 ext:=by
  rintro D ρ w w' s ⟨⟨φ,ψ,av,tv,di,h⟩,h2⟩ hE;exact⟨⟨φ,ψ,av,tv,di,h.ext hE⟩,(by grind [eH.dZ,xS.bH,bB.ext])⟩
 fuel:=by
  rintro D ρ w w' s C f ⟨⟨φ,ψ,av,tv,di,h⟩,h2⟩ hc hk nO;have hI:eH w w':=hk.toI (T:=116) (by grind [kT]) hc;have hc:w.heap[vb]?=aM C 116:=hc;exact⟨⟨φ,ψ,av,tv,di,h.aOc hc hk nO⟩,h2.bH hI fun l hm=>hk.2 _ _ _ (fun e=>by
   have e:pb=vb:=e;rw[e,hc] at hm;cases hm) hm⟩
 aot:=fun s f=>rfl
 aet:=fun s f=>P.apO s f (aZ9 told)
 next:=by
  rintro D ρ w s c d f r ⟨h1,h2⟩ hD ⟨hg,hl,hq⟩ hc hr;have jx:gA (c*1000000+1000000) { s with sr:={ s.sr with fuel:=1000000 } }:=by
   have g1:s.sr.tr.length+0<=c*1000000:=hg.cU;have g2:s.bw.length+0<=c*1000000:=hg.nh;exact⟨hg.f,hg.fr,hg.ag,hg.marks,hg.mono,by show s.sr.tr.length+1000000<=_;omega,zg,hg.pc,hg.vW,hg.xA⟩
  have hr:ML dK d f { s with sr:={ s.sr with fuel:=1000000 } }=O r:=hr;refine(aNR h1 hD h2 rX zo jx hr).mono ?_;rintro e w' ⟨hE,hp⟩;refine⟨hE,?_⟩;cases r with
  | error t=>omega
  | ok p=>
   obtain⟨rfl,eG,hu,hm⟩:=hp;exact⟨J,eG,hm,h2.fr hE⟩
 Eo:=by
  rintro s c d f k ⟨hg,hl,hq⟩ hc-hr;have jx:gA (c*1000000+1000000) { s with sr:={ s.sr with fuel:=1000000 } }:=by
   have g1:s.sr.tr.length+0<=c*1000000:=hg.cU;have g2:s.bw.length+0<=c*1000000:=hg.nh;exact⟨hg.f,hg.fr,hg.ag,hg.marks,hg.mono,by show s.sr.tr.length+1000000<=_;omega,zg,hg.pc,hg.vW,hg.xA⟩
  have hr:ML dK d f { s with sr:={ s.sr with fuel:=1000000 } }=O (.ok (A,k)):=hr;obtain⟨h1,h2,h3,h4⟩:=aHc rX jx (show jD told { s with sr:={ s.sr with fuel:=1000000 } } from⟨hl.tr,hl.fr,hl.ag,⟨hl.sr.EU,hl.sr.ok⟩,hl.ask⟩) hr;refine⟨h3,fun f'=>⟨?_,⟨h2.tr,h2.fr,h2.ag,⟨h2.sr.EU,h2.sr.ok⟩,h2.ask⟩,h4 J⟩⟩;have g1:k.sr.tr.length+k.sr.fuel<=c*1000000+1000000:=h1.cU;have g2:k.bw.length+k.sr.fuel<=c*1000000+1000000:=h1.nh;exact⟨h1.f,h1.fr,h1.ag,h1.marks,h1.mono,by show k.sr.tr.length+0<=(c+1)*1000000;omega,by show k.bw.length+0<=(c+1)*1000000;omega,h1.pc,h1.vW,h1.xA⟩
 told:=by
  rintro D ρ w s ⟨h1,h2⟩ ⟨c,f,-,hl,x,hx,hk⟩;have hx:s.fs[s.f]?=O x:=hx;exact aN9 h1 h2 (fun y hy=>by rw[hx] at hy;cases hy;exact hl.ask _ _ hx hk) aOd
 aeu:=by
  rintro s c l ⟨hg,hl,x,hx,hk⟩ h;have hF:=hg.fr _ _ hx;exact WI (SI hx hF.tm h).1
 aev:=fun w=>by
  show(method (Tryz.prog.types.size+Made.depth) 111 (pp vb) "Next").run a9J w = .ok (205,pp vb) w
  kernel_rfl
 cN:=by show zb a9J 205=A;kernel_rfl
 cT:=by show zb a9J 36=A;kernel_rfl
def qp(w:Z)(wb:Nat)(out:Bs):Prop:=
 ∃ a buf,(a = aq V\/a=pp wb)/\w.heap[wb]?=aM #[a,buf] 100/\w.ownsRow (wb+1) 5 1 buf out.length (tX out)
def aOe:liesAt a9J Tryz.prog.depth 100 (2 / Tryz.prog.cellsOf 100) 0 100 1=true:=zk
def aOf(h:w.heap[b]?=aM #[pp b,buf] 100) :
  Calls a9J 82 #[pp b] w fun e w'=>e = ah (ak #[])/\w'=w:=by
 obtain⟨j,hj,_⟩:=aZ7.1 W8;have h0:w.cell? ⟨b,0,V⟩=O (pp b):=by grind [World.cell?]
 go_enter func82,ntmps82
 go_wp2
 rw[Lib.run_neq_ptr_same w _ underlying97 hj]
 go_wp2
 go_end0
 grind
def aOg(h:w.heap[b]?=aM #[aq V,buf] 100) :
  Calls a9J 82 #[pp b] w fun e w'=>e = ah (ak #[])/\w'=w.setCell ⟨b,0,V⟩ (pp b):=by
 obtain⟨j,hj,Pl⟩:=aZ7.1 W8;have h0:w.cell? ⟨b,0,V⟩=O (aq V):=by grind [World.cell?]
 have HT:w.frozen? ⟨b,0,V⟩=false:=jH h 0;have rZ:w.shape? b=O (100,2):=by grind [World.shape?]
 go_enter func82,ntmps82
 go_wp2
 rw[Lib.run_to_unsafe w ⟨b,0,V⟩ underlying97 underlying155 hj zo rZ (Nat.zero_lt_succ 1)];simp only[a0x];rw[a1V]
 go_wp2
 rw[run_callFunc_extern func110 zk zk zk (e:=Extern.AbiNoEscape.same) zk];rw[Lib.run_noEscape];simp only[a0x];rw[a1V]
 go_wp2
 rw[Lib.run_from_unsafe w ⟨b,0,V⟩ underlying155 underlying97 hj rZ aOe];simp only[a0x];rw[a1V]
 go_wp2
 go_end0
 grind
def apQ(h:qp w wb out) :
  Calls a9J 82 #[pp wb] w fun e w'=>e = ah (ak #[])/\jE wb w w'/\w'.heap.size=w.heap.size/\∃ buf,
   w'.heap[wb]?=aM #[pp wb,buf] 100/\w'.ownsRow (wb+1) 5 1 buf out.length (tX out):=by
 obtain⟨d,buf,b,a,c⟩:=h;rcases b with rfl | rfl
 .refine(aOg a).mono ?_;rintro e w' ⟨rfl,rfl⟩;rw[uD a];refine⟨J,(bB.refl _ _).bO (.inl fun _=>.inl J),yH,buf,yH,(by grind [JC])⟩
 .refine(aOf a).mono ?_;rintro e w' ⟨rfl,rfl⟩;exact⟨J,bB.refl _ _,J,buf,a,c⟩
def apR(h:qp w wb out)(s:Bs)(f:out.length+s.length<=1000000000) :
  Calls a9J 44 #[pp wb,aT s] w fun e w'=>(∃ v,e = ah v)/\qp w' wb (out++s)/\jE wb w w':=by
 refine amX ?_;refine(apQ h).mono ?_;rintro e w1 ⟨rfl,g,s1,buf,b,a⟩;have i:=bg b;refine cH b ?_;refine aiD (e:=5) zk a s f zo ?_;intro v' w2 o2 c hv;have d:w2.heap[wb]?=aM #[pp wb,buf] 100:=by
  rw[c.block wb i (fun e=>by have:=(a.lt wb e.symm).1;omega)];omega
 have j:=bg d;obtain⟨l,rc,rfl⟩:=gV o2;refine cH d ?_;have k:jE wb w1 w2:=jE.W9 a c;refine⟨⟨_,J⟩,⟨_,_,.inr J,pS J j,JC ?_ zo⟩,(g.trans k).bO (.inl fun _=>.inl J)⟩;grind
def aOh(h:qp w wb out)(c:UInt8)(j:out.length+1<=1000000000) :
  Gy (pp wb) (.int .u8 c.toNat) w fun e w'=>(∃ v,e = ah v)/\qp w' wb (out++[c])/\jE wb w w':=by
 obtain⟨i,k,d⟩:=aZ7.1 am1;simp only[Prod.mk.injEq] at d;obtain⟨l,n,o⟩:=d;unfold Gy;refine aZJ (apQ h) ?_;rintro e w1 ⟨rfl,p,s1,buf,f,a⟩;have s:=bg f;refine du @Gy.eq_1 f ?_;refine Sx.C3 (m:=1) (t:=98) (e:=5) zk k l n o J zd (a.alloc _) (blk_alloc_new _ _) J (fun u hu=>?_) j zd (by rw[size_alloc];omega) ?_
 .simp only[aZU,aZ2,or_false] at hu;subst hu;rfl
 intro v' w2 o2 b hv;have s2:=b.size;rw[size_alloc] at s2;have g:w2.heap[wb]?=aM #[pp wb,buf] 100:=by
  rw[b.block wb (yH) (fun e=>by have:=(a.lt wb e.symm).1;omega)];exact yH
 have q:=bg g;obtain⟨x,rc,rfl⟩:=gV o2;refine du @Gy.eq_1 g ?_;have r:jE wb w1 w2:=((bB.refl _ _).alloc _).trans (jE.W9 (a.alloc _) b);refine⟨⟨_,J⟩,⟨_,_,.inr J,pS J q,JC ?_ zo⟩,(p.trans r).bO (.inl fun _=>.inl J)⟩;grind
def aOi(h:qp w wb out)(c:UInt8)(a:out.length+1<=1000000000) :
  Calls a9J 95 #[pp wb,.int .u8 c.toNat] w fun e w'=>(∃ v,e = ah v)/\qp w' wb (out++[c])/\jE wb w w':=
 amY (aOh h c a)
def aOj(h:qp w wb out)(h0:out≠[]) :
  Calls a9J 33 #[pp wb] w fun e w'=>e = ah (aT out)/\jE wb w w':=by
 obtain⟨ad,buf,Gz,hb,ho⟩:=h;have qz:out.length≠0:=zg;obtain⟨g,cap,cur,rfl,Zv,hg,uz,CT,jI,Zw⟩:∃ g cap cur,buf = cR g out.length cap/\wb+1<=g/\w.heap[g]?=aM cur 5/\out.length<=cap/\cap<=maxLen/\cur.size=cap*1/\cur.toList.take (out.length*1)=tX out:=by
  rcases ho.2 with⟨_,hz⟩| ⟨g,cap,cur,hv,r⟩
  .exact yH
  .exact⟨g,cap,cur,hv,r⟩
 have ny:w.drew.heap[wb]?=aM #[ad,cR g out.length cap] 100:=hb;have c1:w.drew.cell? ⟨wb,1,V⟩=O (cR g out.length cap):=by grind [World.cell?]
 have hSD:(Builtin.unsafeSliceData_ #[98] 181 #[cR g out.length cap]).run a9J w.drew = .ok (pp g) w.drew:=
  (by grind [Lib.run_unsafeSliceData_row])
 have hUS:(Builtin.unsafeString_ #[181,3] 9 #[pp g,zi out.length]).run a9J w.drew = .ok (aT out) (w.drew.freeze ⟨g,0,V⟩ out.length):=by
  refine Lib.run_unsafeString_row w.drew 181 3 9 5 underlying181 am4 g cur.size (by have jx:w.drew.heap[g]?=aM cur 5:=hg;grind [World.shape?]) out h0 zo (by grind [maxLen]) ?_;intro j x hx;have:=ho.cells (g:=g) J j (.int .u8 x.toNat) zg;exact this
 go_enter func33,ntmps33
 go_wp2
 go_region
 all_goals (go_wp2;go_ret;exact⟨J,(bB.drew (bB.refl _ _)).trans (am5 zo hg)⟩)
def CH{C:Array Y}(hm:C.size=m)(a:g=w.heap.size){K:Y->Z->Prop}:WR a9J (convert 98 98 (cR g n c)) (w.alloc (ae C 5 (0,0))) K X=K (cR g n c) (w.alloc (ae C 5 (m,m+1))):=by
 subst a hm;unfold WR;rw[Lib.run_convert_bytes_const w 98 5 C n c zk zk]
def IZ(w:Z)(mb:Nat)(v:Y)(sh:Bs):Prop:=(sh=[]/\v = bV)\/∃ b z,sh≠[]/\v = cR b sh.length sh.length/\b≠mb/\w.heap[b]?=O (ae (tX sh).toArray 5 z)
theorem IZ.bH{sh:Bs}(h:IZ w mb v sh)(hk:∀ b o,b≠mb->w.heap[b]?=O o->w'.heap[b]?=O o):IZ w' mb v sh:=by
 rcases h with h | ⟨b,z,a,c,d,e⟩
 .exact .inl h
 .exact .inr yH
structure qq(w:Z)(mb:Nat)(l:List (Bs×Y)):Prop where
 map:w.heap[mb]?=O (eI l)
 row:∀ p∈l,∃ sh,mB p.1=O sh/\IZ w mb p.2 sh
theorem qq.step{l:List (Bs×Y)}(h:qq w mb l){sh:Bs}(c:mB wd=O sh)(f:sh≠[]) :
  qq (bO (w.alloc (ae (tX sh).toArray 5 (sh.length,sh.length+1))) mb (eI (l++[(wd,cR w.heap.size sh.length sh.length)]))) mb (l++[(wd,cR w.heap.size sh.length sh.length)]):=by
 have lm:=bg h.map;refine⟨yH,fun p a=>?_⟩;rcases List.mem_append.1 a with a | a
 .obtain⟨b,d,e⟩:=h.row p a;exact⟨b,d,e.bH yH⟩
 .rw[List.mem_singleton] at a;subst a;refine⟨sh,c,?_⟩;have g:(bO (w.alloc (ae (tX sh).toArray 5 (sh.length,sh.length+1))) mb (eI (l++[(wd,cR w.heap.size sh.length sh.length)]))).heap[w.heap.size]?=O (ae (tX sh).toArray 5 (sh.length,sh.length+1)):=by
   exact yH
  exact .inr yH
def qq.apS{l:List (Bs×Y)}(h:qq w mb l)(b:mB wd=O []):qq (bO w mb (eI (l++[(wd,bV)]))) mb (l++[(wd,bV)]):=by
 refine⟨pS J (bg h.map),fun p a=>?_⟩;rcases List.mem_append.1 a with a | a
 .grind [iY,row,IZ.bH]
 .rw[List.mem_singleton] at a;subst a;exact⟨[],b,.inl ⟨J,J⟩⟩
theorem yY{s:Bs}:∀ {l:List (Bs×Y)} {i:Nat},s ∉ l.map a0X->fL s l i=V
 | [],_,_=>rfl
 | (u,v)::r,i,h=>by
  unfold fL;rw[bZ (fun e=>h (by simp [e]))];exact yY zg
def aOl{l:List (Bs×Y)}(h:fL s l i=O (j,v)):(s,v)∈l:=List.mem_of_getElem? (XN h).2
def aOm{sh:Bs}(h:mB wd=O sh):wd∈[P.tT,EW,DC,EX,Is,It,ni,uQ,qH,kR,kf,jL,Af,MM,MN]:=by
 simp only[aZU,aZ2,or_false];rcases Pb h with⟨hw,-⟩| ⟨hw,-⟩| ⟨hw,-⟩| ⟨hw,-⟩| ⟨hw,-⟩| ⟨hw,-⟩| ⟨hw,-⟩<;>(first | (rcases hw with rfl | rfl | rfl | rfl<;>simp) | (rcases hw with rfl | rfl<;>simp) | (subst hw;simp))
abbrev apT:List Bs:=[P.tT,EW,DC,EX,Is,It,ni,uQ,qH,kR,kf,jL,Af,MM,MN]
theorem qq.find{w:Z}{mb:Nat}{l:List (Bs×Y)}(h:qq w mb l)(hk:l.map a0X=apT)(wd:Bs):match fL wd l 0 with
  | none=>mB wd=V
  | some (_,v)=>∃ sh,mB wd=O sh/\IZ w mb v sh:=by
 cases b:fL wd l 0 with
 | none=>
  simp only;cases c:mB wd with
  | none=>rfl
  | some sh=>
   have hm:=aOm c;rw[show [P.tT,EW,DC,EX,Is,It,ni,uQ,qH,kR,kf,jL,Af,MM,MN]=l.map a0X from hk.symm] at hm;obtain⟨p,d,rfl⟩:=List.mem_map.1 hm;exfalso;have:∀ (l:List (Bs×Y)) (i:Nat),p∈l->fL p.1 l i≠none:=by
    intro l;induction l with
    | nil=>grind
    | cons a r ih=>
     intro i d;obtain⟨u,v⟩:=a;unfold fL;grind
   grind
 | some q=>
  obtain⟨j,v⟩:=q;exact h.row _ (aOl b)
def apU(w:Z):Calls a9J 101 #[] w fun e w'=>Ext w w'/\∃ mb l,e = ah (.map (O mb))/\w.heap.size<=mb/\qq w' mb l/\l.map a0X=apT:=by
 refine aNA ?_;refine bE ?_;obtain⟨w0,M⟩:=cd (w.alloc (.map #[] 0));have ox:Ext w w0:=yF;have N:qq w0 w.heap.size []:=⟨by rw[M];exact sx J,yH⟩;have s0:w0.heap.size=w.heap.size+1:=yH;obtain⟨mb,KT⟩:=cd w.heap.size;rw[<- M,<- s0];rw[<- KT] at N ⊢;clear M;have k1:fL [110,101,119] [] 0=none:=yY zs;have a1:=N.step (wd:=[110,101,119]) (sh:=[115]) zd zs;have IM:(w0.alloc (ae #[.int .u8 115] 5 (1,1+1))).heap[mb]?=O (eI []):=((bB.refl (fun _ _=>False) _).alloc _).block _ _ N.map zg;rw[CH (m:=1) J rfl];rw[xK (k:=9) (e:=98) zk zk IM [110,101,119] k1];obtain⟨w1,e1⟩:=cd (bO (w0.alloc (ae #[.int .u8 115] 5 (1,1+1))) mb (eI ([]++[([110,101,119],cR w0.heap.size 1 1)])));obtain⟨b,f1⟩:=cd (([]:List (Bs×Y))++[([110,101,119],aZT (O ⟨w0.heap.size,0,V⟩) 1 1)]);have h1:qq w1 mb b:=zg;have dB:Ext w w1:=yF;have m1:b.map a0X=[[110,101,119]]:=zg;rw[<- e1];clear e1 f1 a1;refine bE ?_;have k2:fL [112,117,116] b 0=none:=(by grind [yY]);have a2:=h1.step (wd:=[112,117,116]) (sh:=[115,99]) zd zs;have nB:(w1.alloc (ae #[.int .u8 115,.int .u8 99] 5 (2,2+1))).heap[mb]?=O (eI b):=((bB.refl (fun _ _=>False) _).alloc _).block _ _ h1.map zg;rw[CH (m:=2) J rfl];rw[xK (k:=9) (e:=98) zk zk nB [112,117,116] k2];obtain⟨w2,e2⟩:=cd (bO (w1.alloc (ae #[.int .u8 115,.int .u8 99] 5 (2,2+1))) mb (eI (b++[([112,117,116],cR w1.heap.size 2 2)])));obtain⟨c,f2⟩:=cd (b++[([112,117,116],aZT (O ⟨w1.heap.size,0,V⟩) 2 2)]);have h2:qq w2 mb c:=zg;have dS:Ext w w2:=yF;have m2:c.map a0X=[[110,101,119],[112,117,116]]:=zg;rw[<- e2];clear e2 f2 a2;refine bE ?_;have k3:fL [99,111,110,115,116] c 0=none:=(by grind [yY]);have a3:=h2.step (wd:=[99,111,110,115,116]) (sh:=[115,99]) zd zs;have PU:(w2.alloc (ae #[.int .u8 115,.int .u8 99] 5 (2,2+1))).heap[mb]?=O (eI c):=((bB.refl (fun _ _=>False) _).alloc _).block _ _ h2.map zg;rw[CH (m:=2) J rfl];rw[xK (k:=9) (e:=98) zk zk PU [99,111,110,115,116] k3];obtain⟨w3,e3⟩:=cd (bO (w2.alloc (ae #[.int .u8 115,.int .u8 99] 5 (2,2+1))) mb (eI (c++[([99,111,110,115,116],cR w2.heap.size 2 2)])));obtain⟨d,f3⟩:=cd (c++[([99,111,110,115,116],aZT (O ⟨w2.heap.size,0,V⟩) 2 2)]);have h3:qq w3 mb d:=zg;have eD:Ext w w3:=yF;have m3:d.map a0X=[[110,101,119],[112,117,116],[99,111,110,115,116]]:=zg;rw[<- e3];clear e3 f3 a3;refine bE ?_;have k4:fL [115,97,109,101] d 0=none:=(by grind [yY]);have a4:=h3.step (wd:=[115,97,109,101]) (sh:=[115,115]) zd zs;have P:(w3.alloc (ae #[.int .u8 115,.int .u8 115] 5 (2,2+1))).heap[mb]?=O (eI d):=((bB.refl (fun _ _=>False) _).alloc _).block _ _ h3.map zg;rw[CH (m:=2) J rfl];rw[xK (k:=9) (e:=98) zk zk P [115,97,109,101] k4];obtain⟨f,e4⟩:=cd (bO (w3.alloc (ae #[.int .u8 115,.int .u8 115] 5 (2,2+1))) mb (eI (d++[([115,97,109,101],cR w3.heap.size 2 2)])));obtain⟨g,f4⟩:=cd (d++[([115,97,109,101],aZT (O ⟨w3.heap.size,0,V⟩) 2 2)]);have h4:qq f mb g:=zg;have gW:Ext w f:=yF;have m4:g.map a0X=[[110,101,119],[112,117,116],[99,111,110,115,116],[115,97,109,101]]:=zg;rw[<- e4];clear e4 f4 a4;refine bE ?_;have k5:fL [109,97,107,101] g 0=none:=(by grind [yY]);have a5:=h4.step (wd:=[109,97,107,101]) (sh:=[115,110,42]) zd zs;have IP:(f.alloc (ae #[.int .u8 115,.int .u8 110,.int .u8 42] 5 (3,3+1))).heap[mb]?=O (eI g):=((bB.refl (fun _ _=>False) _).alloc _).block _ _ h4.map zg;rw[CH (m:=3) J rfl];rw[xK (k:=9) (e:=98) zk zk IP [109,97,107,101] k5];obtain⟨h,e5⟩:=cd (bO (f.alloc (ae #[.int .u8 115,.int .u8 110,.int .u8 42] 5 (3,3+1))) mb (eI (g++[([109,97,107,101],cR f.heap.size 3 3)])));obtain⟨i,f5⟩:=cd (g++[([109,97,107,101],aZT (O ⟨f.heap.size,0,V⟩) 3 3)]);have h5:qq h mb i:=zg;have ud:Ext w h:=yF;have m5:i.map a0X=[[110,101,119],[112,117,116],[99,111,110,115,116],[115,97,109,101],[109,97,107,101]]:=zg;rw[<- e5];clear e5 f5 a5;refine bE ?_;have k6:fL [115,112,108,105,116] i 0=none:=yY zg;have a6:=h5.step (wd:=[115,112,108,105,116]) (sh:=[115,110,42]) zd zs;have Qm:(h.alloc (ae #[.int .u8 115,.int .u8 110,.int .u8 42] 5 (3,3+1))).heap[mb]?=O (eI i):=((bB.refl (fun _ _=>False) _).alloc _).block _ _ h5.map zg;rw[CH (m:=3) J rfl];rw[xK (k:=9) (e:=98) zk zk Qm [115,112,108,105,116] k6];obtain⟨j,e6⟩:=cd (bO (h.alloc (ae #[.int .u8 115,.int .u8 110,.int .u8 42] 5 (3,3+1))) mb (eI (i++[([115,112,108,105,116],cR h.heap.size 3 3)])));obtain⟨n,f6⟩:=cd (i++[([115,112,108,105,116],aZT (O ⟨h.heap.size,0,V⟩) 3 3)]);have h6:qq j mb n:=zg;have j5:Ext w j:=yF;have m6:n.map a0X=[[110,101,119],[112,117,116],[99,111,110,115,116],[115,97,109,101],[109,97,107,101],[115,112,108,105,116]]:=by rw[f6,a0F,m5];rfl
 rw[<- e6];clear e6 f6 a6;refine bE ?_;have k7:fL [116,101,115,116] n 0=none:=yY zg;have a7:=h6.step (wd:=[116,101,115,116]) (sh:=[110,42]) zd zs;have Q:(j.alloc (ae #[.int .u8 110,.int .u8 42] 5 (2,2+1))).heap[mb]?=O (eI n):=((bB.refl (fun _ _=>False) _).alloc _).block _ _ h6.map zg;rw[CH (m:=2) J rfl];rw[xK (k:=9) (e:=98) zk zk Q [116,101,115,116] k7];obtain⟨o,e7⟩:=cd (bO (j.alloc (ae #[.int .u8 110,.int .u8 42] 5 (2,2+1))) mb (eI (n++[([116,101,115,116],cR j.heap.size 2 2)])));obtain⟨p,f7⟩:=cd (n++[([116,101,115,116],aZT (O ⟨j.heap.size,0,V⟩) 2 2)]);have h7:qq o mb p:=zg;have BX:Ext w o:=yF;have m7:p.map a0X=[[110,101,119],[112,117,116],[99,111,110,115,116],[115,97,109,101],[109,97,107,101],[115,112,108,105,116],[116,101,115,116]]:=by rw[f7,a0F,m6];rfl
 rw[<- e7];clear e7 f7 a7;refine bE ?_;have k8:fL [109,97,114,107] p 0=none:=yY zg;have a8:=h7.step (wd:=[109,97,114,107]) (sh:=[115]) zd zs;have R:(o.alloc (ae #[.int .u8 115] 5 (1,1+1))).heap[mb]?=O (eI p):=((bB.refl (fun _ _=>False) _).alloc _).block _ _ h7.map zg;rw[CH (m:=1) J rfl];rw[xK (k:=9) (e:=98) zk zk R [109,97,114,107] k8];obtain⟨q,e8⟩:=cd (bO (o.alloc (ae #[.int .u8 115] 5 (1,1+1))) mb (eI (p++[([109,97,114,107],cR o.heap.size 1 1)])));obtain⟨r,f8⟩:=cd (p++[([109,97,114,107],aZT (O ⟨o.heap.size,0,V⟩) 1 1)]);have h8:qq q mb r:=zg;have vl:Ext w q:=yF;have m8:r.map a0X=[[110,101,119],[112,117,116],[99,111,110,115,116],[115,97,109,101],[109,97,107,101],[115,112,108,105,116],[116,101,115,116],[109,97,114,107]]:=by rw[f8,a0F,m7];rfl
 rw[<- e8];clear e8 f8 a8;refine bE ?_;have k9:fL [108,101,118,101,108] r 0=none:=yY (by rw[m8];decide);have a9:=h8.step (wd:=[108,101,118,101,108]) (sh:=[115]) zd zs;have S:(q.alloc (ae #[.int .u8 115] 5 (1,1+1))).heap[mb]?=O (eI r):=((bB.refl (fun _ _=>False) _).alloc _).block _ _ h8.map zg;rw[CH (m:=1) J rfl];rw[xK (k:=9) (e:=98) zk zk S [108,101,118,101,108] k9];obtain⟨s,e9⟩:=cd (bO (q.alloc (ae #[.int .u8 115] 5 (1,1+1))) mb (eI (r++[([108,101,118,101,108],cR q.heap.size 1 1)])));obtain⟨t,f9⟩:=cd (r++[([108,101,118,101,108],aZT (O ⟨q.heap.size,0,V⟩) 1 1)]);have h9:qq s mb t:=zg;have lJ:Ext w s:=yF;have m9:t.map a0X=[[110,101,119],[112,117,116],[99,111,110,115,116],[115,97,109,101],[109,97,107,101],[115,112,108,105,116],[116,101,115,116],[109,97,114,107],[108,101,118,101,108]]:=by rw[f9,a0F,m8];rfl
 rw[<- e9];clear e9 f9 a9;refine bE ?_;have NM:fL [99,117,116] t 0=none:=yY (by rw[m9];decide);have T:=h9.step (wd:=[99,117,116]) (sh:=[115]) zd zs;have NN:(s.alloc (ae #[.int .u8 115] 5 (1,1+1))).heap[mb]?=O (eI t):=((bB.refl (fun _ _=>False) _).alloc _).block _ _ h9.map zg;rw[CH (m:=1) J rfl];rw[xK (k:=9) (e:=98) zk zk NN [99,117,116] NM];obtain⟨u,C⟩:=cd (bO (s.alloc (ae #[.int .u8 115] 5 (1,1+1))) mb (eI (t++[([99,117,116],cR s.heap.size 1 1)])));obtain⟨l10,f10⟩:=cd (t++[([99,117,116],aZT (O ⟨s.heap.size,0,V⟩) 1 1)]);have oN:qq u mb l10:=zg;have Bp:Ext w u:=yF;have m10:l10.map a0X=[[110,101,119],[112,117,116],[99,111,110,115,116],[115,97,109,101],[109,97,107,101],[115,112,108,105,116],[116,101,115,116],[109,97,114,107],[108,101,118,101,108],[99,117,116]]:=by rw[f10,a0F,m9];rfl
 rw[<- C];clear C f10 T;refine bE ?_;have U:fL [116,114,121] l10 0=none:=yY (by rw[m10];decide);have W:=oN.step (wd:=[116,114,121]) (sh:=[112]) zd zs;have X:(u.alloc (ae #[.int .u8 112] 5 (1,1+1))).heap[mb]?=O (eI l10):=((bB.refl (fun _ _=>False) _).alloc _).block _ _ oN.map zg;rw[CH (m:=1) J rfl];rw[xK (k:=9) (e:=98) zk zk X [116,114,121] U];obtain⟨x,D⟩:=cd (bO (u.alloc (ae #[.int .u8 112] 5 (1,1+1))) mb (eI (l10++[([116,114,121],cR u.heap.size 1 1)])));obtain⟨y,f11⟩:=cd (l10++[([116,114,121],aZT (O ⟨u.heap.size,0,V⟩) 1 1)]);have Gk:qq x mb y:=zg;have sZ:Ext w x:=yF;have m11:y.map a0X=[[110,101,119],[112,117,116],[99,111,110,115,116],[115,97,109,101],[109,97,107,101],[115,112,108,105,116],[116,101,115,116],[109,97,114,107],[108,101,118,101,108],[99,117,116],[116,114,121]]:=by rw[f11,a0F,m10];rfl
 rw[<- D];clear D f11 W;refine bE ?_;have k12:fL [106,117,109,112] y 0=none:=yY (by rw[m11];decide);have a12:=Gk.step (wd:=[106,117,109,112]) (sh:=[112]) zd zs;have Yo:(x.alloc (ae #[.int .u8 112] 5 (1,1+1))).heap[mb]?=O (eI y):=((bB.refl (fun _ _=>False) _).alloc _).block _ _ Gk.map zg;rw[CH (m:=1) J rfl];rw[xK (k:=9) (e:=98) zk zk Yo [106,117,109,112] k12];obtain⟨z,E⟩:=cd (bO (x.alloc (ae #[.int .u8 112] 5 (1,1+1))) mb (eI (y++[([106,117,109,112],cR x.heap.size 1 1)])));obtain⟨B,f12⟩:=cd (y++[([106,117,109,112],aZT (O ⟨x.heap.size,0,V⟩) 1 1)]);have B2:qq z mb B:=zg;have oz:Ext w z:=yF;have m12:B.map a0X=[[110,101,119],[112,117,116],[99,111,110,115,116],[115,97,109,101],[109,97,107,101],[115,112,108,105,116],[116,101,115,116],[109,97,114,107],[108,101,118,101,108],[99,117,116],[116,114,121],[106,117,109,112]]:=by rw[f12,a0F,m11];rfl
 rw[<- E];clear E f12 a12;refine bE ?_;have k13:fL [99,97,108,108] B 0=none:=yY (by rw[m12];decide);have a13:=B2.step (wd:=[99,97,108,108]) (sh:=[110,42]) zd zs;have Qt:(z.alloc (ae #[.int .u8 110,.int .u8 42] 5 (2,2+1))).heap[mb]?=O (eI B):=((bB.refl (fun _ _=>False) _).alloc _).block _ _ B2.map zg;rw[CH (m:=2) J rfl];rw[xK (k:=9) (e:=98) zk zk Qt [99,97,108,108] k13];obtain⟨mi,F⟩:=cd (bO (z.alloc (ae #[.int .u8 110,.int .u8 42] 5 (2,2+1))) mb (eI (B++[([99,97,108,108],cR z.heap.size 2 2)])));obtain⟨H,f13⟩:=cd (B++[([99,97,108,108],aZT (O ⟨z.heap.size,0,V⟩) 2 2)]);have IY:qq mi mb H:=zg;have rp:Ext w mi:=yF;have m13:H.map a0X=[[110,101,119],[112,117,116],[99,111,110,115,116],[115,97,109,101],[109,97,107,101],[115,112,108,105,116],[116,101,115,116],[109,97,114,107],[108,101,118,101,108],[99,117,116],[116,114,121],[106,117,109,112],[99,97,108,108]]:=by rw[f13,a0F,m12];rfl
 rw[<- F];clear F f13 a13;have k14:fL [114,101,116] H 0=none:=yY (by rw[m13];decide);have a14:=IY.apS (wd:=[114,101,116]) zd;rw[xK (k:=9) (e:=98) zk zk IY.map [114,101,116] k14];obtain⟨I0,I⟩:=cd (bO mi mb (eI (H++[([114,101,116],bV)])));obtain⟨K,f14⟩:=cd (H++[([114,101,116],aZT V 0 0)]);have CE:qq I0 mb K:=zg;have GG:Ext w I0:=yF;have m14:K.map a0X=[[110,101,119],[112,117,116],[99,111,110,115,116],[115,97,109,101],[109,97,107,101],[115,112,108,105,116],[116,101,115,116],[109,97,114,107],[108,101,118,101,108],[99,117,116],[116,114,121],[106,117,109,112],[99,97,108,108],[114,101,116]]:=by rw[f14,a0F,m13];rfl
 rw[<- I];clear I f14 a14;have k15:fL [100,111,110,101] K 0=none:=yY (by rw[m14];decide);have a15:=CE.apS (wd:=[100,111,110,101]) zd;rw[xK (k:=9) (e:=98) zk zk CE.map [100,111,110,101] k15];obtain⟨Ua,L⟩:=cd (bO I0 mb (eI (K++[([100,111,110,101],bV)])));obtain⟨a,f15⟩:=cd (K++[([100,111,110,101],aZT V 0 0)]);have Ub:qq Ua mb a:=zg;have Nb:Ext w Ua:=yF;have m15:a.map a0X=[[110,101,119],[112,117,116],[99,111,110,115,116],[115,97,109,101],[109,97,107,101],[115,112,108,105,116],[116,101,115,116],[109,97,114,107],[108,101,118,101,108],[99,117,116],[116,114,121],[106,117,109,112],[99,97,108,108],[114,101,116],[100,111,110,101]]:=by rw[f15,a0F,m14];rfl
 rw[<- L];clear L f15 a15;exact⟨Nb,mb,a,J,zo,Ub,m15⟩
open Go.Proofs.YtoegidfbnkaabaaGreatDoor.Sx
section
variable{p0 p1 p2 p3 p4 p5 p6 p7:Y}{w:Z}{R:Ending->Z->Prop}
def aOz:=cz w R [p0,p1,p2,p3,p4] (gc [] [] []) func105
def aOA:=cz w R [p0] (gc [] [(3001,[])] [17]) func104
def aOB:=cz w R [p0] (gc [] [] [7]) func137
def ap3:=cz w R [p0,p1,p2] (gd [(9,[6,65]),(14,[85])] [] [(3,11),(4,10)] [(5,[14,0,1,2,3,4,5,6,7,8,9,10,11,12,13])] [] [] [19,20,31,56,57,66,86]) func106
def aOC:=cz w R [p0,p1] (gd [(9,[6,44])] [] [(2,11)] [] [] [] [13,28,45]) func139
def aOD:=cz w R [p0,p1] (gc [] [] []) func138
def aOE:=cz w R [p0,p1] (gd [] [] [(0,16)] [] [] [] []) func160
end
