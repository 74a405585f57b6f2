/- A part of one proof (KV15, KV16, KV17, BO1, VT1, ShX3). -/
import Derived.Test.YtoegidfbnkaabaaGreatDoorPkIAY
import Derived.Lib.SlBytesConst
set_option linter.all false
set_option maxRecDepth 100000
set_option maxHeartbeats 8000000
open Option renaming some → O, none → V
open Go renaming Value → Y, World → Z
open Bool renaming true → A, false → G
open Go.Obj renaming cells → ae
open Go.Ending renaming returned → ah
open Go.Value renaming nilIface → ai, iface → aj, tuple → ak, pointer → aq
open Go.Calls renaming mono → a1a
open Option.some renaming inj → a1b
open List renaming getElem?_eq_getElem → a1e, mem_cons → a1g, not_mem_nil → a1l, range → a1t, replicate → a1N, getElem?_eq_some_iff → a1S, map_append → a2c
open Go.Value renaming slice → a1n
open Go.World renaming ownsRow_nil → a1A
open Option renaming map_eq_some_iff → a1C
open Go.Result renaming andThen → a16
open Prod renaming fst → a2B
open Nat renaming not_lt_zero → a3g
open Go.Oper renaming upon_value → a3B
open Go.Proofs.Tryz renaming prog → bbt
open Go.Proofs.Tryz
namespace Go.Proofs.YtoegidfbnkaabaaGreatDoor
open P
open Go.RowKit Sx
variable{B fx b c cb d f g i j mb n o pb pc told wb:Nat}{D:Nat->Prop}{K:Y->Prop}{X:Y->Z->Prop}{av buf tv v:Y}{out wd:Bs}{dO:List Pd}{r:Except jQ (Bool×Vm)}{iL:Array Y}{w':Z}{xs:List Y}{y:Operand}{ρ:Nat->Nat}
def aPk{P:Program}{w:Z}{x:Operand}{t:TypeId}(h:Ar P t=A){a:Nat}{cb:Array Y}{c tb:TypeId}(d:w.heap[a]?=aN iL c)(e:w.heap[b]?=aN cb tb) :
 RD P (bo .neq t x y (pp a) (pp b)) w K X=K (.bool (!decide (a=b))):=ij (by simp [bo,eqGuard,binOp,Sem.run_bind,abN h d e])
section
variable{D:Nat->Prop}{ρ:Nat->Nat}{e:A9}{av tv:Y}{dw:List Y}{w w':Z}{m:Vm}
def aPl(h:gr D ρ e av tv dw w m)(hD:∀ b,w.heap.size<=b->D b)(hC:yJ w e.cb pb fx told dO)(j:∀ p∈dO,∀ c∈p.clauses,zG c){x:Fm}{i:P.In}(f:Bc w g o i)(a:Mp m x i)(k:i.word≠N8)
 (hr:vK dO d i m=O r) :
  Calls bbt 207 #[pp e.vb,pq g o] w (EPost D w (sJ D ρ m.n e.vb e.cb e.fx) r):=by
 have hk:=a.ok.kn;simp only[a1g,a1l,or_false] at hk;rcases hk with hk | hk | hk | hk | hk | hk | hk | hk | hk | hk | hk | hk | hk | hk | hk
 .exact Zj h hD f a (.inl hk) hr
 .exact Zj h hD f a zg hr
 .exact agH h hD f a (.inl hk) hr
 .exact agH h hD f a zg hr
 .exact aPh h hD f a hk hr
 .exact agH h hD f a zg hr
 .exact aPg h hD f a hk hr
 .exact Zj h hD f a zg hr
 .exact Zj h hD f a zg hr
 .exact agO h hD f a zg hr
 .exact agO h hD f a (.inl hk) hr
 .exact agO h hD f a zg hr
 .exact aqS h hD f a (.inl hk) hC j hr
 .exact aqS h hD f a (.inr hk) hC j hr
 .exact absurd hk k
end
section
variable{D:Nat->Prop}{ρ:Nat->Nat}{vb cb fx:Nat}{w w':Z}{m:Vm}
def P.aPm{m m':Vm}{l:List Co}{args:List Sl}(h:m.enter l args f pc n=O m'):m'.n=m.n:=by
 cases l with
 | nil=>cases h
 | cons c l=>have:=(a1b h).symm;grind
def P.aqT{m:Vm}{p:Bool×Vm}(h:m.back=O p):p.2.n=m.n:=by
 unfold Vm.back at h;split at h
 .grind
 .split at h
  .grind
  .split at h
   .grind
   .rename_i m' he;have:=(a1b h).symm;subst this;exact(P.aPm he).trans J
def aPn(h:B6 D ρ vb cb fx w m)(hD:∀ b,w.heap.size<=b->D b)(hC:yJ w cb pb fx told dO)(tE:∀ p∈dO,∀ c∈p.clauses,zG c)(OA:B<=800000000)
  (l:gL B m) (hr:N6 dO d f m=O r) :
  Calls bbt 205 #[pp vb] w (EPost D w (sJ D ρ m.n vb cb fx) r):=by
 suffices H:∀ R:Ending->Z->Prop,(∀ E w',EPost D w (sJ D ρ m.n vb cb fx) r E w'->R E w')->Calls bbt 205 #[pp vb] w R from H _ fun _ _ h=>h;intro R F;refine aNC ?_;obtain⟨φ,ψ,av,tv,dw,hx⟩:=h;have xt:∀ {m:Vm},gL B m->∀ a∈m.bz,a.mark<=m.sr.tr.length/\(∀ c∈a.others,c.slots<=64)/\a.args.length<=60:=fun l a ha=>by
  obtain⟨i,hi,rfl⟩:=List.getElem_of_mem ha;have QX:=a1e hi;have:=l.ag i _ QX;exact⟨l.marks i _ QX,(by grind [zG.sl,XK.others]),this.qT⟩
 have hlen:∀ {m:Vm},gL B m->m.sr.tr.length<=800000000/\m.bz.length+m.sr.fuel<=800000000/\m.sr.tr.length+m.sr.fuel<=800000000:=fun l=>by
  have o:_+_<=B:=l.cW;have h2:=l.nL;omega
 have aYK:∀ (ρ0:Nat->Nat) (m0:Vm) (w0:Z),eD ρ m.n ρ0 m0.n->B6 D ρ0 vb cb fx w0 m0->di D w w0->gL B m0->zE dO d f m0=O r->True:=yF;refine⟨fun _ w1=>∃ (y:Nat->Nat) (m1:Vm),eD ρ m.n y m1.n/\B6 D y vb cb fx w1 m1/\di D w w1/\gL B m1/\zE dO d f m1=O r,?_,?_⟩
 .have c0:=hx.cell;have l0:=bh c0;have aPo:=l.pc;unfold N6 at hr;refine⟨fun s w1=>∃ (b:Bool) (y:Nat->Nat) (m1:Vm),s 13 = .bool (!b)/\eD ρ m.n y m1.n/\B6 D y vb cb fx w1 m1/\di D w w1/\gL B m1/\(if b then zE dO d f m1=O r else r = .ok (G,m1)),?_,?_⟩
  .by_cases I:0<m.pc
   .rw[zip I] at hr;have zK:(m.pc:Int) > 0:=zo;refine dF @c0 zK ?_;cases t:m.back with
    | none=>rw[t] at hr;cases hr
    | some q=>
    rw[t] at hr;refine a1a (aqn hx hD (xt l) zg zg t) ?_;rintro E w1 ⟨T,rfl,o⟩;obtain⟨b,m1⟩:=q;have hn:=P.aqT t;simp only at hn;have hu:eD ρ m.n ρ m1.n:=⟨zo,zg⟩;cases b with
    | false=>
     refine bG ?_;exact⟨G,ρ,m1,J,hu,o,T,l.back t,zg⟩
    | true=>
     refine bG ?_;exact⟨A,ρ,m1,J,hu,o,T,l.back t,zg⟩
   .rw[bI I] at hr;have zK:¬ (m.pc:Int) > 0:=zo;refine dF @c0 zK ?_;exact⟨A,ρ,m,J,eD.refl _ _,⟨_,_,_,_,_,hx⟩,yF,l,zg⟩
  .rintro s w1 ⟨b,y,m1,JU,uW,o,T,ze,K⟩ d1;clear d1;cases b with
   | false=>
    refine cO JU ?_;have K:r = .ok (G,m1):=zg;subst K;exact F _ _ ⟨T,J,y,uW,o⟩
   | true=>
    refine cO JU ?_;exact yF
 .rintro s w1 ⟨y,m1,uW,o,T,ze,qI⟩ d1;clear d1 hx hr l;refine⟨fun n z w2=>∃ (yy:Nat->Nat) (m2:Vm),eD ρ m.n yy m2.n/\B6 D yy vb cb fx w2 m2/\di D w w2/\gL B m2/\zE dO d n m2=O r,yF,?_⟩;intro n z dd w2 hI;clear dd;refine toPr ?_;obtain⟨yy,m2,FZ,⟨C,ψ2,U,W,QR,rX⟩,dU,j,e⟩:=hI;clear uW o T ze qI;cases n with
  | zero=>simp [zE] at e
  | succ n=>
  have s2:=dU.size;have hD2:∀ b,w2.heap.size<=b->D b:=yH;obtain⟨BK,pG,gH⟩:=hlen j;refine bG ?_;refine a1a (Of rX.less Dp zo) ?_;rintro E w3 ⟨eK,X⟩;rw[zE] at e;by_cases h0:m2.sr.fuel=0
  .rw[zip h0] at e X;have e:=(a1b e).symm;subst e X;exact F _ _ ⟨dU.trans (eK.up fun _ h=>h.1),J⟩
  rw[bI h0] at e X;obtain⟨rfl,X⟩:=X;obtain⟨CH,eK⟩:=rX.store X eK;have Hy:di D w w3:=yF;have s3:=eK.size;obtain⟨x,xU,hfm⟩:=CH.cur;have xU:m2.fs[m2.f]?=O x:=xU;rw[xU] at e;simp only at e;obtain⟨⟨Ds,L,vO,Qi⟩,aPq,-⟩:=hfm;have L:w3.heap[C m2.f]?=aN #[pp Ds,cV (ψ2 m2.f) x.slots.length x.slots.length,zi (x.entry:Nat),B5 C x.back,zi (x.pc:Nat)] 203:=L;have Zl:=j.fr _ _ xU;have aPo:=j.pc;obtain⟨insv,gN,xL⟩:=id vO;obtain⟨ga,gc,zW⟩:∃ a c,insv = .slice a x.code.ins.length c:=by
   grind
  have c3:w3.heap[vb]?=aN #[pp cb,W,zi (m2.sr.dec.fuel:Nat),pp (C m2.f),zi (m2.pc:Nat),U] 116:=CH.cell;have l3:=bh c3;have lf3:=bh L;have YE:=bh gN;subst zW;have afb:Ext w3 w3.drew:=yF;refine bG ?_;refine⟨fun _ w'=>w'=w3.drew/\m2.pc<x.code.ins.length,?_,?_⟩
  .by_cases I:m2.pc<x.code.ins.length
   .have Zm:¬ (m2.pc:Int) ≥ (x.code.ins.length:Int):=zo;refine dM @c3 L gN Zm ?_;omega
   .have Zm:(m2.pc:Int) ≥ (x.code.ins.length:Int):=zo;rw[List.getElem?_eq_none zo] at e;cases e;refine dM @c3 L gN Zm ?_;exact F _ _ ⟨yF,J⟩
  rintro z2 w4 ⟨rfl,I⟩ d4;clear d4;have aPr:Ext w3 w3.drew.drew:=afb.drew;rw[a1e I] at e;obtain⟨i,U3⟩:=cg (x.code.ins[m2.pc]);rw[<- U3] at e;have hiq:x.code.ins[m2.pc]?=O i:=zg;rcases xL with⟨o,-⟩| ⟨g,cap,cur,o,gZ,Bz,jC,aPt⟩
  .rw[o] at I;simp at I
  simp only[Value.slice.injEq,true_and] at o;obtain⟨rfl,rfl⟩:=o;have Jl:=aPt _ _ hiq;have zK:(m2.pc:Int)<(x.code.ins.length:Int):=zo;have ept:(m2.pc:Int).toNat=m2.pc:=zo;simp only at e;obtain⟨m3,QZ⟩:∃ m3:Vm,m3={ m2 with sr:=m2.sr.dec,pc:=m2.pc+1 }:=⟨_,J⟩;obtain⟨k,oN⟩:=cg (bS w3.drew.drew vb (ae #[pp cb,W,zi (m2.sr.dec.fuel:Nat),pp (C m2.f),zi ((m2.pc+1:Nat):Int),U] 116));obtain⟨ti,uf⟩:=(CH.ext aPr).own (w':=k) (f':=m2.f) (pc':=m2.pc+1) (yF) (yH) j.f;have ti:gr D yy ⟨C,ψ2,vb,cb,fx⟩ U W QR k m3:=zg;have B1:di D w3 k:=yF;have Ik:di D w k:=yF;have Zn:=di.toI B1;have s5:=B1.size;have c5:=ti.cell;have U4:=Zn _ _ _ (yM) L;have M:=Zn _ _ _ (yM) Bz;have lf5:=bh U4;have lg5:=bh M;have N:=(hC.fr Ik).cell;have aYP:=bh N;have aPu:Bc k g (m2.pc*4) i:=⟨cur,M,zo,Jl.bK Zn⟩;have NO:=Jl.word;have Q:uN x.code.slots i:=by rw[U3];exact Zl.code.ins _ (List.getElem_mem _)
  have aYQ:=Zl.code.len;have hB1:1<=B:=by have:=j.nL;omega
  have BI:gL (B-1) m3:=by
   have hf:m2.sr.dec.fuel=m2.sr.fuel-1:=rfl;have hp:m2.sr.tr.length+m2.sr.fuel<=B:=j.cW;have zy:=j.nL;rw[QZ];exact⟨j.f,j.fr,j.ag,j.marks,j.mono,by show m2.sr.tr.length+(m2.sr.fuel-1)<=B-1;omega,zg,zg,j.xy,j.yn⟩
  have aYR:gL B m3:=(by grind [gL.up]);have aqX:m3.fs[m3.f]?=O x:=zg;have aYS:m3.n=m2.n:=zg;rw[<- QZ] at e;refine dM @c3 L gN @ept ?_;have e1:bS w3.drew.drew vb (ae #[pp cb,W,zi (m2.sr.dec.fuel:Nat),pp (C m2.f),zi ((m2.pc:Int)+1),U] 116)=k:=oN.symm;have e2:bS w3.drew.drew vb (ae (pD #[pp cb,W,zi (m2.sr.dec.fuel:Nat),pp (C m2.f),zi (m2.pc:Nat),U] 4 (Value.int .i64 ((m2.pc:Int)+1)).cells.toList) 116 (0,0))=k:=oN.symm;try rw[e1]
  try rw[e2]
  clear e1 e2 oN;refine dF M NO ?_;by_cases IX:i.word=[100,111,110,101]
  .rw[zip IX] at e;have aPw:Ext k k.drew:=yF;have S:k.heap[vb]?=aN #[pp cb,W,zi (m3.sr.fuel:Nat),pp (C m2.f),zi (m3.pc:Nat),U] 116:=by
    exact yH
   have l5:=bh S;refine cO IX ?_;refine⟨fun z w'=>w'=k.drew/\z 86 = .bool (!x.ask),?_,?_⟩
   .cases U5:x.ask with
    | true=>
     have K:=aPq.1 U5;have aqY:=Qi U5;simp only at aqY;subst aqY;rw[K] at U4;simp (disch:=first|assumption|omega|simp only[zS]<;>omega|decide) only[zB,simprocAttr,lE,S,U4,N,B5];have aqZ:k.drew.heap[Ds]?=_:=Zn _ _ _ (yM) gN;rw[aPk zk aqZ aqZ];simp;rfl
    | false=>
     obtain⟨b,K⟩:∃ b,x.back=O b:=by
      cases K:x.back with
      | none=>grind
      | some b=>grind
     rw[K] at U4;simp (disch:=first|assumption|omega|simp only[zS]<;>omega|decide) only[zB,simprocAttr,lE,S,U4,N,B5]
   .rintro z3 w6 ⟨rfl,Zo⟩ d6;clear d6;cases U5:x.ask with
    | true=>
     rw[U5] at Zo e;rw[zip rfl] at e;cases e;refine cO Zo ?_;exact F _ _ ⟨yF,J,yy,zg,_,_,_,_,_,ti.ext aPw⟩
    | false=>
     rw[U5] at Zo e;rw[bI zd] at e;cases e;refine cO Zo ?_;exact F _ _ ⟨yF,J⟩
  .rw[bI IX] at e;have hH:Mp m3 x i:=⟨aqX,Q,Zl.sl,Zl.tm,by have h9:m3.sr.tr.length+m3.sr.fuel<=B-1:=BI.cW;show m3.sr.tr.length+m3.sr.fuel<=_;omega,zg,Q.small⟩;have OG:=ti.st.ok;have hD5:∀ b,k.heap.size<=b->D b:=yH;refine cO IX ?_;rw[ept,Nat.zero_add];refine⟨fun z w6=>∃ (ok:Bool) (u:Nat->Nat) (m6:Vm),z 96 = .bool (!ok)/\eD ρ m.n u m6.n/\B6 D u vb cb fx w6 m6/\di D w w6/\gL B m6/\(if ok then zE dO d n m6=O r else r = .ok (G,m6)),?_,?_⟩
   .cases t:vK dO d i m3 with
    | none=>rw[t] at e;cases e
    | some q=>
    rw[t] at e;have y5:=aPl ti hD5 (hC.fr Ik) tE aPu hH IX t;refine a1a y5 ?_;rintro E w6 ⟨ln,oC⟩;have Zp:=Ik.trans ln;cases q with
    | error te=>
     cases e;have oC:E=ig te:=oC;subst oC;cases te<;>exact F _ _ ⟨Zp,J⟩
    | ok q=>
     obtain⟨b6,m6⟩:=q;obtain⟨rfl,u,Y3,Rr⟩:=oC;have aPx:eD ρ m.n u m6.n:=(by grind [eD.trans]);have qh:gL B m6:=by
      have h9:=(ani BI OG aqX Q tE t).1;grind
     have e:(if b6=A then zE dO d n m6 else match m6.back with
      | none=>V
      | some (G,m)=>O (.ok (G,m))
      | some (A,m)=>zE dO d n m)=O r:=e
     cases b6 with
     | true=>
      refine bG ?_;exact⟨A,u,m6,zg,aPx,Rr,Zp,qh,zg⟩
     | false=>
      simp only[Bool.false_eq_true,if_false] at e;cases B3:m6.back with
      | none=>rw[B3] at e;cases e
      | some q7=>
      rw[B3] at e;obtain⟨φ6,ψ6,av6,tv6,aYW,v8⟩:=Rr;have s6:=ln.size;obtain⟨aYX,aYY,aYZ⟩:=hlen qh;refine bG ?_;refine a1a (aqn v8 yH (xt qh) zg zg B3) ?_;rintro E w7 ⟨G5,rfl,h7⟩;obtain⟨b7,m7⟩:=q7;have hn7:m7.n=m6.n:=P.aqT B3;have Yv:eD ρ m.n u m7.n:=zg;have hg7:gL B m7:=qh.back B3;cases b7 with
      | true=>
       refine bG ?_;exact⟨A,u,m7,zg,Yv,h7,yF,hg7,zg⟩
      | false=>
       refine bG ?_;exact⟨G,u,m7,zg,Yv,h7,yF,hg7,zg⟩
   .rintro z6 w6 ⟨ok,u,m6,h96,Y3,Rr,Zp,qh,YY⟩ d6;clear d6;cases ok with
    | true=>
     refine cO h96 ?_;exact yF
    | false=>
     refine cO h96 ?_;have YY:r = .ok (G,m6):=zg;subst YY;exact F _ _ ⟨Zp,J,u,Y3,Rr⟩
end
def aPA{w:Z}{ask:Co}(hC:yJ w cb pb fx told dO)(r:F5 w fx ask)(M:ask.slots<=64) :
  Calls bbt 35 #[pp cb] w fun e w'=>Ext w w'/\∃ q,e = ah (pp q)/\w.heap.size<=q/\∀ (D:Nat->Prop) (ρ:Nat->Nat),(∀ b,w.heap.size<=b->D b)->B6 D ρ q cb fx w' (Jq ask):=by
 obtain⟨s,-⟩:=hC;obtain⟨insv,B,N⟩:=id r;have C:Ext w w.drew:=yF;have E:ask.slots<=1000000:=zo;refine aNv ?_;refine⟨fun w'=>Ext w w',C,?_⟩;rw[jI];refine cS (pq cb 1) (fun w' t=>eV) ?_;refine cS (pp fx) (fun w' t=>by have d:=t.ext _ _ s;have:=bh d;exact fm d) ?_;refine dF s B ?_;obtain⟨wr,F⟩:=cg (w.drew.alloc (ae (madeCells #[ai] ask.slots) 20 (0,0)));have f:Ext w wr:=yF;have sr:wr.heap.size=w.heap.size+1:=yH;have P:wr.heap[w.heap.size]?=aN (madeCells #[ai] ask.slots) 20:=yH;rw[<- F];refine⟨f,?_⟩;obtain⟨wf,H⟩:=cg (wr.alloc (ae #[pp fx,cV w.heap.size ask.slots ask.slots,zi 0,aq V,zi 0] 203));have I:Ext wr wf:=yF;have sf:wf.heap.size=w.heap.size+2:=yH;have h:wf.heap[w.heap.size+1]?=aN #[pp fx,cV w.heap.size ask.slots ask.slots,zi 0,aq V,zi 0] 203:=yH;obtain⟨k,l⟩:=cg (wf.alloc (ae #[pp cb,bX,zi 0,pp (w.heap.size+1),zi 0,bX] 116));have m:Ext wf k:=yF;have n:k.heap[w.heap.size+2]?=aN #[pp cb,bX,zi 0,pp (w.heap.size+1),zi 0,bX] 116:=yH;rw[<- H,<- l];have u:Ext w k:=yF;refine⟨yF,u,w.heap.size+2,J,zo,fun D ρ hD=>?_⟩;refine⟨fun _=>w.heap.size+1,fun _=>w.heap.size,bX,bX,[],?_⟩;refine⟨⟨⟨fun i j a=>absurd a (a3g _),fun i a=>absurd a (a3g _)⟩,fun i a=>absurd a (a3g _),n,a1A _ _ _ _,fun g o=>(by cases o),yH,List.nodup_nil,(fun p K=>by cases K),trivial⟩,
  by show 0<1;omega,fun i x hx=>?_,fun i x b hx Q=>?_,yH,fun i j a c _=>?_,a1A _ _ _ _,J,fun g o=>(by cases o)⟩
 .have a:i=0:=by
   have:=(a1S.1 hx).1;have d:i<1:=this;omega
  subst a;have hx:x=⟨ask,a1N ask.slots .nil,0,V,0,A⟩:=(a1b hx).symm;subst hx;have L:(a1N ask.slots Sl.nil).length=ask.slots:=List.length_replicate;refine⟨⟨fx,?_,r.bK (eR.eo u),yH⟩,zg,madeCells #[ai] ask.slots,yH,by grind [size_madeCells],fun j y c=>?_⟩
  .simp only[L];exact m.ext _ _ h
  .have z:j<ask.slots:=zg;have c:(a1N ask.slots Sl.nil)[j]?=O y:=c;rw[List.getElem?_replicate,zip z] at c;cases c;refine⟨ai,?_,J⟩;have:=apH ai ask.slots j z;grind
 .have a:i=0:=by
   have:=(a1S.1 hx).1;have d:i<1:=this;omega
  subst a;have hx:x=⟨ask,a1N ask.slots .nil,0,V,0,A⟩:=(a1b hx).symm;grind
 .have R:i<1:=a;have d:j<1:=c;omega
section
variable{D:Nat->Prop}{ρ:Nat->Nat}{vb cb fx:Nat}{w w':Z}{m:Vm}
def aPG(h:B6 D ρ vb cb fx w m){pb told:Nat}{dO:List Pd}(hC:yJ w cb pb fx told dO)(ht:∀ x,m.fs[m.f]?=O x->told<=x.slots.length)(CE:told<=100000) :
  Calls bbt 36 #[pp vb] w fun e w'=>Ext w w'/\match m.iX (a1t told) with
   | .ok l=>∃ v us,e = ah v/\fJ (fun _=>True) w' 89 v us/\qp ρ m.n w' us l
   | .error t=>e=ig t:=by
 obtain⟨φ,ψ,av,tv,dw,hx⟩:=h;obtain⟨x,q⟩:∃ x,m.fs[m.f]?=O x:=⟨_,a1e hx.fl⟩;have ht:=ht x q;suffices H:∀ R:Ending->Z->Prop,(∀ c w',Ext w w'->(match m.iX (a1t told) with
   | .ok l=>∃ v us,c = ah v/\fJ (fun _=>True) w' 89 v us/\qp ρ m.n w' us l
   | .error t=>c=ig t)->R c w')->Calls bbt 36 #[aq (O ⟨vb,0,V⟩)] w R from H _ yF
 intro R K;have c0:w.heap[vb]?=aN #[pp cb,tv,zi (m.sr.fuel:Nat),pp (φ m.f),zi (m.pc:Nat),av] 116:=hx.cell;obtain⟨⟨W,r,-,-⟩,-,X,i,F8,F9⟩:=hx.fs _ _ q;have r:w.heap[φ m.f]?=aN #[pp W,cV (ψ m.f) x.slots.length x.slots.length,zi (x.entry:Nat),B5 φ x.back,zi (x.pc:Nat)] 203:=r;have i:w.heap[ψ m.f]?=aN X 20:=i;have pk:=hC.cell;have htc:(told:Int)<=(x.slots.length:Int):=zo;have L:∀ s,sliced (O ⟨ψ m.f,0,V⟩) 0 told x.slots.length s = cV (ψ m.f) told x.slots.length:=(by grind [sliced,Addr.add]);refine aNw ?_;refine dM @c0 r pk L ?_;have dK:Ext w w.drew:=yF;refine⟨fun n z u=>∃ (j:Nat) (y:Y) (us:List Y) (d:List Tm),z 23=zi (j:Nat)/\z 2=y/\j<=told/\n=told-j/\Ext w u/\u.ownsRow w.heap.size 89 1 y j us/\us.length=j/\qp ρ m.n w us d/\m.iX (a1t told)=P.Dw d (m.iX ((a1t told).drop j)),
  ⟨_,0,bX,[],[],J,J,Nat.zero_le _,J,dK,a1A _ _ _ _,J,by unfold qp iT;rfl,by rw[List.drop_zero];cases m.iX (a1t told)<;>rfl⟩,?_⟩
 intro n z dz u hI;clear dz;refine toPr ?_;obtain⟨j,y,us,d,o,B,hj,rfl,g,C,uU,M,p⟩:=hI;obtain⟨pa,pc,Gd⟩:=il C;subst Gd;have sj:=g.size;by_cases hlt:j<told
 .have Df:(j:Int)<(told:Int):=zo;have jV:(j:Int).toNat=j:=zo;have N:=g.ext _ _ i;have lrj:=bh N;obtain⟨E,v,q1,q2,q3,q4⟩:=hx.Rl q (k:=j) zo;have q1:w.heap[ψ m.f]?=aN E 20:=q1;rw[i] at q1;cases q1;have a:=P.agC (m:=m) (ks:=a1t told) (j:=j) (by simpa using hlt) p;simp only[List.getElem_range] at a;have hv:=q4.one;rcases hv with rfl | ⟨Q,S,rfl⟩;all_goals
   refine dM o B Df (zA @jV (zA N (zA @q3 L))) ?_;refine a1a (aqd _ (q4.bK (eR.eo g) (eD.refl _ _))) ?_;rintro c w2 ⟨rfl,b⟩;cases F:P.vY (m.slot j) with
   | error t=>
    rw[F] at b a;have a:m.iX (a1t told) = .error t:=a;have b:c=ig t:=b;subst b;cases t<;>exact K _ _ g (by rw[a];rfl)
   | ok t=>
    rw[F] at b a;have a:m.iX (a1t told)=P.Dw (d++[t]) (m.iX ((a1t told).drop (j+1))):=a;have b:c = ah _:=b;subst b;have I:=P.Zh F;rw[I] at q4;have q4:dR ρ m.n w _ t:=q4;first
     | (exfalso;obtain⟨_,_,h9⟩:=q4.iface;cases h9;done)
     | (simp (disch:=first|assumption|omega|simp only[zS]<;>omega|decide) only[zB,simprocAttr,lE,o,B];have T:(w2.alloc (ae #[aj Q S] 89 (0,0))).ownsRow w.heap.size 89 1 (.slice pa j pc) j us:=jY yH C;refine QG T (rR J) J zo (by rw[size_alloc];omega) ?_;intro v' w' U jK Ej;obtain⟨Du,pc',JP⟩:=il U;subst JP;simp (disch:=first|assumption|omega|simp only[zS]<;>omega|decide) only[zB,simprocAttr,lE,o];exact⟨told-(j+1),zo,j+1,_,us++[aj Q S],d++[t],zg,zg,zo,J,agx yF T jK,U,zg,M.snoc q4,a⟩)
 .have fD:j=told:=zo;subst fD;rw[List.drop_of_length_le zs] at p;have p:m.iX (a1t j) = .ok d:=by grind [Vm.iX,P.Dw]
  refine dF o B ?_;exact K _ _ g (by rw[p];exact⟨_,us,J,UF C uU.symm,M.bK (rH.eo g)⟩)
end
def P.aq2(s:Vm)(f:Nat):∀ (ks:List Nat),Vm.iX { s with sr:={ s.sr with fuel:=f } } ks=Vm.iX s ks
 | []=>rfl
 | k::r=>by
  rw[P.agB,P.agB,P.aq2 s f r];rfl
structure VmQ(dO:List Pd)(told vb cb fx pb:Nat)(D:Nat->Prop)(ρ:Nat->Nat)(w:Z)(m:Vm):Prop where
 vm:B6 D ρ vb cb fx w m
 code:yJ w cb pb fx told dO
def Rs(dO:List Pd)(told vb cb fx pb:Nat):EN (vmE dO told) where
 T:=116
 pT:=111
 fN:=205
 fT:=36
 eb:=vb
 tf:=#[pp vb]
 tc:=#[]
 Mem D ρ w m:=VmQ dO told vb cb fx pb D ρ w m
 Good c m:=gL (c*1000000) { m with sr:={ m.sr with fuel:=0 } }/\jS told m/\∃ x,m.fs[m.f]?=O x/\x.ask=A
def gr.aPJ{e:A9}{w:Z}{m:Vm}(h:gr D ρ e av tv xs w m){C:Array Y}(a:w.heap[e.vb]?=aN C 116)(hk:H8 e.vb w w')(c:w'.heap[e.vb]?=aN (kJ C 1 (f:Int)) 116) :
  gr D ρ e av tv xs w' { m with sr:={ m.sr with fuel:=f } }:=by
 have d:eR w w':=hk.toI (T:=116) (by grind [lN]) a;have i:av.ownBlock≠O e.vb:=(by grind [Y6]);exact h.rest ⟨d,fun b cs g=>hk.1 b cs _ zg zo zo g⟩ (eD.refl _ _) (by grind [afS,ar]) (h.st.ap4 Dp hk a c) h.fl
theorem aq3(dO:List Pd)(told vb cb fx pb:Nat)(tE:∀ p∈dO,∀ c∈p.clauses,zG c)(aPK:told<=100000):JK (Rs dO told vb cb fx pb) where
 st:=by
  rintro D ρ w s ⟨⟨φ,ψ,av,tv,dw,h⟩,-⟩;exact⟨_,tv,Dp,h.st⟩
 ext:=by
  rintro D ρ w w' s ⟨⟨φ,ψ,av,tv,dw,h⟩,h2⟩ hE;exact⟨⟨φ,ψ,av,tv,dw,h.ext hE⟩,(by grind [eR.eo,yJ.bK,bB.ext])⟩
 fuel:=by
  rintro D ρ w w' s C f ⟨⟨φ,ψ,av,tv,dw,h⟩,h2⟩ hc hk nB;have hI:eR w w':=hk.toI (T:=116) (by grind [lN]) hc;have hc:w.heap[vb]?=aN C 116:=hc;exact⟨⟨φ,ψ,av,tv,dw,h.aPJ hc hk nB⟩,h2.bK hI fun l hm=>hk.2 _ _ _ (fun e=>by
   have e:pb=vb:=e;rw[e,hc] at hm;cases hm) hm⟩
 apN:=fun s f=>rfl
 afB:=fun s f=>P.aq2 s f (a1t told)
 next:=by
  rintro D ρ w s c d f r ⟨h1,h2⟩ hD ⟨hg,hl,hq⟩ hc hr;have jK:gL (c*1000000+1000000) { s with sr:={ s.sr with fuel:=1000000 } }:=by
   have g1:s.sr.tr.length+0<=c*1000000:=hg.cW;have g2:s.bz.length+0<=c*1000000:=hg.nL;exact⟨hg.f,hg.fr,hg.ag,hg.marks,hg.mono,by show s.sr.tr.length+1000000<=_;omega,zg,hg.pc,hg.xy,hg.yn⟩
  have hr:N6 dO d f { s with sr:={ s.sr with fuel:=1000000 } }=O r:=hr;refine(aPn h1 hD h2 tE zo jK hr).mono ?_;rintro e w' ⟨hE,hp⟩;refine⟨hE,?_⟩;cases r with
  | error t=>omega
  | ok p=>
   obtain⟨rfl,eQ,hu,hm⟩:=hp;exact⟨J,eQ,hm,h2.fr hE⟩
 Fe:=by
  rintro s c d f k ⟨hg,hl,hq⟩ hc-hr;have jK:gL (c*1000000+1000000) { s with sr:={ s.sr with fuel:=1000000 } }:=by
   have g1:s.sr.tr.length+0<=c*1000000:=hg.cW;have g2:s.bz.length+0<=c*1000000:=hg.nL;exact⟨hg.f,hg.fr,hg.ag,hg.marks,hg.mono,by show s.sr.tr.length+1000000<=_;omega,zg,hg.pc,hg.xy,hg.yn⟩
  have hr:N6 dO d f { s with sr:={ s.sr with fuel:=1000000 } }=O (.ok (A,k)):=hr;obtain⟨h1,h2,h3,h4⟩:=aIn tE jK (show jS told { s with sr:={ s.sr with fuel:=1000000 } } from⟨hl.tr,hl.fr,hl.ag,⟨hl.sr.FH,hl.sr.ok⟩,hl.ask⟩) hr;refine⟨h3,fun f'=>⟨?_,⟨h2.tr,h2.fr,h2.ag,⟨h2.sr.FH,h2.sr.ok⟩,h2.ask⟩,h4 J⟩⟩;have g1:k.sr.tr.length+k.sr.fuel<=c*1000000+1000000:=h1.cW;have g2:k.bz.length+k.sr.fuel<=c*1000000+1000000:=h1.nL;exact⟨h1.f,h1.fr,h1.ag,h1.marks,h1.mono,by show k.sr.tr.length+0<=(c+1)*1000000;omega,by show k.bz.length+0<=(c+1)*1000000;omega,h1.pc,h1.xy,h1.yn⟩
 told:=by
  rintro D ρ w s ⟨h1,h2⟩ ⟨c,f,-,hl,x,hx,hk⟩;have hx:s.fs[s.f]?=O x:=hx;exact aPG h1 h2 (fun y hy=>by rw[hx] at hy;cases hy;exact hl.ask _ _ hx hk) aPK
 afC:=by
  rintro s c l ⟨hg,hl,x,hx,hk⟩ h;have hF:=hg.fr _ _ hx;exact XM (TG hx hF.tm h).1
 afD:=fun w=>by
  show(method (Tryz.prog.types.size+Made.depth) 111 (pp vb) "Next").run bbt w = .ok (205,pp vb) w
  kernel_rfl
 cN:=by show Ai bbt 205=A;kernel_rfl
 cT:=by show Ai bbt 36=A;kernel_rfl
def q9(w:Z)(wb:Nat)(out:Bs):Prop:=
 ∃ a buf,(a = aq V\/a=pp wb)/\w.heap[wb]?=aN #[a,buf] 100/\w.ownsRow (wb+1) 5 1 buf out.length (uP out)
def aPL:liesAt bbt Tryz.prog.depth 100 (2 / Tryz.prog.cellsOf 100) 0 100 1=true:=zk
def aPM{w:Z}(h:w.heap[b]?=aN #[pp b,buf] 100) :
  Calls bbt 82 #[pp b] w fun e w'=>e = ah (ak #[])/\w'=w:=by
 obtain⟨j,hj,_⟩:=a1C.1 Ya;have h0:w.cell? ⟨b,0,V⟩=O (pp b):=by grind [World.cell?]
 go_enter func82,ntmps82
 go_wp2
 rw[Lib.run_neq_ptr_same w _ underlying97 hj]
 go_wp2
 go_end0
 grind
def aPN{w:Z}(h:w.heap[b]?=aN #[aq V,buf] 100) :
  Calls bbt 82 #[pp b] w fun e w'=>e = ah (ak #[])/\w'=w.setCell ⟨b,0,V⟩ (pp b):=by
 obtain⟨j,hj,Qu⟩:=a1C.1 Ya;have h0:w.cell? ⟨b,0,V⟩=O (aq V):=by grind [World.cell?]
 have IS:w.frozen? ⟨b,0,V⟩=false:=jX h 0;have tG:w.shape? b=O (100,2):=by grind [World.shape?]
 go_enter func82,ntmps82
 go_wp2
 rw[Lib.run_to_unsafe w ⟨b,0,V⟩ underlying97 underlying155 hj zo tG (Nat.zero_lt_succ 1)];simp only[a16];rw[a3B]
 go_wp2
 rw[run_callFunc_extern func110 zk zk zk (e:=Extern.AbiNoEscape.same) zk];rw[Lib.run_noEscape];simp only[a16];rw[a3B]
 go_wp2
 rw[Lib.run_from_unsafe w ⟨b,0,V⟩ underlying155 underlying97 hj tG aPL];simp only[a16];rw[a3B]
 go_wp2
 go_end0
 grind
def aq4{w:Z}(h:q9 w wb out) :
  Calls bbt 82 #[pp wb] w fun e w'=>e = ah (ak #[])/\jT wb w w'/\w'.heap.size=w.heap.size/\∃ buf,
   w'.heap[wb]?=aN #[pp wb,buf] 100/\w'.ownsRow (wb+1) 5 1 buf out.length (uP out):=by
 obtain⟨d,buf,b,a,c⟩:=h;rcases b with rfl | rfl
 .refine(aPN a).mono ?_;rintro e w' ⟨rfl,rfl⟩;rw[vq a];refine⟨J,(bB.refl _ _).bS (.inl fun _=>.inl J),yH,buf,yH,(by grind [Kz])⟩
 .refine(aPM a).mono ?_;rintro e w' ⟨rfl,rfl⟩;exact⟨J,bB.refl _ _,J,buf,a,c⟩
def aq5{w:Z}(h:q9 w wb out)(s:Bs)(f:out.length+s.length<=1000000000) :
  Calls bbt 44 #[pp wb,aT s] w fun e w'=>(∃ v,e = ah v)/\q9 w' wb (out++s)/\jT wb w w':=by
 refine aoc ?_;refine(aq4 h).mono ?_;rintro e w1 ⟨rfl,g,s1,buf,b,a⟩;have i:=bh b;refine cO b ?_;refine ajK (e:=5) zk a s f zo ?_;intro v' w2 o2 c hv;have d:w2.heap[wb]?=aN #[pp wb,buf] 100:=by
  rw[c.block wb i (fun e=>by have:=(a.lt wb e.symm).1;omega)];omega
 have j:=bh d;obtain⟨l,rc,rfl⟩:=il o2;refine cO d ?_;have k:jT wb w1 w2:=jT.Yb a c;refine⟨⟨_,J⟩,⟨_,_,.inr J,qJ J j,Kz ?_ zo⟩,(g.trans k).bS (.inl fun _=>.inl J)⟩;grind
def aPO{w:Z}(h:q9 w wb out)(c:UInt8)(j:out.length+1<=1000000000) :
  Ho (pp wb) (.int .u8 c.toNat) w fun e w'=>(∃ v,e = ah v)/\q9 w' wb (out++[c])/\jT wb w w':=by
 obtain⟨i,k,d⟩:=a1C.1 aog;simp only[Prod.mk.injEq] at d;obtain⟨l,n,o⟩:=d;unfold Ho;refine a1a (aq4 h) ?_;rintro e w1 ⟨rfl,p,s1,buf,f,a⟩;have s:=bh f;refine dF @Ho.eq_1 f ?_;refine Sx.DP (m:=1) (t:=98) (e:=5) zk k l n o J zd (a.alloc _) (blk_alloc_new _ _) J (fun u hu=>?_) j zd (by rw[size_alloc];omega) ?_
 .simp only[a1g,a1l,or_false] at hu;subst hu;rfl
 intro v' w2 o2 b hv;have s2:=b.size;rw[size_alloc] at s2;have g:w2.heap[wb]?=aN #[pp wb,buf] 100:=by
  rw[b.block wb (yH) (fun e=>by have:=(a.lt wb e.symm).1;omega)];exact yH
 have q:=bh g;obtain⟨x,rc,rfl⟩:=il o2;refine dF @Ho.eq_1 g ?_;have r:jT wb w1 w2:=((bB.refl _ _).alloc _).trans (jT.Yb (a.alloc _) b);refine⟨⟨_,J⟩,⟨_,_,.inr J,qJ J q,Kz ?_ zo⟩,(p.trans r).bS (.inl fun _=>.inl J)⟩;grind
def aPP{w:Z}(h:q9 w wb out)(c:UInt8)(a:out.length+1<=1000000000) :
  Calls bbt 95 #[pp wb,.int .u8 c.toNat] w fun e w'=>(∃ v,e = ah v)/\q9 w' wb (out++[c])/\jT wb w w':=
 aod (aPO h c a)
def aPQ{w:Z}(h:q9 w wb out)(h0:out≠[]) :
  Calls bbt 33 #[pp wb] w fun e w'=>e = ah (aT out)/\jT wb w w':=by
 obtain⟨ad,buf,Hq,hb,ho⟩:=h;have rp:out.length≠0:=zg;obtain⟨g,cap,cur,rfl,hbg,hg,vk,DJ,jC,aat⟩:∃ g cap cur,buf = cV g out.length cap/\wb+1<=g/\w.heap[g]?=aN cur 5/\out.length<=cap/\cap<=maxLen/\cur.size=cap*1/\cur.toList.take (out.length*1)=uP out:=by
  rcases ho.2 with⟨_,hz⟩| ⟨g,cap,cur,hv,r⟩
  .exact yH
  .exact⟨g,cap,cur,hv,r⟩
 have nW:w.drew.heap[wb]?=aN #[ad,cV g out.length cap] 100:=hb;have c1:w.drew.cell? ⟨wb,1,V⟩=O (cV g out.length cap):=by grind [World.cell?]
 have hSD:(Builtin.unsafeSliceData_ #[98] 181 #[cV g out.length cap]).run bbt w.drew = .ok (pp g) w.drew:=
  (by grind [Lib.run_unsafeSliceData_row])
 have hUS:(Builtin.unsafeString_ #[181,3] 9 #[pp g,zi out.length]).run bbt w.drew = .ok (aT out) (w.drew.freeze ⟨g,0,V⟩ out.length):=by
  refine Lib.run_unsafeString_row w.drew 181 3 9 5 underlying181 aoj g cur.size (by have jK:w.drew.heap[g]?=aN cur 5:=hg;grind [World.shape?]) out h0 zo (by grind [maxLen]) ?_;intro j x hx;have:=ho.cells (g:=g) J j (.int .u8 x.toNat) zg;exact this
 go_enter func33,ntmps33
 go_wp2
 go_region
 all_goals (go_wp2;go_ret;exact⟨J,(bB.drew (bB.refl _ _)).trans (aok zo hg)⟩)
def Dy{m:Nat}{w:Z}{C:Array Y}(hm:C.size=m)(a:g=w.heap.size){K:Y->Z->Prop}:WR bbt (convert 98 98 (cV g n c)) (w.alloc (ae C 5 (0,0))) K X=K (cV g n c) (w.alloc (ae C 5 (m,m+1))):=by
 subst a hm;unfold WR;rw[Lib.run_convert_bytes_const w 98 5 C n c zk zk]
def JV(w:Z)(mb:Nat)(v:Y)(sh:Bs):Prop:=(sh=[]/\v = bX)\/∃ b z,sh≠[]/\v = cV b sh.length sh.length/\b≠mb/\w.heap[b]?=O (ae (uP sh).toArray 5 z)
theorem JV.bK{w:Z}{sh:Bs}(h:JV w mb v sh)(hk:∀ b o,b≠mb->w.heap[b]?=O o->w'.heap[b]?=O o):JV w' mb v sh:=by
 rcases h with h | ⟨b,z,a,c,d,e⟩
 .exact .inl h
 .exact .inr yH
structure rf(w:Z)(mb:Nat)(l:List (Bs×Y)):Prop where
 map:w.heap[mb]?=O (eO l)
 row:∀ p∈l,∃ sh,ni p.1=O sh/\JV w mb p.2 sh
theorem rf.step{w:Z}{l:List (Bs×Y)}(h:rf w mb l){sh:Bs}(c:ni wd=O sh)(f:sh≠[]) :
  rf (bS (w.alloc (ae (uP sh).toArray 5 (sh.length,sh.length+1))) mb (eO (l++[(wd,cV w.heap.size sh.length sh.length)]))) mb (l++[(wd,cV w.heap.size sh.length sh.length)]):=by
 have lm:=bh h.map;refine⟨yH,fun p a=>?_⟩;rcases List.mem_append.1 a with a | a
 .obtain⟨b,d,e⟩:=h.row p a;exact⟨b,d,e.bK yH⟩
 .rw[List.mem_singleton] at a;subst a;refine⟨sh,c,?_⟩;have g:(bS (w.alloc (ae (uP sh).toArray 5 (sh.length,sh.length+1))) mb (eO (l++[(wd,cV w.heap.size sh.length sh.length)]))).heap[w.heap.size]?=O (ae (uP sh).toArray 5 (sh.length,sh.length+1)):=by
   exact yH
  exact .inr yH
def rf.aq6{w:Z}{l:List (Bs×Y)}(h:rf w mb l)(b:ni wd=O []):rf (bS w mb (eO (l++[(wd,bX)]))) mb (l++[(wd,bX)]):=by
 refine⟨qJ J (bh h.map),fun p a=>?_⟩;rcases List.mem_append.1 a with a | a
 .grind [jr,row,JV.bK]
 .rw[List.mem_singleton] at a;subst a;exact⟨[],b,.inl ⟨J,J⟩⟩
theorem zZ{s:Bs}:∀ {l:List (Bs×Y)} {i:Nat},s ∉ l.map a2B->fO s l i=V
 | [],_,_=>rfl
 | (u,v)::r,i,h=>by
  unfold fO;rw[bI (fun e=>h (by simp [e]))];exact zZ zg
def aPS{s:Bs}{l:List (Bs×Y)}(h:fO s l i=O (j,v)):(s,v)∈l:=List.mem_of_getElem? (YQ h).2
def aPT{sh:Bs}(h:ni wd=O sh):wd∈[P.uK,FJ,Eo,FK,Ji,Jj,nM,vJ,rC,lx,kH,j5,AS,N7,N8]:=by
 simp only[a1g,a1l,or_false];rcases Qk h with⟨hw,-⟩| ⟨hw,-⟩| ⟨hw,-⟩| ⟨hw,-⟩| ⟨hw,-⟩| ⟨hw,-⟩| ⟨hw,-⟩<;>(first | (rcases hw with rfl | rfl | rfl | rfl<;>simp) | (rcases hw with rfl | rfl<;>simp) | (subst hw;simp))
abbrev aq7:List Bs:=[P.uK,FJ,Eo,FK,Ji,Jj,nM,vJ,rC,lx,kH,j5,AS,N7,N8]
theorem rf.find{w:Z}{mb:Nat}{l:List (Bs×Y)}(h:rf w mb l)(hk:l.map a2B=aq7)(wd:Bs):match fO wd l 0 with
  | none=>ni wd=V
  | some (_,v)=>∃ sh,ni wd=O sh/\JV w mb v sh:=by
 cases b:fO wd l 0 with
 | none=>
  simp only;cases c:ni wd with
  | none=>rfl
  | some sh=>
   have hm:=aPT c;rw[show [P.uK,FJ,Eo,FK,Ji,Jj,nM,vJ,rC,lx,kH,j5,AS,N7,N8]=l.map a2B from hk.symm] at hm;obtain⟨p,d,rfl⟩:=List.mem_map.1 hm;exfalso;have:∀ (l:List (Bs×Y)) (i:Nat),p∈l->fO p.1 l i≠none:=by
    intro l;induction l with
    | nil=>grind
    | cons a r ih=>
     intro i d;obtain⟨u,v⟩:=a;unfold fO;grind
   grind
 | some q=>
  obtain⟨j,v⟩:=q;exact h.row _ (aPS b)
def aq8(w:Z):Calls bbt 101 #[] w fun e w'=>Ext w w'/\∃ mb l,e = ah (.map (O mb))/\w.heap.size<=mb/\rf w' mb l/\l.map a2B=aq7:=by
 refine aO6 ?_;refine bG ?_;obtain⟨w0,M⟩:=cg (w.alloc (.map #[] 0));have nZ:Ext w w0:=yF;have N:rf w0 w.heap.size []:=⟨by rw[M];exact rR J,yH⟩;have s0:w0.heap.size=w.heap.size+1:=yH;obtain⟨mb,Mc⟩:=cg w.heap.size;rw[<- M,<- s0];rw[<- Mc] at N ⊢;clear M;have k1:fO [110,101,119] [] 0=none:=zZ zs;have a1:=N.step (wd:=[110,101,119]) (sh:=[115]) zd zs;have JH:(w0.alloc (ae #[.int .u8 115] 5 (1,1+1))).heap[mb]?=O (eO []):=((bB.refl (fun _ _=>False) _).alloc _).block _ _ N.map zg;rw[Dy (m:=1) J rfl];rw[yz (k:=9) (e:=98) zk zk JH [110,101,119] k1];obtain⟨w1,e1⟩:=cg (bS (w0.alloc (ae #[.int .u8 115] 5 (1,1+1))) mb (eO ([]++[([110,101,119],cV w0.heap.size 1 1)])));obtain⟨b,f1⟩:=cg (([]:List (Bs×Y))++[([110,101,119],a1n (O ⟨w0.heap.size,0,V⟩) 1 1)]);have h1:rf w1 mb b:=zg;have dE:Ext w w1:=yF;have m1:b.map a2B=[[110,101,119]]:=zg;rw[<- e1];clear e1 f1 a1;refine bG ?_;have k2:fO [112,117,116] b 0=none:=(by grind [zZ]);have a2:=h1.step (wd:=[112,117,116]) (sh:=[115,99]) zd zs;have oc:(w1.alloc (ae #[.int .u8 115,.int .u8 99] 5 (2,2+1))).heap[mb]?=O (eO b):=((bB.refl (fun _ _=>False) _).alloc _).block _ _ h1.map zg;rw[Dy (m:=2) J rfl];rw[yz (k:=9) (e:=98) zk zk oc [112,117,116] k2];obtain⟨w2,e2⟩:=cg (bS (w1.alloc (ae #[.int .u8 115,.int .u8 99] 5 (2,2+1))) mb (eO (b++[([112,117,116],cV w1.heap.size 2 2)])));obtain⟨c,f2⟩:=cg (b++[([112,117,116],a1n (O ⟨w1.heap.size,0,V⟩) 2 2)]);have h2:rf w2 mb c:=zg;have dU:Ext w w2:=yF;have m2:c.map a2B=[[110,101,119],[112,117,116]]:=zg;rw[<- e2];clear e2 f2 a2;refine bG ?_;have k3:fO [99,111,110,115,116] c 0=none:=(by grind [zZ]);have a3:=h2.step (wd:=[99,111,110,115,116]) (sh:=[115,99]) zd zs;have QZ:(w2.alloc (ae #[.int .u8 115,.int .u8 99] 5 (2,2+1))).heap[mb]?=O (eO c):=((bB.refl (fun _ _=>False) _).alloc _).block _ _ h2.map zg;rw[Dy (m:=2) J rfl];rw[yz (k:=9) (e:=98) zk zk QZ [99,111,110,115,116] k3];obtain⟨w3,e3⟩:=cg (bS (w2.alloc (ae #[.int .u8 115,.int .u8 99] 5 (2,2+1))) mb (eO (c++[([99,111,110,115,116],cV w2.heap.size 2 2)])));obtain⟨d,f3⟩:=cg (c++[([99,111,110,115,116],a1n (O ⟨w2.heap.size,0,V⟩) 2 2)]);have h3:rf w3 mb d:=zg;have eK:Ext w w3:=yF;have m3:d.map a2B=[[110,101,119],[112,117,116],[99,111,110,115,116]]:=zg;rw[<- e3];clear e3 f3 a3;refine bG ?_;have k4:fO [115,97,109,101] d 0=none:=(by grind [zZ]);have a4:=h3.step (wd:=[115,97,109,101]) (sh:=[115,115]) zd zs;have P:(w3.alloc (ae #[.int .u8 115,.int .u8 115] 5 (2,2+1))).heap[mb]?=O (eO d):=((bB.refl (fun _ _=>False) _).alloc _).block _ _ h3.map zg;rw[Dy (m:=2) J rfl];rw[yz (k:=9) (e:=98) zk zk P [115,97,109,101] k4];obtain⟨f,e4⟩:=cg (bS (w3.alloc (ae #[.int .u8 115,.int .u8 115] 5 (2,2+1))) mb (eO (d++[([115,97,109,101],cV w3.heap.size 2 2)])));obtain⟨g,f4⟩:=cg (d++[([115,97,109,101],a1n (O ⟨w3.heap.size,0,V⟩) 2 2)]);have h4:rf f mb g:=zg;have gJ:Ext w f:=yF;have m4:g.map a2B=[[110,101,119],[112,117,116],[99,111,110,115,116],[115,97,109,101]]:=zg;rw[<- e4];clear e4 f4 a4;refine bG ?_;have k5:fO [109,97,107,101] g 0=none:=(by grind [zZ]);have a5:=h4.step (wd:=[109,97,107,101]) (sh:=[115,110,42]) zd zs;have JJ:(f.alloc (ae #[.int .u8 115,.int .u8 110,.int .u8 42] 5 (3,3+1))).heap[mb]?=O (eO g):=((bB.refl (fun _ _=>False) _).alloc _).block _ _ h4.map zg;rw[Dy (m:=3) J rfl];rw[yz (k:=9) (e:=98) zk zk JJ [109,97,107,101] k5];obtain⟨h,e5⟩:=cg (bS (f.alloc (ae #[.int .u8 115,.int .u8 110,.int .u8 42] 5 (3,3+1))) mb (eO (g++[([109,97,107,101],cV f.heap.size 3 3)])));obtain⟨i,f5⟩:=cg (g++[([109,97,107,101],a1n (O ⟨f.heap.size,0,V⟩) 3 3)]);have h5:rf h mb i:=zg;have uf:Ext w h:=yF;have m5:i.map a2B=[[110,101,119],[112,117,116],[99,111,110,115,116],[115,97,109,101],[109,97,107,101]]:=zg;rw[<- e5];clear e5 f5 a5;refine bG ?_;have k6:fO [115,112,108,105,116] i 0=none:=zZ zg;have a6:=h5.step (wd:=[115,112,108,105,116]) (sh:=[115,110,42]) zd zs;have Rr:(h.alloc (ae #[.int .u8 115,.int .u8 110,.int .u8 42] 5 (3,3+1))).heap[mb]?=O (eO i):=((bB.refl (fun _ _=>False) _).alloc _).block _ _ h5.map zg;rw[Dy (m:=3) J rfl];rw[yz (k:=9) (e:=98) zk zk Rr [115,112,108,105,116] k6];obtain⟨j,e6⟩:=cg (bS (h.alloc (ae #[.int .u8 115,.int .u8 110,.int .u8 42] 5 (3,3+1))) mb (eO (i++[([115,112,108,105,116],cV h.heap.size 3 3)])));obtain⟨n,f6⟩:=cg (i++[([115,112,108,105,116],a1n (O ⟨h.heap.size,0,V⟩) 3 3)]);have h6:rf j mb n:=zg;have ln:Ext w j:=yF;have m6:n.map a2B=[[110,101,119],[112,117,116],[99,111,110,115,116],[115,97,109,101],[109,97,107,101],[115,112,108,105,116]]:=by rw[f6,a2c,m5];rfl
 rw[<- e6];clear e6 f6 a6;refine bG ?_;have k7:fO [116,101,115,116] n 0=none:=zZ zg;have a7:=h6.step (wd:=[116,101,115,116]) (sh:=[110,42]) zd zs;have Q:(j.alloc (ae #[.int .u8 110,.int .u8 42] 5 (2,2+1))).heap[mb]?=O (eO n):=((bB.refl (fun _ _=>False) _).alloc _).block _ _ h6.map zg;rw[Dy (m:=2) J rfl];rw[yz (k:=9) (e:=98) zk zk Q [116,101,115,116] k7];obtain⟨o,e7⟩:=cg (bS (j.alloc (ae #[.int .u8 110,.int .u8 42] 5 (2,2+1))) mb (eO (n++[([116,101,115,116],cV j.heap.size 2 2)])));obtain⟨p,f7⟩:=cg (n++[([116,101,115,116],a1n (O ⟨j.heap.size,0,V⟩) 2 2)]);have h7:rf o mb p:=zg;have G5:Ext w o:=yF;have m7:p.map a2B=[[110,101,119],[112,117,116],[99,111,110,115,116],[115,97,109,101],[109,97,107,101],[115,112,108,105,116],[116,101,115,116]]:=by rw[f7,a2c,m6];rfl
 rw[<- e7];clear e7 f7 a7;refine bG ?_;have k8:fO [109,97,114,107] p 0=none:=zZ zg;have a8:=h7.step (wd:=[109,97,114,107]) (sh:=[115]) zd zs;have R:(o.alloc (ae #[.int .u8 115] 5 (1,1+1))).heap[mb]?=O (eO p):=((bB.refl (fun _ _=>False) _).alloc _).block _ _ h7.map zg;rw[Dy (m:=1) J rfl];rw[yz (k:=9) (e:=98) zk zk R [109,97,114,107] k8];obtain⟨q,e8⟩:=cg (bS (o.alloc (ae #[.int .u8 115] 5 (1,1+1))) mb (eO (p++[([109,97,114,107],cV o.heap.size 1 1)])));obtain⟨r,f8⟩:=cg (p++[([109,97,114,107],a1n (O ⟨o.heap.size,0,V⟩) 1 1)]);have h8:rf q mb r:=zg;have we:Ext w q:=yF;have m8:r.map a2B=[[110,101,119],[112,117,116],[99,111,110,115,116],[115,97,109,101],[109,97,107,101],[115,112,108,105,116],[116,101,115,116],[109,97,114,107]]:=by rw[f8,a2c,m7];rfl
 rw[<- e8];clear e8 f8 a8;refine bG ?_;have k9:fO [108,101,118,101,108] r 0=none:=zZ (by rw[m8];decide);have a9:=h8.step (wd:=[108,101,118,101,108]) (sh:=[115]) zd zs;have S:(q.alloc (ae #[.int .u8 115] 5 (1,1+1))).heap[mb]?=O (eO r):=((bB.refl (fun _ _=>False) _).alloc _).block _ _ h8.map zg;rw[Dy (m:=1) J rfl];rw[yz (k:=9) (e:=98) zk zk S [108,101,118,101,108] k9];obtain⟨s,e9⟩:=cg (bS (q.alloc (ae #[.int .u8 115] 5 (1,1+1))) mb (eO (r++[([108,101,118,101,108],cV q.heap.size 1 1)])));obtain⟨t,f9⟩:=cg (r++[([108,101,118,101,108],a1n (O ⟨q.heap.size,0,V⟩) 1 1)]);have h9:rf s mb t:=zg;have ns:Ext w s:=yF;have m9:t.map a2B=[[110,101,119],[112,117,116],[99,111,110,115,116],[115,97,109,101],[109,97,107,101],[115,112,108,105,116],[116,101,115,116],[109,97,114,107],[108,101,118,101,108]]:=by rw[f9,a2c,m8];rfl
 rw[<- e9];clear e9 f9 a9;refine bG ?_;have OU:fO [99,117,116] t 0=none:=zZ (by rw[m9];decide);have T:=h9.step (wd:=[99,117,116]) (sh:=[115]) zd zs;have OV:(s.alloc (ae #[.int .u8 115] 5 (1,1+1))).heap[mb]?=O (eO t):=((bB.refl (fun _ _=>False) _).alloc _).block _ _ h9.map zg;rw[Dy (m:=1) J rfl];rw[yz (k:=9) (e:=98) zk zk OV [99,117,116] OU];obtain⟨u,C⟩:=cg (bS (s.alloc (ae #[.int .u8 115] 5 (1,1+1))) mb (eO (t++[([99,117,116],cV s.heap.size 1 1)])));obtain⟨l10,f10⟩:=cg (t++[([99,117,116],a1n (O ⟨s.heap.size,0,V⟩) 1 1)]);have tZ:rf u mb l10:=zg;have Ge:Ext w u:=yF;have m10:l10.map a2B=[[110,101,119],[112,117,116],[99,111,110,115,116],[115,97,109,101],[109,97,107,101],[115,112,108,105,116],[116,101,115,116],[109,97,114,107],[108,101,118,101,108],[99,117,116]]:=by rw[f10,a2c,m9];rfl
 rw[<- C];clear C f10 T;refine bG ?_;have U:fO [116,114,121] l10 0=none:=zZ (by rw[m10];decide);have W:=tZ.step (wd:=[116,114,121]) (sh:=[112]) zd zs;have X:(u.alloc (ae #[.int .u8 112] 5 (1,1+1))).heap[mb]?=O (eO l10):=((bB.refl (fun _ _=>False) _).alloc _).block _ _ tZ.map zg;rw[Dy (m:=1) J rfl];rw[yz (k:=9) (e:=98) zk zk X [116,114,121] U];obtain⟨x,D⟩:=cg (bS (u.alloc (ae #[.int .u8 112] 5 (1,1+1))) mb (eO (l10++[([116,114,121],cV u.heap.size 1 1)])));obtain⟨y,f11⟩:=cg (l10++[([116,114,121],a1n (O ⟨u.heap.size,0,V⟩) 1 1)]);have Hd:rf x mb y:=zg;have Aa:Ext w x:=yF;have m11:y.map a2B=[[110,101,119],[112,117,116],[99,111,110,115,116],[115,97,109,101],[109,97,107,101],[115,112,108,105,116],[116,101,115,116],[109,97,114,107],[108,101,118,101,108],[99,117,116],[116,114,121]]:=by rw[f11,a2c,m10];rfl
 rw[<- D];clear D f11 W;refine bG ?_;have k12:fO [106,117,109,112] y 0=none:=zZ (by rw[m11];decide);have a12:=Hd.step (wd:=[106,117,109,112]) (sh:=[112]) zd zs;have Zq:(x.alloc (ae #[.int .u8 112] 5 (1,1+1))).heap[mb]?=O (eO y):=((bB.refl (fun _ _=>False) _).alloc _).block _ _ Hd.map zg;rw[Dy (m:=1) J rfl];rw[yz (k:=9) (e:=98) zk zk Zq [106,117,109,112] k12];obtain⟨z,E⟩:=cg (bS (x.alloc (ae #[.int .u8 112] 5 (1,1+1))) mb (eO (y++[([106,117,109,112],cV x.heap.size 1 1)])));obtain⟨B,f12⟩:=cg (y++[([106,117,109,112],a1n (O ⟨x.heap.size,0,V⟩) 1 1)]);have vD:rf z mb B:=zg;have su:Ext w z:=yF;have m12:B.map a2B=[[110,101,119],[112,117,116],[99,111,110,115,116],[115,97,109,101],[109,97,107,101],[115,112,108,105,116],[116,101,115,116],[109,97,114,107],[108,101,118,101,108],[99,117,116],[116,114,121],[106,117,109,112]]:=by rw[f12,a2c,m11];rfl
 rw[<- E];clear E f12 a12;refine bG ?_;have k13:fO [99,97,108,108] B 0=none:=zZ (by rw[m12];decide);have a13:=vD.step (wd:=[99,97,108,108]) (sh:=[110,42]) zd zs;have Rx:(z.alloc (ae #[.int .u8 110,.int .u8 42] 5 (2,2+1))).heap[mb]?=O (eO B):=((bB.refl (fun _ _=>False) _).alloc _).block _ _ vD.map zg;rw[Dy (m:=2) J rfl];rw[yz (k:=9) (e:=98) zk zk Rx [99,97,108,108] k13];obtain⟨mO,F⟩:=cg (bS (z.alloc (ae #[.int .u8 110,.int .u8 42] 5 (2,2+1))) mb (eO (B++[([99,97,108,108],cV z.heap.size 2 2)])));obtain⟨H,f13⟩:=cg (B++[([99,97,108,108],a1n (O ⟨z.heap.size,0,V⟩) 2 2)]);have JU:rf mO mb H:=zg;have oO:Ext w mO:=yF;have m13:H.map a2B=[[110,101,119],[112,117,116],[99,111,110,115,116],[115,97,109,101],[109,97,107,101],[115,112,108,105,116],[116,101,115,116],[109,97,114,107],[108,101,118,101,108],[99,117,116],[116,114,121],[106,117,109,112],[99,97,108,108]]:=by rw[f13,a2c,m12];rfl
 rw[<- F];clear F f13 a13;have k14:fO [114,101,116] H 0=none:=zZ (by rw[m13];decide);have a14:=JU.aq6 (wd:=[114,101,116]) zd;rw[yz (k:=9) (e:=98) zk zk JU.map [114,101,116] k14];obtain⟨JW,I⟩:=cg (bS mO mb (eO (H++[([114,101,116],bX)])));obtain⟨K,f14⟩:=cg (H++[([114,101,116],a1n V 0 0)]);have Dv:rf JW mb K:=zg;have Hw:Ext w JW:=yF;have m14:K.map a2B=[[110,101,119],[112,117,116],[99,111,110,115,116],[115,97,109,101],[109,97,107,101],[115,112,108,105,116],[116,101,115,116],[109,97,114,107],[108,101,118,101,108],[99,117,116],[116,114,121],[106,117,109,112],[99,97,108,108],[114,101,116]]:=by rw[f14,a2c,m13];rfl
 rw[<- I];clear I f14 a14;have k15:fO [100,111,110,101] K 0=none:=zZ (by rw[m14];decide);have a15:=Dv.aq6 (wd:=[100,111,110,101]) zd;rw[yz (k:=9) (e:=98) zk zk Dv.map [100,111,110,101] k15];obtain⟨U8,L⟩:=cg (bS JW mb (eO (K++[([100,111,110,101],bX)])));obtain⟨a,f15⟩:=cg (K++[([100,111,110,101],a1n V 0 0)]);have U9:rf U8 mb a:=zg;have Dg:Ext w U8:=yF;have m15:a.map a2B=[[110,101,119],[112,117,116],[99,111,110,115,116],[115,97,109,101],[109,97,107,101],[115,112,108,105,116],[116,101,115,116],[109,97,114,107],[108,101,118,101,108],[99,117,116],[116,114,121],[106,117,109,112],[99,97,108,108],[114,101,116],[100,111,110,101]]:=by rw[f15,a2c,m14];rfl
 rw[<- L];clear L f15 a15;exact⟨Dg,mb,a,J,zo,U9,m15⟩
open Go.Proofs.YtoegidfbnkaabaaGreatDoor.Sx
section
variable{p0 p1 p2 p3 p4 p5 p6 p7:Y}{w:Z}{R:Ending->Z->Prop}
def aP7:=cz w R [p0,p1,p2,p3,p4] (gc [] [] []) func105
def aP8:=cz w R [p0] (gc [] [(3001,[])] [17]) func104
def aP9:=cz w R [p0] (gc [] [] [7]) func137
def arh:=cz w R [p0,p1,p2] (gd [(9,[6,65]),(14,[85])] [] [(3,11),(4,10)] [(5,[14,0,1,2,3,4,5,6,7,8,9,10,11,12,13])] [] [] [19,20,31,56,57,66,86]) func106
def aQa:=cz w R [p0,p1] (gd [(9,[6,44])] [] [(2,11)] [] [] [] [13,28,45]) func139
def aQb:=cz w R [p0,p1] (gc [] [] []) func138
def aQc:=cz w R [p0,p1] (gd [] [] [(0,16)] [] [] [] []) func160
end
