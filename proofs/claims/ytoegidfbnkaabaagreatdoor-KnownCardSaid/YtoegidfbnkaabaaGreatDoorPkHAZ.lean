/- A part of one proof (KV15, KV16, KV17, BO1, VT1, ShX3). -/
import Derived.Test.YtoegidfbnkaabaaGreatDoorPkHAY
import Derived.Lib.SlBytesConst
set_option linter.all false
set_option maxRecDepth 100000
set_option maxHeartbeats 8000000
open Option renaming some → O, none → V
open Go renaming Value → Y, World → Z
open Bool renaming true → A, false → G
open Go.Obj renaming cells → ae
open Go.Ending renaming returned → ah
open Go.Value renaming nilIface → ai, iface → aj, tuple → ak, pointer → aq
open Go.Calls renaming mono → a0c
open List renaming getElem?_eq_getElem → a0e, mem_cons → a0n, not_mem_nil → a0v, range → a0C, getElem?_eq_some_iff → a0M, replicate → a0P, map_append → a09
open Option.some renaming inj → a0g
open Go.Value renaming slice → a0m
open Go.World renaming ownsRow_nil → a0z
open Option renaming map_eq_some_iff → a0B
open Go.Result renaming andThen → a00
open Prod renaming fst → a1y
open Nat renaming not_lt_zero → a2g
open Go.Oper renaming upon_value → a2x
open Go.Proofs.Tryz renaming prog → bae
open Go.Proofs.Tryz
namespace Go.Proofs.YtoegidfbnkaabaaGreatDoor
open P
open Go.RowKit Sx
variable{B fm b c cb d f g i j m mb n o pb pc told wb:Nat}{D:Nat->Prop}{K:Y->Prop}{X:Y->Z->Prop}{av buf tv v:Y}{out s wd:Bs}{dI:List Pd}{r:Except jE (Bool×Vm)}{iC:Array Y}{w w':Z}{xs:List Y}{y:Operand}{ρ:Nat->Nat}
def aOB{P:Program}{x:Operand}{t:TypeId}(h:zM P t=A){a:Nat}{cb:Array Y}{c tb:TypeId}(d:w.heap[a]?=aN iC c)(e:w.heap[b]?=aN cb tb) :
 RD P (bo .neq t x y (pp a) (pp b)) w K X=K (.bool (!decide (a=b))):=gW (by simp [bo,eqGuard,binOp,Sem.run_bind,aaL h d e])
section
variable{D:Nat->Prop}{ρ:Nat->Nat}{e:AE}{av tv:Y}{di:List Y}{w w':Z}{m:Vm}
def aOC(h:fX D ρ e av tv di w m)(hD:∀ b,w.heap.size<=b->D b)(hC:yf w e.cb pb fm told dI)(j:∀ p∈dI,∀ c∈p.clauses,y6 c){x:Fm}{i:P.In}(f:AH w g o i)(a:Lc m x i)(k:i.word≠MU)
 (hr:vi dI d i m=O r) :
  Calls bae 207 #[pp e.vb,pq g o] w (EPost D w (rI D ρ m.n e.vb e.cb e.fm) r):=by
 have hk:=a.ok.kn;simp only[a0n,a0v,or_false] at hk;rcases hk with hk | hk | hk | hk | hk | hk | hk | hk | hk | hk | hk | hk | hk | hk | hk
 .exact Ym h hD f a (.inl hk) hr
 .exact Ym h hD f a zg hr
 .exact afB h hD f a (.inl hk) hr
 .exact afB h hD f a zg hr
 .exact aOy h hD f a hk hr
 .exact afB h hD f a zg hr
 .exact aOx h hD f a hk hr
 .exact Ym h hD f a zg hr
 .exact Ym h hD f a zg hr
 .exact afI h hD f a zg hr
 .exact afI h hD f a (.inl hk) hr
 .exact afI h hD f a zg hr
 .exact apT h hD f a (.inl hk) hC j hr
 .exact apT h hD f a (.inr hk) hC j hr
 .exact absurd hk k
end
section
variable{D:Nat->Prop}{ρ:Nat->Nat}{vb cb fm:Nat}{w w':Z}{m:Vm}
def P.aOD{m m':Vm}{l:List Co}{args:List Sl}(h:m.enter l args f pc n=O m'):m'.n=m.n:=by
 cases l with
 | nil=>cases h
 | cons c l=>have:=(a0g h).symm;grind
def P.apU{m:Vm}{p:Bool×Vm}(h:m.back=O p):p.2.n=m.n:=by
 unfold Vm.back at h;split at h
 .grind
 .split at h
  .grind
  .split at h
   .grind
   .rename_i m' he;have:=(a0g h).symm;subst this;exact(P.aOD he).trans J
def aOE(h:Bu D ρ vb cb fm w m)(hD:∀ b,w.heap.size<=b->D b)(hC:yf w cb pb fm told dI)(se:∀ p∈dI,∀ c∈p.clauses,y6 c)(Nr:B<=800000000)
  (l:gD B m) (hr:MQ dI d f m=O r) :
  Calls bae 205 #[pp vb] w (EPost D w (rI D ρ m.n vb cb fm) r):=by
 suffices H:∀ R:Ending->Z->Prop,(∀ E w',EPost D w (rI D ρ m.n vb cb fm) r E w'->R E w')->Calls bae 205 #[pp vb] w R from H _ fun _ _ h=>h;intro R F;refine aMU ?_;obtain⟨φ,ψ,av,tv,di,hx⟩:=h;have wu:∀ {m:Vm},gD B m->∀ a∈m.br,a.mark<=m.sr.tr.length/\(∀ c∈a.others,c.slots<=64)/\a.args.length<=60:=fun l a ha=>by
  obtain⟨i,hi,rfl⟩:=List.getElem_of_mem ha;have PV:=a0e hi;have:=l.ag i _ PV;exact⟨l.marks i _ PV,(by grind [y6.sl,WJ.others]),this.ql⟩
 have hlen:∀ {m:Vm},gD B m->m.sr.tr.length<=800000000/\m.br.length+m.sr.fuel<=800000000/\m.sr.tr.length+m.sr.fuel<=800000000:=fun l=>by
  have o:_+_<=B:=l.cS;have h2:=l.nj;omega
 have aXL:∀ (ρ0:Nat->Nat) (m0:Vm) (w0:Z),eo ρ m.n ρ0 m0.n->Bu D ρ0 vb cb fm w0 m0->dc D w w0->gD B m0->y3 dI d f m0=O r->True:=yF;refine⟨fun _ w1=>∃ (y:Nat->Nat) (m1:Vm),eo ρ m.n y m1.n/\Bu D y vb cb fm w1 m1/\dc D w w1/\gD B m1/\y3 dI d f m1=O r,?_,?_⟩
 .have c0:=hx.cell;have l0:=bf c0;have aOF:=l.pc;unfold MQ at hr;refine⟨fun s w1=>∃ (b:Bool) (y:Nat->Nat) (m1:Vm),s 13 = .bool (!b)/\eo ρ m.n y m1.n/\Bu D y vb cb fm w1 m1/\dc D w w1/\gD B m1/\(if b then y3 dI d f m1=O r else r = .ok (G,m1)),?_,?_⟩
  .by_cases I:0<m.pc
   .rw[zip I] at hr;have y9:(m.pc:Int) > 0:=zo;refine dy @c0 y9 ?_;cases t:m.back with
    | none=>rw[t] at hr;cases hr
    | some q=>
    rw[t] at hr;refine a0c (apn hx hD (wu l) zg zg t) ?_;rintro E w1 ⟨T,rfl,o⟩;obtain⟨b,m1⟩:=q;have hn:=P.apU t;simp only at hn;have hu:eo ρ m.n ρ m1.n:=⟨zo,zg⟩;cases b with
    | false=>
     refine bD ?_;exact⟨G,ρ,m1,J,hu,o,T,l.back t,zg⟩
    | true=>
     refine bD ?_;exact⟨A,ρ,m1,J,hu,o,T,l.back t,zg⟩
   .rw[bX I] at hr;have y9:¬ (m.pc:Int) > 0:=zo;refine dy @c0 y9 ?_;exact⟨A,ρ,m,J,eo.refl _ _,⟨_,_,_,_,_,hx⟩,yF,l,zg⟩
  .rintro s w1 ⟨b,y,m1,IZ,uB,o,T,tW,K⟩ d1;clear d1;cases b with
   | false=>
    refine cG IZ ?_;have K:r = .ok (G,m1):=zg;subst K;exact F _ _ ⟨T,J,y,uB,o⟩
   | true=>
    refine cG IZ ?_;exact yF
 .rintro s w1 ⟨y,m1,uB,o,T,tW,pW⟩ d1;clear d1 hx hr l;refine⟨fun n z w2=>∃ (xW:Nat->Nat) (m2:Vm),eo ρ m.n xW m2.n/\Bu D xW vb cb fm w2 m2/\dc D w w2/\gD B m2/\y3 dI d n m2=O r,yF,?_⟩;intro n z dd w2 hI;clear dd;refine toPr ?_;obtain⟨xW,m2,Fk,⟨C,ψ2,U,W,PO,rp⟩,dM,j,e⟩:=hI;clear uB o T tW pW;cases n with
  | zero=>simp [y3] at e
  | succ n=>
  have s2:=dM.size;have hD2:∀ b,w2.heap.size<=b->D b:=yH;obtain⟨A7,qf,gy⟩:=hlen j;refine bD ?_;refine a0c (M3 rp.less CC zo) ?_;rintro E w3 ⟨eI,X⟩;rw[y3] at e;by_cases h0:m2.sr.fuel=0
  .rw[zip h0] at e X;have e:=(a0g e).symm;subst e X;exact F _ _ ⟨dM.trans (eI.up fun _ h=>h.1),J⟩
  rw[bX h0] at e X;obtain⟨rfl,X⟩:=X;obtain⟨B2,eI⟩:=rp.store X eI;have AB:dc D w w3:=yF;have s3:=eI.size;obtain⟨x,xo,hfm⟩:=B2.cur;have xo:m2.fs[m2.f]?=O x:=xo;rw[xo] at e;simp only at e;obtain⟨⟨CF,L,vn,Pc⟩,aOH,-⟩:=hfm;have L:w3.heap[C m2.f]?=aN #[pp CF,cM (ψ2 m2.f) x.slots.length x.slots.length,zi (x.entry:Nat),Bt C x.back,zi (x.pc:Nat)] 203:=L;have Yo:=j.fr _ _ xo;have aOF:=j.pc;obtain⟨insv,gF,xe⟩:=id vn;obtain⟨ga,gc,zj⟩:∃ a c,insv = .slice a x.code.ins.length c:=by
   grind
  have c3:w3.heap[vb]?=aN #[pp cb,W,zi (m2.sr.dec.fuel:Nat),pp (C m2.f),zi (m2.pc:Nat),U] 116:=B2.cell;have l3:=bf c3;have lf3:=bf L;have XH:=bf gF;subst zj;have ad9:Ext w3 w3.drew:=yF;refine bD ?_;refine⟨fun _ w'=>w'=w3.drew/\m2.pc<x.code.ins.length,?_,?_⟩
  .by_cases I:m2.pc<x.code.ins.length
   .have Lf:¬ (m2.pc:Int) ≥ (x.code.ins.length:Int):=zo;refine dC @c3 L gF Lf ?_;omega
   .have Lf:(m2.pc:Int) ≥ (x.code.ins.length:Int):=zo;rw[List.getElem?_eq_none zo] at e;cases e;refine dC @c3 L gF Lf ?_;exact F _ _ ⟨yF,J⟩
  rintro z2 w4 ⟨rfl,I⟩ d4;clear d4;have aOI:Ext w3 w3.drew.drew:=ad9.drew;rw[a0e I] at e;obtain⟨i,NQ⟩:=b9 (x.code.ins[m2.pc]);rw[<- NQ] at e;have hiq:x.code.ins[m2.pc]?=O i:=zg;rcases xe with⟨o,-⟩| ⟨g,cap,cur,o,gT,AX,jh,aOK⟩
  .rw[o] at I;simp at I
  simp only[Value.slice.injEq,true_and] at o;obtain⟨rfl,rfl⟩:=o;have Iu:=aOK _ _ hiq;have y9:(m2.pc:Int)<(x.code.ins.length:Int):=zo;have ept:(m2.pc:Int).toNat=m2.pc:=zo;simp only at e;obtain⟨m3,PZ⟩:∃ m3:Vm,m3={ m2 with sr:=m2.sr.dec,pc:=m2.pc+1 }:=⟨_,J⟩;obtain⟨k,oc⟩:=b9 (bO w3.drew.drew vb (ae #[pp cb,W,zi (m2.sr.dec.fuel:Nat),pp (C m2.f),zi ((m2.pc+1:Nat):Int),U] 116));obtain⟨rX,lX⟩:=(B2.ext aOI).own (w':=k) (f':=m2.f) (pc':=m2.pc+1) (yF) (yH) j.f;have rX:fX D xW ⟨C,ψ2,vb,cb,fm⟩ U W PO k m3:=zg;have Bo:dc D w3 k:=yF;have G9:dc D w k:=yF;have Yp:=dc.toI Bo;have s5:=Bo.size;have c5:=rX.cell;have T7:=Yp _ _ _ (yM) L;have M:=Yp _ _ _ (yM) AX;have lf5:=bf T7;have lg5:=bf M;have N:=(hC.fr G9).cell;have aXQ:=bf N;have aOL:AH k g (m2.pc*4) i:=⟨cur,M,zo,Iu.bI Yp⟩;have MA:=Iu.word;have Q:um x.code.slots i:=by rw[NQ];exact Yo.code.ins _ (List.getElem_mem _)
  have aXR:=Yo.code.len;have hB1:1<=B:=by have:=j.nj;omega
  have A6:gD (B-1) m3:=by
   have hf:m2.sr.dec.fuel=m2.sr.fuel-1:=rfl;have hp:m2.sr.tr.length+m2.sr.fuel<=B:=j.cS;have yX:=j.nj;rw[PZ];exact⟨j.f,j.fr,j.ag,j.marks,j.mono,by show m2.sr.tr.length+(m2.sr.fuel-1)<=B-1;omega,zg,zg,j.wJ,j.xL⟩
  have aXS:gD B m3:=(by grind [gD.up]);have apY:m3.fs[m3.f]?=O x:=zg;have aXT:m3.n=m2.n:=zg;rw[<- PZ] at e;refine dC @c3 L gF @ept ?_;have e1:bO w3.drew.drew vb (ae #[pp cb,W,zi (m2.sr.dec.fuel:Nat),pp (C m2.f),zi ((m2.pc:Int)+1),U] 116)=k:=oc.symm;have e2:bO w3.drew.drew vb (ae (ot #[pp cb,W,zi (m2.sr.dec.fuel:Nat),pp (C m2.f),zi (m2.pc:Nat),U] 4 (Value.int .i64 ((m2.pc:Int)+1)).cells.toList) 116 (0,0))=k:=oc.symm;try rw[e1]
  try rw[e2]
  clear e1 e2 oc;refine dy M MA ?_;by_cases H6:i.word=[100,111,110,101]
  .rw[zip H6] at e;have aON:Ext k k.drew:=yF;have S:k.heap[vb]?=aN #[pp cb,W,zi (m3.sr.fuel:Nat),pp (C m2.f),zi (m3.pc:Nat),U] 116:=by
    exact yH
   have l5:=bf S;refine cG H6 ?_;refine⟨fun z w'=>w'=k.drew/\z 86 = .bool (!x.ask),?_,?_⟩
   .cases T8:x.ask with
    | true=>
     have K:=aOH.1 T8;have apZ:=Pc T8;simp only at apZ;subst apZ;rw[K] at T7;simp (disch:=first|assumption|omega|simp only[zS]<;>omega|decide) only[zB,simprocAttr,lh,S,T7,N,Bt];have ap0:k.drew.heap[CF]?=_:=Yp _ _ _ (yM) gF;rw[aOB zk ap0 ap0];simp;rfl
    | false=>
     obtain⟨b,K⟩:∃ b,x.back=O b:=by
      cases K:x.back with
      | none=>grind
      | some b=>grind
     rw[K] at T7;simp (disch:=first|assumption|omega|simp only[zS]<;>omega|decide) only[zB,simprocAttr,lh,S,T7,N,Bt]
   .rintro z3 w6 ⟨rfl,Yq⟩ d6;clear d6;cases T8:x.ask with
    | true=>
     rw[T8] at Yq e;rw[zip rfl] at e;cases e;refine cG Yq ?_;exact F _ _ ⟨yF,J,xW,zg,_,_,_,_,_,rX.ext aON⟩
    | false=>
     rw[T8] at Yq e;rw[bX zd] at e;cases e;refine cG Yq ?_;exact F _ _ ⟨yF,J⟩
  .rw[bX H6] at e;have hH:Lc m3 x i:=⟨apY,Q,Yo.sl,Yo.tm,by have h9:m3.sr.tr.length+m3.sr.fuel<=B-1:=A6.cS;show m3.sr.tr.length+m3.sr.fuel<=_;omega,zg,Q.small⟩;have Nz:=rX.st.ok;have hD5:∀ b,k.heap.size<=b->D b:=yH;refine cG H6 ?_;rw[ept,Nat.zero_add];refine⟨fun z w6=>∃ (ok:Bool) (u:Nat->Nat) (m6:Vm),z 96 = .bool (!ok)/\eo ρ m.n u m6.n/\Bu D u vb cb fm w6 m6/\dc D w w6/\gD B m6/\(if ok then y3 dI d n m6=O r else r = .ok (G,m6)),?_,?_⟩
   .cases t:vi dI d i m3 with
    | none=>rw[t] at e;cases e
    | some q=>
    rw[t] at e;have y5:=aOC rX hD5 (hC.fr G9) se aOL hH H6 t;refine a0c y5 ?_;rintro E w6 ⟨jX,lz⟩;have Yr:=G9.trans jX;cases q with
    | error te=>
     cases e;have lz:E=gV te:=lz;subst lz;cases te<;>exact F _ _ ⟨Yr,J⟩
    | ok q=>
     obtain⟨b6,m6⟩:=q;obtain⟨rfl,u,X5,Qr⟩:=lz;have aOO:eo ρ m.n u m6.n:=(by grind [eo.trans]);have pw:gD B m6:=by
      have h9:=(amf A6 Nz apY Q se t).1;grind
     have e:(if b6=A then y3 dI d n m6 else match m6.back with
      | none=>V
      | some (G,m)=>O (.ok (G,m))
      | some (A,m)=>y3 dI d n m)=O r:=e
     cases b6 with
     | true=>
      refine bD ?_;exact⟨A,u,m6,zg,aOO,Qr,Yr,pw,zg⟩
     | false=>
      simp only[Bool.false_eq_true,if_false] at e;cases Bq:m6.back with
      | none=>rw[Bq] at e;cases e
      | some q7=>
      rw[Bq] at e;obtain⟨φ6,ψ6,av6,tv6,aXX,vE⟩:=Qr;have s6:=jX.size;obtain⟨aXY,aXZ,aX0⟩:=hlen pw;refine bD ?_;refine a0c (apn vE yH (wu pw) zg zg Bq) ?_;rintro E w7 ⟨Gl,rfl,h7⟩;obtain⟨b7,m7⟩:=q7;have hn7:m7.n=m6.n:=P.apU Bq;have Xy:eo ρ m.n u m7.n:=zg;have hg7:gD B m7:=pw.back Bq;cases b7 with
      | true=>
       refine bD ?_;exact⟨A,u,m7,zg,Xy,h7,yF,hg7,zg⟩
      | false=>
       refine bD ?_;exact⟨G,u,m7,zg,Xy,h7,yF,hg7,zg⟩
   .rintro z6 w6 ⟨ok,u,m6,h96,X5,Qr,Yr,pw,X0⟩ d6;clear d6;cases ok with
    | true=>
     refine cG h96 ?_;exact yF
    | false=>
     refine cG h96 ?_;have X0:r = .ok (G,m6):=zg;subst X0;exact F _ _ ⟨Yr,J,u,X5,Qr⟩
end
def aOR{ask:Co}(hC:yf w cb pb fm told dI)(r:Fu w fm ask)(M:ask.slots<=64) :
  Calls bae 35 #[pp cb] w fun e w'=>Ext w w'/\∃ q,e = ah (pp q)/\w.heap.size<=q/\∀ (D:Nat->Prop) (ρ:Nat->Nat),(∀ b,w.heap.size<=b->D b)->Bu D ρ q cb fm w' (Iw ask):=by
 obtain⟨s,-⟩:=hC;obtain⟨insv,B,N⟩:=id r;have C:Ext w w.drew:=yF;have E:ask.slots<=1000000:=zo;refine aMN ?_;refine⟨fun w'=>Ext w w',C,?_⟩;rw[jx];refine cQ (pq cb 1) (fun w' t=>eQ) ?_;refine cQ (pp fm) (fun w' t=>by have d:=t.ext _ _ s;have:=bf d;exact fg d) ?_;refine dy s B ?_;obtain⟨wr,F⟩:=b9 (w.drew.alloc (ae (madeCells #[ai] ask.slots) 20 (0,0)));have f:Ext w wr:=yF;have sr:wr.heap.size=w.heap.size+1:=yH;have P:wr.heap[w.heap.size]?=aN (madeCells #[ai] ask.slots) 20:=yH;rw[<- F];refine⟨f,?_⟩;obtain⟨wf,H⟩:=b9 (wr.alloc (ae #[pp fm,cM w.heap.size ask.slots ask.slots,zi 0,aq V,zi 0] 203));have I:Ext wr wf:=yF;have sf:wf.heap.size=w.heap.size+2:=yH;have h:wf.heap[w.heap.size+1]?=aN #[pp fm,cM w.heap.size ask.slots ask.slots,zi 0,aq V,zi 0] 203:=yH;obtain⟨k,l⟩:=b9 (wf.alloc (ae #[pp cb,bH,zi 0,pp (w.heap.size+1),zi 0,bH] 116));have m:Ext wf k:=yF;have n:k.heap[w.heap.size+2]?=aN #[pp cb,bH,zi 0,pp (w.heap.size+1),zi 0,bH] 116:=yH;rw[<- H,<- l];have u:Ext w k:=yF;refine⟨yF,u,w.heap.size+2,J,zo,fun D ρ hD=>?_⟩;refine⟨fun _=>w.heap.size+1,fun _=>w.heap.size,bH,bH,[],?_⟩;refine⟨⟨⟨fun i j a=>absurd a (a2g _),fun i a=>absurd a (a2g _)⟩,fun i a=>absurd a (a2g _),n,a0z _ _ _ _,fun g o=>(by cases o),yH,List.nodup_nil,(fun p K=>by cases K),trivial⟩,
  by show 0<1;omega,fun i x hx=>?_,fun i x b hx Q=>?_,yH,fun i j a c _=>?_,a0z _ _ _ _,J,fun g o=>(by cases o)⟩
 .have a:i=0:=by
   have:=(a0M.1 hx).1;have d:i<1:=this;omega
  subst a;have hx:x=⟨ask,a0P ask.slots .nil,0,V,0,A⟩:=(a0g hx).symm;subst hx;have L:(a0P ask.slots Sl.nil).length=ask.slots:=List.length_replicate;refine⟨⟨fm,?_,r.bI (eM.ea u),yH⟩,zg,madeCells #[ai] ask.slots,yH,by grind [size_madeCells],fun j y c=>?_⟩
  .simp only[L];exact m.ext _ _ h
  .have z:j<ask.slots:=zg;have c:(a0P ask.slots Sl.nil)[j]?=O y:=c;rw[List.getElem?_replicate,zip z] at c;cases c;refine⟨ai,?_,J⟩;have:=aoF ai ask.slots j z;grind
 .have a:i=0:=by
   have:=(a0M.1 hx).1;have d:i<1:=this;omega
  subst a;have hx:x=⟨ask,a0P ask.slots .nil,0,V,0,A⟩:=(a0g hx).symm;grind
 .have R:i<1:=a;have d:j<1:=c;omega
section
variable{D:Nat->Prop}{ρ:Nat->Nat}{vb cb fm:Nat}{w w':Z}{m:Vm}
def aOX(h:Bu D ρ vb cb fm w m){pb told:Nat}{dI:List Pd}(hC:yf w cb pb fm told dI)(ht:∀ x,m.fs[m.f]?=O x->told<=x.slots.length)(B0:told<=100000) :
  Calls bae 36 #[pp vb] w fun e w'=>Ext w w'/\match m.iL (a0C told) with
   | .ok l=>∃ v us,e = ah v/\fD (fun _=>True) w' 89 v us/\pE ρ m.n w' us l
   | .error t=>e=gV t:=by
 obtain⟨φ,ψ,av,tv,di,hx⟩:=h;obtain⟨x,q⟩:∃ x,m.fs[m.f]?=O x:=⟨_,a0e hx.fl⟩;have ht:=ht x q;suffices H:∀ R:Ending->Z->Prop,(∀ c w',Ext w w'->(match m.iL (a0C told) with
   | .ok l=>∃ v us,c = ah v/\fD (fun _=>True) w' 89 v us/\pE ρ m.n w' us l
   | .error t=>c=gV t)->R c w')->Calls bae 36 #[aq (O ⟨vb,0,V⟩)] w R from H _ yF
 intro R K;have c0:w.heap[vb]?=aN #[pp cb,tv,zi (m.sr.fuel:Nat),pp (φ m.f),zi (m.pc:Nat),av] 116:=hx.cell;obtain⟨⟨W,r,-,-⟩,-,X,i,Fx,Fy⟩:=hx.fs _ _ q;have r:w.heap[φ m.f]?=aN #[pp W,cM (ψ m.f) x.slots.length x.slots.length,zi (x.entry:Nat),Bt φ x.back,zi (x.pc:Nat)] 203:=r;have i:w.heap[ψ m.f]?=aN X 20:=i;have oD:=hC.cell;have htc:(told:Int)<=(x.slots.length:Int):=zo;have L:∀ s,sliced (O ⟨ψ m.f,0,V⟩) 0 told x.slots.length s = cM (ψ m.f) told x.slots.length:=(by grind [sliced,Addr.add]);refine aMO ?_;refine dC @c0 r oD L ?_;have dA:Ext w w.drew:=yF;refine⟨fun n z u=>∃ (j:Nat) (y:Y) (us:List Y) (d:List Tm),z 23=zi (j:Nat)/\z 2=y/\j<=told/\n=told-j/\Ext w u/\u.ownsRow w.heap.size 89 1 y j us/\us.length=j/\pE ρ m.n w us d/\m.iL (a0C told)=P.CK d (m.iL ((a0C told).drop j)),
  ⟨_,0,bH,[],[],J,J,Nat.zero_le _,J,dA,a0z _ _ _ _,J,by unfold pE iG;rfl,by rw[List.drop_zero];cases m.iL (a0C told)<;>rfl⟩,?_⟩
 intro n z dz u hI;clear dz;refine toPr ?_;obtain⟨j,y,us,d,o,B,hj,rfl,g,C,uz,M,p⟩:=hI;obtain⟨pa,pc,FB⟩:=gX C;subst FB;have sj:=g.size;by_cases hlt:j<told
 .have Cu:(j:Int)<(told:Int):=zo;have jJ:(j:Int).toNat=j:=zo;have N:=g.ext _ _ i;have lrj:=bf N;obtain⟨E,v,q1,q2,q3,q4⟩:=hx.Ql q (k:=j) zo;have q1:w.heap[ψ m.f]?=aN E 20:=q1;rw[i] at q1;cases q1;have a:=P.afw (m:=m) (ks:=a0C told) (j:=j) (by simpa using hlt) p;simp only[List.getElem_range] at a;have hv:=q4.one;rcases hv with rfl | ⟨Q,S,rfl⟩;all_goals
   refine dC o B Cu (zA @jJ (zA N (zA @q3 L))) ?_;refine a0c (apd _ (q4.bI (eM.ea g) (eo.refl _ _))) ?_;rintro c w2 ⟨rfl,b⟩;cases F:P.vC (m.slot j) with
   | error t=>
    rw[F] at b a;have a:m.iL (a0C told) = .error t:=a;have b:c=gV t:=b;subst b;cases t<;>exact K _ _ g (by rw[a];rfl)
   | ok t=>
    rw[F] at b a;have a:m.iL (a0C told)=P.CK (d++[t]) (m.iL ((a0C told).drop (j+1))):=a;have b:c = ah _:=b;subst b;have I:=P.Yk F;rw[I] at q4;have q4:dL ρ m.n w _ t:=q4;first
     | (exfalso;obtain⟨_,_,h9⟩:=q4.iface;cases h9;done)
     | (simp (disch:=first|assumption|omega|simp only[zS]<;>omega|decide) only[zB,simprocAttr,lh,o,B];have T:(w2.alloc (ae #[aj Q S] 89 (0,0))).ownsRow w.heap.size 89 1 (.slice pa j pc) j us:=jM yH C;refine PD T (qG J) J zo (by rw[size_alloc];omega) ?_;intro v' w' U jz DE;obtain⟨CH,pc',IW⟩:=gX U;subst IW;simp (disch:=first|assumption|omega|simp only[zS]<;>omega|decide) only[zB,simprocAttr,lh,o];exact⟨told-(j+1),zo,j+1,_,us++[aj Q S],d++[t],zg,zg,zo,J,afr yF T jz,U,zg,M.snoc q4,a⟩)
 .have fx:j=told:=zo;subst fx;rw[List.drop_of_length_le zs] at p;have p:m.iL (a0C j) = .ok d:=by grind [Vm.iL,P.CK]
  refine dy o B ?_;exact K _ _ g (by rw[p];exact⟨_,us,J,TF C uz.symm,M.bI (qT.ea g)⟩)
end
def P.ap3(s:Vm)(f:Nat):∀ (ks:List Nat),Vm.iL { s with sr:={ s.sr with fuel:=f } } ks=Vm.iL s ks
 | []=>rfl
 | k::r=>by
  rw[P.afv,P.afv,P.ap3 s f r];rfl
structure VmQ(dI:List Pd)(told vb cb fm pb:Nat)(D:Nat->Prop)(ρ:Nat->Nat)(w:Z)(m:Vm):Prop where
 vm:Bu D ρ vb cb fm w m
 code:yf w cb pb fm told dI
def Qt(dI:List Pd)(told vb cb fm pb:Nat):D7 (vmE dI told) where
 T:=116
 pT:=111
 fN:=205
 fT:=36
 eb:=vb
 tf:=#[pp vb]
 tc:=#[]
 Mem D ρ w m:=VmQ dI told vb cb fm pb D ρ w m
 Good c m:=gD (c*1000000) { m with sr:={ m.sr with fuel:=0 } }/\jG told m/\∃ x,m.fs[m.f]?=O x/\x.ask=A
def fX.aO0{e:AE}{m:Vm}(h:fX D ρ e av tv xs w m){C:Array Y}(a:w.heap[e.vb]?=aN C 116)(hk:G2 e.vb w w')(c:w'.heap[e.vb]?=aN (ky C 1 (f:Int)) 116) :
  fX D ρ e av tv xs w' { m with sr:={ m.sr with fuel:=f } }:=by
 have d:eM w w':=hk.toI (T:=116) (by grind [lC]) a;have i:av.ownBlock≠O e.vb:=(by grind [X8]);exact h.rest ⟨d,fun b cs g=>hk.1 b cs _ zg zo zo g⟩ (eo.refl _ _) (by grind [aeP,ar]) (h.st.ao1 CC hk a c) h.fl
theorem ap4(dI:List Pd)(told vb cb fm pb:Nat)(se:∀ p∈dI,∀ c∈p.clauses,y6 c)(aO1:told<=100000):IT (Qt dI told vb cb fm pb) where
 st:=by
  rintro D ρ w s ⟨⟨φ,ψ,av,tv,di,h⟩,-⟩;exact⟨_,tv,CC,h.st⟩
 ext:=by
  rintro D ρ w w' s ⟨⟨φ,ψ,av,tv,di,h⟩,h2⟩ hE;exact⟨⟨φ,ψ,av,tv,di,h.ext hE⟩,(by grind [eM.ea,yf.bI,bz.ext])⟩
 fuel:=by
  rintro D ρ w w' s C f ⟨⟨φ,ψ,av,tv,di,h⟩,h2⟩ hc hk nQ;have hI:eM w w':=hk.toI (T:=116) (by grind [lC]) hc;have hc:w.heap[vb]?=aN C 116:=hc;exact⟨⟨φ,ψ,av,tv,di,h.aO0 hc hk nQ⟩,h2.bI hI fun l hm=>hk.2 _ _ _ (fun e=>by
   have e:pb=vb:=e;rw[e,hc] at hm;cases hm) hm⟩
 aoJ:=fun s f=>rfl
 aey:=fun s f=>P.ap3 s f (a0C told)
 next:=by
  rintro D ρ w s c d f r ⟨h1,h2⟩ hD ⟨hg,hl,hq⟩ hc hr;have jz:gD (c*1000000+1000000) { s with sr:={ s.sr with fuel:=1000000 } }:=by
   have g1:s.sr.tr.length+0<=c*1000000:=hg.cS;have g2:s.br.length+0<=c*1000000:=hg.nj;exact⟨hg.f,hg.fr,hg.ag,hg.marks,hg.mono,by show s.sr.tr.length+1000000<=_;omega,zg,hg.pc,hg.wJ,hg.xL⟩
  have hr:MQ dI d f { s with sr:={ s.sr with fuel:=1000000 } }=O r:=hr;refine(aOE h1 hD h2 se zo jz hr).mono ?_;rintro e w' ⟨hE,hp⟩;refine⟨hE,?_⟩;cases r with
  | error t=>omega
  | ok p=>
   obtain⟨rfl,eL,hu,hm⟩:=hp;exact⟨J,eL,hm,h2.fr hE⟩
 Ey:=by
  rintro s c d f k ⟨hg,hl,hq⟩ hc-hr;have jz:gD (c*1000000+1000000) { s with sr:={ s.sr with fuel:=1000000 } }:=by
   have g1:s.sr.tr.length+0<=c*1000000:=hg.cS;have g2:s.br.length+0<=c*1000000:=hg.nj;exact⟨hg.f,hg.fr,hg.ag,hg.marks,hg.mono,by show s.sr.tr.length+1000000<=_;omega,zg,hg.pc,hg.wJ,hg.xL⟩
  have hr:MQ dI d f { s with sr:={ s.sr with fuel:=1000000 } }=O (.ok (A,k)):=hr;obtain⟨h1,h2,h3,h4⟩:=aHB se jz (show jG told { s with sr:={ s.sr with fuel:=1000000 } } from⟨hl.tr,hl.fr,hl.ag,⟨hl.sr.E1,hl.sr.ok⟩,hl.ask⟩) hr;refine⟨h3,fun f'=>⟨?_,⟨h2.tr,h2.fr,h2.ag,⟨h2.sr.E1,h2.sr.ok⟩,h2.ask⟩,h4 J⟩⟩;have g1:k.sr.tr.length+k.sr.fuel<=c*1000000+1000000:=h1.cS;have g2:k.br.length+k.sr.fuel<=c*1000000+1000000:=h1.nj;exact⟨h1.f,h1.fr,h1.ag,h1.marks,h1.mono,by show k.sr.tr.length+0<=(c+1)*1000000;omega,by show k.br.length+0<=(c+1)*1000000;omega,h1.pc,h1.wJ,h1.xL⟩
 told:=by
  rintro D ρ w s ⟨h1,h2⟩ ⟨c,f,-,hl,x,hx,hk⟩;have hx:s.fs[s.f]?=O x:=hx;exact aOX h1 h2 (fun y hy=>by rw[hx] at hy;cases hy;exact hl.ask _ _ hx hk) aO1
 aez:=by
  rintro s c l ⟨hg,hl,x,hx,hk⟩ h;have hF:=hg.fr _ _ hx;exact WM (SI hx hF.tm h).1
 aeA:=fun w=>by
  show(method (Tryz.prog.types.size+Made.depth) 111 (pp vb) "Next").run bae w = .ok (205,pp vb) w
  kernel_rfl
 cN:=by show zC bae 205=A;kernel_rfl
 cT:=by show zC bae 36=A;kernel_rfl
def qw(w:Z)(wb:Nat)(out:Bs):Prop:=
 ∃ a buf,(a = aq V\/a=pp wb)/\w.heap[wb]?=aN #[a,buf] 100/\w.ownsRow (wb+1) 5 1 buf out.length (uq out)
def aO2:liesAt bae Tryz.prog.depth 100 (2 / Tryz.prog.cellsOf 100) 0 100 1=true:=zk
def aO3(h:w.heap[b]?=aN #[pp b,buf] 100) :
  Calls bae 82 #[pp b] w fun e w'=>e = ah (ak #[])/\w'=w:=by
 obtain⟨j,hj,_⟩:=a0B.1 Xa;have h0:w.cell? ⟨b,0,V⟩=O (pp b):=by grind [World.cell?]
 go_enter func82,ntmps82
 go_wp2
 rw[Lib.run_neq_ptr_same w _ underlying97 hj]
 go_wp2
 go_end0
 grind
def aO4(h:w.heap[b]?=aN #[aq V,buf] 100) :
  Calls bae 82 #[pp b] w fun e w'=>e = ah (ak #[])/\w'=w.setCell ⟨b,0,V⟩ (pp b):=by
 obtain⟨j,hj,Pp⟩:=a0B.1 Xa;have h0:w.cell? ⟨b,0,V⟩=O (aq V):=by grind [World.cell?]
 have HW:w.frozen? ⟨b,0,V⟩=false:=jL h 0;have si:w.shape? b=O (100,2):=by grind [World.shape?]
 go_enter func82,ntmps82
 go_wp2
 rw[Lib.run_to_unsafe w ⟨b,0,V⟩ underlying97 underlying155 hj zo si (Nat.zero_lt_succ 1)];simp only[a00];rw[a2x]
 go_wp2
 rw[run_callFunc_extern func110 zk zk zk (e:=Extern.AbiNoEscape.same) zk];rw[Lib.run_noEscape];simp only[a00];rw[a2x]
 go_wp2
 rw[Lib.run_from_unsafe w ⟨b,0,V⟩ underlying155 underlying97 hj si aO2];simp only[a00];rw[a2x]
 go_wp2
 go_end0
 grind
def ap5(h:qw w wb out) :
  Calls bae 82 #[pp wb] w fun e w'=>e = ah (ak #[])/\jH wb w w'/\w'.heap.size=w.heap.size/\∃ buf,
   w'.heap[wb]?=aN #[pp wb,buf] 100/\w'.ownsRow (wb+1) 5 1 buf out.length (uq out):=by
 obtain⟨d,buf,b,a,c⟩:=h;rcases b with rfl | rfl
 .refine(aO4 a).mono ?_;rintro e w' ⟨rfl,rfl⟩;rw[uO a];refine⟨J,(bz.refl _ _).bO (.inl fun _=>.inl J),yH,buf,yH,(by grind [JE])⟩
 .refine(aO3 a).mono ?_;rintro e w' ⟨rfl,rfl⟩;exact⟨J,bz.refl _ _,J,buf,a,c⟩
def ap6(h:qw w wb out)(s:Bs)(f:out.length+s.length<=1000000000) :
  Calls bae 44 #[pp wb,aM s] w fun e w'=>(∃ v,e = ah v)/\qw w' wb (out++s)/\jH wb w w':=by
 refine anb ?_;refine(ap5 h).mono ?_;rintro e w1 ⟨rfl,g,s1,buf,b,a⟩;have i:=bf b;refine cG b ?_;refine aiD (e:=5) zk a s f zo ?_;intro v' w2 o2 c hv;have d:w2.heap[wb]?=aN #[pp wb,buf] 100:=by
  rw[c.block wb i (fun e=>by have:=(a.lt wb e.symm).1;omega)];omega
 have j:=bf d;obtain⟨l,rc,rfl⟩:=gX o2;refine cG d ?_;have k:jH wb w1 w2:=jH.Xc a c;refine⟨⟨_,J⟩,⟨_,_,.inr J,pX J j,JE ?_ zo⟩,(g.trans k).bO (.inl fun _=>.inl J)⟩;grind
def aO5(h:qw w wb out)(c:UInt8)(j:out.length+1<=1000000000) :
  GG (pp wb) (.int .u8 c.toNat) w fun e w'=>(∃ v,e = ah v)/\qw w' wb (out++[c])/\jH wb w w':=by
 obtain⟨i,k,d⟩:=a0B.1 ang;simp only[Prod.mk.injEq] at d;obtain⟨l,n,o⟩:=d;unfold GG;refine a0c (ap5 h) ?_;rintro e w1 ⟨rfl,p,s1,buf,f,a⟩;have s:=bf f;refine dy @GG.eq_1 f ?_;refine Sx.C6 (m:=1) (t:=98) (e:=5) zk k l n o J zd (a.alloc _) (blk_alloc_new _ _) J (fun u hu=>?_) j zd (by rw[size_alloc];omega) ?_
 .simp only[a0n,a0v,or_false] at hu;subst hu;rfl
 intro v' w2 o2 b hv;have s2:=b.size;rw[size_alloc] at s2;have g:w2.heap[wb]?=aN #[pp wb,buf] 100:=by
  rw[b.block wb (yH) (fun e=>by have:=(a.lt wb e.symm).1;omega)];exact yH
 have q:=bf g;obtain⟨x,rc,rfl⟩:=gX o2;refine dy @GG.eq_1 g ?_;have r:jH wb w1 w2:=((bz.refl _ _).alloc _).trans (jH.Xc (a.alloc _) b);refine⟨⟨_,J⟩,⟨_,_,.inr J,pX J q,JE ?_ zo⟩,(p.trans r).bO (.inl fun _=>.inl J)⟩;grind
def aO6(h:qw w wb out)(c:UInt8)(a:out.length+1<=1000000000) :
  Calls bae 95 #[pp wb,.int .u8 c.toNat] w fun e w'=>(∃ v,e = ah v)/\qw w' wb (out++[c])/\jH wb w w':=
 anc (aO5 h c a)
def aO7(h:qw w wb out)(h0:out≠[]) :
  Calls bae 33 #[pp wb] w fun e w'=>e = ah (aM out)/\jH wb w w':=by
 obtain⟨ad,buf,GH,hb,ho⟩:=h;have qF:out.length≠0:=zg;obtain⟨g,cap,cur,rfl,Zu,hg,uJ,CY,jh,Zv⟩:∃ g cap cur,buf = cM g out.length cap/\wb+1<=g/\w.heap[g]?=aN cur 5/\out.length<=cap/\cap<=maxLen/\cur.size=cap*1/\cur.toList.take (out.length*1)=uq out:=by
  rcases ho.2 with⟨_,hz⟩| ⟨g,cap,cur,hv,r⟩
  .exact yH
  .exact⟨g,cap,cur,hv,r⟩
 have nE:w.drew.heap[wb]?=aN #[ad,cM g out.length cap] 100:=hb;have c1:w.drew.cell? ⟨wb,1,V⟩=O (cM g out.length cap):=by grind [World.cell?]
 have hSD:(Builtin.unsafeSliceData_ #[98] 181 #[cM g out.length cap]).run bae w.drew = .ok (pp g) w.drew:=
  (by grind [Lib.run_unsafeSliceData_row])
 have hUS:(Builtin.unsafeString_ #[181,3] 9 #[pp g,zi out.length]).run bae w.drew = .ok (aM out) (w.drew.freeze ⟨g,0,V⟩ out.length):=by
  refine Lib.run_unsafeString_row w.drew 181 3 9 5 underlying181 anj g cur.size (by have jz:w.drew.heap[g]?=aN cur 5:=hg;grind [World.shape?]) out h0 zo (by grind [maxLen]) ?_;intro j x hx;have:=ho.cells (g:=g) J j (.int .u8 x.toNat) zg;exact this
 go_enter func33,ntmps33
 go_wp2
 go_region
 all_goals (go_wp2;go_ret;exact⟨J,(bz.drew (bz.refl _ _)).trans (ank zo hg)⟩)
def CM{C:Array Y}(hm:C.size=m)(a:g=w.heap.size){K:Y->Z->Prop}:WR bae (convert 98 98 (cM g n c)) (w.alloc (ae C 5 (0,0))) K X=K (cM g n c) (w.alloc (ae C 5 (m,m+1))):=by
 subst a hm;unfold WR;rw[Lib.run_convert_bytes_const w 98 5 C n c zk zk]
def I0(w:Z)(mb:Nat)(v:Y)(sh:Bs):Prop:=(sh=[]/\v = bH)\/∃ b z,sh≠[]/\v = cM b sh.length sh.length/\b≠mb/\w.heap[b]?=O (ae (uq sh).toArray 5 z)
theorem I0.bI{sh:Bs}(h:I0 w mb v sh)(hk:∀ b o,b≠mb->w.heap[b]?=O o->w'.heap[b]?=O o):I0 w' mb v sh:=by
 rcases h with h | ⟨b,z,a,c,d,e⟩
 .exact .inl h
 .exact .inr yH
structure qx(w:Z)(mb:Nat)(l:List (Bs×Y)):Prop where
 map:w.heap[mb]?=O (eJ l)
 row:∀ p∈l,∃ sh,mL p.1=O sh/\I0 w mb p.2 sh
theorem qx.step{l:List (Bs×Y)}(h:qx w mb l){sh:Bs}(c:mL wd=O sh)(f:sh≠[]) :
  qx (bO (w.alloc (ae (uq sh).toArray 5 (sh.length,sh.length+1))) mb (eJ (l++[(wd,cM w.heap.size sh.length sh.length)]))) mb (l++[(wd,cM w.heap.size sh.length sh.length)]):=by
 have lm:=bf h.map;refine⟨yH,fun p a=>?_⟩;rcases List.mem_append.1 a with a | a
 .obtain⟨b,d,e⟩:=h.row p a;exact⟨b,d,e.bI yH⟩
 .rw[List.mem_singleton] at a;subst a;refine⟨sh,c,?_⟩;have g:(bO (w.alloc (ae (uq sh).toArray 5 (sh.length,sh.length+1))) mb (eJ (l++[(wd,cM w.heap.size sh.length sh.length)]))).heap[w.heap.size]?=O (ae (uq sh).toArray 5 (sh.length,sh.length+1)):=by
   exact yH
  exact .inr yH
def qx.ap7{l:List (Bs×Y)}(h:qx w mb l)(b:mL wd=O []):qx (bO w mb (eJ (l++[(wd,bH)]))) mb (l++[(wd,bH)]):=by
 refine⟨pX J (bf h.map),fun p a=>?_⟩;rcases List.mem_append.1 a with a | a
 .grind [jd,row,I0.bI]
 .rw[List.mem_singleton] at a;subst a;exact⟨[],b,.inl ⟨J,J⟩⟩
theorem zl{s:Bs}:∀ {l:List (Bs×Y)} {i:Nat},s ∉ l.map a1y->fH s l i=V
 | [],_,_=>rfl
 | (u,v)::r,i,h=>by
  unfold fH;rw[bX (fun e=>h (by simp [e]))];exact zl zg
def aO9{l:List (Bs×Y)}(h:fH s l i=O (j,v)):(s,v)∈l:=List.mem_of_getElem? (XS h).2
def aPa{sh:Bs}(h:mL wd=O sh):wd∈[P.ug,E3,DK,E5,Ir,Is,nk,vh,qO,kW,kx,jP,Ao,MT,MU]:=by
 simp only[a0n,a0v,or_false];rcases Pf h with⟨hw,-⟩| ⟨hw,-⟩| ⟨hw,-⟩| ⟨hw,-⟩| ⟨hw,-⟩| ⟨hw,-⟩| ⟨hw,-⟩<;>(first | (rcases hw with rfl | rfl | rfl | rfl<;>simp) | (rcases hw with rfl | rfl<;>simp) | (subst hw;simp))
abbrev ap8:List Bs:=[P.ug,E3,DK,E5,Ir,Is,nk,vh,qO,kW,kx,jP,Ao,MT,MU]
theorem qx.find{w:Z}{mb:Nat}{l:List (Bs×Y)}(h:qx w mb l)(hk:l.map a1y=ap8)(wd:Bs):match fH wd l 0 with
  | none=>mL wd=V
  | some (_,v)=>∃ sh,mL wd=O sh/\I0 w mb v sh:=by
 cases b:fH wd l 0 with
 | none=>
  simp only;cases c:mL wd with
  | none=>rfl
  | some sh=>
   have hm:=aPa c;rw[show [P.ug,E3,DK,E5,Ir,Is,nk,vh,qO,kW,kx,jP,Ao,MT,MU]=l.map a1y from hk.symm] at hm;obtain⟨p,d,rfl⟩:=List.mem_map.1 hm;exfalso;have:∀ (l:List (Bs×Y)) (i:Nat),p∈l->fH p.1 l i≠none:=by
    intro l;induction l with
    | nil=>grind
    | cons a r ih=>
     intro i d;obtain⟨u,v⟩:=a;unfold fH;grind
   grind
 | some q=>
  obtain⟨j,v⟩:=q;exact h.row _ (aO9 b)
def ap9(w:Z):Calls bae 101 #[] w fun e w'=>Ext w w'/\∃ mb l,e = ah (.map (O mb))/\w.heap.size<=mb/\qx w' mb l/\l.map a1y=ap8:=by
 refine aOn ?_;refine bD ?_;obtain⟨w0,M⟩:=b9 (w.alloc (.map #[] 0));have mU:Ext w w0:=yF;have N:qx w0 w.heap.size []:=⟨by rw[M];exact qG J,yH⟩;have s0:w0.heap.size=w.heap.size+1:=yH;obtain⟨mb,K0⟩:=b9 w.heap.size;rw[<- M,<- s0];rw[<- K0] at N ⊢;clear M;have k1:fH [110,101,119] [] 0=none:=zl zs;have a1:=N.step (wd:=[110,101,119]) (sh:=[115]) zd zs;have IN:(w0.alloc (ae #[.int .u8 115] 5 (1,1+1))).heap[mb]?=O (eJ []):=((bz.refl (fun _ _=>False) _).alloc _).block _ _ N.map zg;rw[CM (m:=1) J rfl];rw[xX (k:=9) (e:=98) zk zk IN [110,101,119] k1];obtain⟨w1,e1⟩:=b9 (bO (w0.alloc (ae #[.int .u8 115] 5 (1,1+1))) mb (eJ ([]++[([110,101,119],cM w0.heap.size 1 1)])));obtain⟨b,f1⟩:=b9 (([]:List (Bs×Y))++[([110,101,119],a0m (O ⟨w0.heap.size,0,V⟩) 1 1)]);have h1:qx w1 mb b:=zg;have dB:Ext w w1:=yF;have m1:b.map a1y=[[110,101,119]]:=zg;rw[<- e1];clear e1 f1 a1;refine bD ?_;have k2:fH [112,117,116] b 0=none:=(by grind [zl]);have a2:=h1.step (wd:=[112,117,116]) (sh:=[115,99]) zd zs;have nH:(w1.alloc (ae #[.int .u8 115,.int .u8 99] 5 (2,2+1))).heap[mb]?=O (eJ b):=((bz.refl (fun _ _=>False) _).alloc _).block _ _ h1.map zg;rw[CM (m:=2) J rfl];rw[xX (k:=9) (e:=98) zk zk nH [112,117,116] k2];obtain⟨w2,e2⟩:=b9 (bO (w1.alloc (ae #[.int .u8 115,.int .u8 99] 5 (2,2+1))) mb (eJ (b++[([112,117,116],cM w1.heap.size 2 2)])));obtain⟨c,f2⟩:=b9 (b++[([112,117,116],a0m (O ⟨w1.heap.size,0,V⟩) 2 2)]);have h2:qx w2 mb c:=zg;have dM:Ext w w2:=yF;have m2:c.map a1y=[[110,101,119],[112,117,116]]:=zg;rw[<- e2];clear e2 f2 a2;refine bD ?_;have k3:fH [99,111,110,115,116] c 0=none:=(by grind [zl]);have a3:=h2.step (wd:=[99,111,110,115,116]) (sh:=[115,99]) zd zs;have PZ:(w2.alloc (ae #[.int .u8 115,.int .u8 99] 5 (2,2+1))).heap[mb]?=O (eJ c):=((bz.refl (fun _ _=>False) _).alloc _).block _ _ h2.map zg;rw[CM (m:=2) J rfl];rw[xX (k:=9) (e:=98) zk zk PZ [99,111,110,115,116] k3];obtain⟨w3,e3⟩:=b9 (bO (w2.alloc (ae #[.int .u8 115,.int .u8 99] 5 (2,2+1))) mb (eJ (c++[([99,111,110,115,116],cM w2.heap.size 2 2)])));obtain⟨d,f3⟩:=b9 (c++[([99,111,110,115,116],a0m (O ⟨w2.heap.size,0,V⟩) 2 2)]);have h3:qx w3 mb d:=zg;have eI:Ext w w3:=yF;have m3:d.map a1y=[[110,101,119],[112,117,116],[99,111,110,115,116]]:=zg;rw[<- e3];clear e3 f3 a3;refine bD ?_;have k4:fH [115,97,109,101] d 0=none:=(by grind [zl]);have a4:=h3.step (wd:=[115,97,109,101]) (sh:=[115,115]) zd zs;have P:(w3.alloc (ae #[.int .u8 115,.int .u8 115] 5 (2,2+1))).heap[mb]?=O (eJ d):=((bz.refl (fun _ _=>False) _).alloc _).block _ _ h3.map zg;rw[CM (m:=2) J rfl];rw[xX (k:=9) (e:=98) zk zk P [115,97,109,101] k4];obtain⟨f,e4⟩:=b9 (bO (w3.alloc (ae #[.int .u8 115,.int .u8 115] 5 (2,2+1))) mb (eJ (d++[([115,97,109,101],cM w3.heap.size 2 2)])));obtain⟨g,f4⟩:=b9 (d++[([115,97,109,101],a0m (O ⟨w3.heap.size,0,V⟩) 2 2)]);have h4:qx f mb g:=zg;have fZ:Ext w f:=yF;have m4:g.map a1y=[[110,101,119],[112,117,116],[99,111,110,115,116],[115,97,109,101]]:=zg;rw[<- e4];clear e4 f4 a4;refine bD ?_;have k5:fH [109,97,107,101] g 0=none:=(by grind [zl]);have a5:=h4.step (wd:=[109,97,107,101]) (sh:=[115,110,42]) zd zs;have IQ:(f.alloc (ae #[.int .u8 115,.int .u8 110,.int .u8 42] 5 (3,3+1))).heap[mb]?=O (eJ g):=((bz.refl (fun _ _=>False) _).alloc _).block _ _ h4.map zg;rw[CM (m:=3) J rfl];rw[xX (k:=9) (e:=98) zk zk IQ [109,97,107,101] k5];obtain⟨h,e5⟩:=b9 (bO (f.alloc (ae #[.int .u8 115,.int .u8 110,.int .u8 42] 5 (3,3+1))) mb (eJ (g++[([109,97,107,101],cM f.heap.size 3 3)])));obtain⟨i,f5⟩:=b9 (g++[([109,97,107,101],a0m (O ⟨f.heap.size,0,V⟩) 3 3)]);have h5:qx h mb i:=zg;have lX:Ext w h:=yF;have m5:i.map a1y=[[110,101,119],[112,117,116],[99,111,110,115,116],[115,97,109,101],[109,97,107,101]]:=zg;rw[<- e5];clear e5 f5 a5;refine bD ?_;have k6:fH [115,112,108,105,116] i 0=none:=zl zg;have a6:=h5.step (wd:=[115,112,108,105,116]) (sh:=[115,110,42]) zd zs;have Qr:(h.alloc (ae #[.int .u8 115,.int .u8 110,.int .u8 42] 5 (3,3+1))).heap[mb]?=O (eJ i):=((bz.refl (fun _ _=>False) _).alloc _).block _ _ h5.map zg;rw[CM (m:=3) J rfl];rw[xX (k:=9) (e:=98) zk zk Qr [115,112,108,105,116] k6];obtain⟨j,e6⟩:=b9 (bO (h.alloc (ae #[.int .u8 115,.int .u8 110,.int .u8 42] 5 (3,3+1))) mb (eJ (i++[([115,112,108,105,116],cM h.heap.size 3 3)])));obtain⟨n,f6⟩:=b9 (i++[([115,112,108,105,116],a0m (O ⟨h.heap.size,0,V⟩) 3 3)]);have h6:qx j mb n:=zg;have jX:Ext w j:=yF;have m6:n.map a1y=[[110,101,119],[112,117,116],[99,111,110,115,116],[115,97,109,101],[109,97,107,101],[115,112,108,105,116]]:=by rw[f6,a09,m5];rfl
 rw[<- e6];clear e6 f6 a6;refine bD ?_;have k7:fH [116,101,115,116] n 0=none:=zl zg;have a7:=h6.step (wd:=[116,101,115,116]) (sh:=[110,42]) zd zs;have Q:(j.alloc (ae #[.int .u8 110,.int .u8 42] 5 (2,2+1))).heap[mb]?=O (eJ n):=((bz.refl (fun _ _=>False) _).alloc _).block _ _ h6.map zg;rw[CM (m:=2) J rfl];rw[xX (k:=9) (e:=98) zk zk Q [116,101,115,116] k7];obtain⟨o,e7⟩:=b9 (bO (j.alloc (ae #[.int .u8 110,.int .u8 42] 5 (2,2+1))) mb (eJ (n++[([116,101,115,116],cM j.heap.size 2 2)])));obtain⟨p,f7⟩:=b9 (n++[([116,101,115,116],a0m (O ⟨j.heap.size,0,V⟩) 2 2)]);have h7:qx o mb p:=zg;have Gl:Ext w o:=yF;have m7:p.map a1y=[[110,101,119],[112,117,116],[99,111,110,115,116],[115,97,109,101],[109,97,107,101],[115,112,108,105,116],[116,101,115,116]]:=by rw[f7,a09,m6];rfl
 rw[<- e7];clear e7 f7 a7;refine bD ?_;have k8:fH [109,97,114,107] p 0=none:=zl zg;have a8:=h7.step (wd:=[109,97,114,107]) (sh:=[115]) zd zs;have R:(o.alloc (ae #[.int .u8 115] 5 (1,1+1))).heap[mb]?=O (eJ p):=((bz.refl (fun _ _=>False) _).alloc _).block _ _ h7.map zg;rw[CM (m:=1) J rfl];rw[xX (k:=9) (e:=98) zk zk R [109,97,114,107] k8];obtain⟨q,e8⟩:=b9 (bO (o.alloc (ae #[.int .u8 115] 5 (1,1+1))) mb (eJ (p++[([109,97,114,107],cM o.heap.size 1 1)])));obtain⟨r,f8⟩:=b9 (p++[([109,97,114,107],a0m (O ⟨o.heap.size,0,V⟩) 1 1)]);have h8:qx q mb r:=zg;have sI:Ext w q:=yF;have m8:r.map a1y=[[110,101,119],[112,117,116],[99,111,110,115,116],[115,97,109,101],[109,97,107,101],[115,112,108,105,116],[116,101,115,116],[109,97,114,107]]:=by rw[f8,a09,m7];rfl
 rw[<- e8];clear e8 f8 a8;refine bD ?_;have k9:fH [108,101,118,101,108] r 0=none:=zl (by rw[m8];decide);have a9:=h8.step (wd:=[108,101,118,101,108]) (sh:=[115]) zd zs;have S:(q.alloc (ae #[.int .u8 115] 5 (1,1+1))).heap[mb]?=O (eJ r):=((bz.refl (fun _ _=>False) _).alloc _).block _ _ h8.map zg;rw[CM (m:=1) J rfl];rw[xX (k:=9) (e:=98) zk zk S [108,101,118,101,108] k9];obtain⟨s,e9⟩:=b9 (bO (q.alloc (ae #[.int .u8 115] 5 (1,1+1))) mb (eJ (r++[([108,101,118,101,108],cM q.heap.size 1 1)])));obtain⟨t,f9⟩:=b9 (r++[([108,101,118,101,108],a0m (O ⟨q.heap.size,0,V⟩) 1 1)]);have h9:qx s mb t:=zg;have kK:Ext w s:=yF;have m9:t.map a1y=[[110,101,119],[112,117,116],[99,111,110,115,116],[115,97,109,101],[109,97,107,101],[115,112,108,105,116],[116,101,115,116],[109,97,114,107],[108,101,118,101,108]]:=by rw[f9,a09,m8];rfl
 rw[<- e9];clear e9 f9 a9;refine bD ?_;have NR:fH [99,117,116] t 0=none:=zl (by rw[m9];decide);have T:=h9.step (wd:=[99,117,116]) (sh:=[115]) zd zs;have NS:(s.alloc (ae #[.int .u8 115] 5 (1,1+1))).heap[mb]?=O (eJ t):=((bz.refl (fun _ _=>False) _).alloc _).block _ _ h9.map zg;rw[CM (m:=1) J rfl];rw[xX (k:=9) (e:=98) zk zk NS [99,117,116] NR];obtain⟨u,C⟩:=b9 (bO (s.alloc (ae #[.int .u8 115] 5 (1,1+1))) mb (eJ (t++[([99,117,116],cM s.heap.size 1 1)])));obtain⟨l10,f10⟩:=b9 (t++[([99,117,116],a0m (O ⟨s.heap.size,0,V⟩) 1 1)]);have tn:qx u mb l10:=zg;have FC:Ext w u:=yF;have m10:l10.map a1y=[[110,101,119],[112,117,116],[99,111,110,115,116],[115,97,109,101],[109,97,107,101],[115,112,108,105,116],[116,101,115,116],[109,97,114,107],[108,101,118,101,108],[99,117,116]]:=by rw[f10,a09,m9];rfl
 rw[<- C];clear C f10 T;refine bD ?_;have U:fH [116,114,121] l10 0=none:=zl (by rw[m10];decide);have W:=tn.step (wd:=[116,114,121]) (sh:=[112]) zd zs;have X:(u.alloc (ae #[.int .u8 112] 5 (1,1+1))).heap[mb]?=O (eJ l10):=((bz.refl (fun _ _=>False) _).alloc _).block _ _ tn.map zg;rw[CM (m:=1) J rfl];rw[xX (k:=9) (e:=98) zk zk X [116,114,121] U];obtain⟨x,D⟩:=b9 (bO (u.alloc (ae #[.int .u8 112] 5 (1,1+1))) mb (eJ (l10++[([116,114,121],cM u.heap.size 1 1)])));obtain⟨y,f11⟩:=b9 (l10++[([116,114,121],a0m (O ⟨u.heap.size,0,V⟩) 1 1)]);have Gt:qx x mb y:=zg;have zm:Ext w x:=yF;have m11:y.map a1y=[[110,101,119],[112,117,116],[99,111,110,115,116],[115,97,109,101],[109,97,107,101],[115,112,108,105,116],[116,101,115,116],[109,97,114,107],[108,101,118,101,108],[99,117,116],[116,114,121]]:=by rw[f11,a09,m10];rfl
 rw[<- D];clear D f11 W;refine bD ?_;have k12:fH [106,117,109,112] y 0=none:=zl (by rw[m11];decide);have a12:=Gt.step (wd:=[106,117,109,112]) (sh:=[112]) zd zs;have Ys:(x.alloc (ae #[.int .u8 112] 5 (1,1+1))).heap[mb]?=O (eJ y):=((bz.refl (fun _ _=>False) _).alloc _).block _ _ Gt.map zg;rw[CM (m:=1) J rfl];rw[xX (k:=9) (e:=98) zk zk Ys [106,117,109,112] k12];obtain⟨z,E⟩:=b9 (bO (x.alloc (ae #[.int .u8 112] 5 (1,1+1))) mb (eJ (y++[([106,117,109,112],cM x.heap.size 1 1)])));obtain⟨B,f12⟩:=b9 (y++[([106,117,109,112],a0m (O ⟨x.heap.size,0,V⟩) 1 1)]);have B5:qx z mb B:=zg;have sH:Ext w z:=yF;have m12:B.map a1y=[[110,101,119],[112,117,116],[99,111,110,115,116],[115,97,109,101],[109,97,107,101],[115,112,108,105,116],[116,101,115,116],[109,97,114,107],[108,101,118,101,108],[99,117,116],[116,114,121],[106,117,109,112]]:=by rw[f12,a09,m11];rfl
 rw[<- E];clear E f12 a12;refine bD ?_;have k13:fH [99,97,108,108] B 0=none:=zl (by rw[m12];decide);have a13:=B5.step (wd:=[99,97,108,108]) (sh:=[110,42]) zd zs;have QA:(z.alloc (ae #[.int .u8 110,.int .u8 42] 5 (2,2+1))).heap[mb]?=O (eJ B):=((bz.refl (fun _ _=>False) _).alloc _).block _ _ B5.map zg;rw[CM (m:=2) J rfl];rw[xX (k:=9) (e:=98) zk zk QA [99,97,108,108] k13];obtain⟨mr,F⟩:=b9 (bO (z.alloc (ae #[.int .u8 110,.int .u8 42] 5 (2,2+1))) mb (eJ (B++[([99,97,108,108],cM z.heap.size 2 2)])));obtain⟨H,f13⟩:=b9 (B++[([99,97,108,108],a0m (O ⟨z.heap.size,0,V⟩) 2 2)]);have IZ:qx mr mb H:=zg;have rD:Ext w mr:=yF;have m13:H.map a1y=[[110,101,119],[112,117,116],[99,111,110,115,116],[115,97,109,101],[109,97,107,101],[115,112,108,105,116],[116,101,115,116],[109,97,114,107],[108,101,118,101,108],[99,117,116],[116,114,121],[106,117,109,112],[99,97,108,108]]:=by rw[f13,a09,m12];rfl
 rw[<- F];clear F f13 a13;have k14:fH [114,101,116] H 0=none:=zl (by rw[m13];decide);have a14:=IZ.ap7 (wd:=[114,101,116]) zd;rw[xX (k:=9) (e:=98) zk zk IZ.map [114,101,116] k14];obtain⟨I1,I⟩:=b9 (bO mr mb (eJ (H++[([114,101,116],bH)])));obtain⟨K,f14⟩:=b9 (H++[([114,101,116],a0m V 0 0)]);have CJ:qx I1 mb K:=zg;have GP:Ext w I1:=yF;have m14:K.map a1y=[[110,101,119],[112,117,116],[99,111,110,115,116],[115,97,109,101],[109,97,107,101],[115,112,108,105,116],[116,101,115,116],[109,97,114,107],[108,101,118,101,108],[99,117,116],[116,114,121],[106,117,109,112],[99,97,108,108],[114,101,116]]:=by rw[f14,a09,m13];rfl
 rw[<- I];clear I f14 a14;have k15:fH [100,111,110,101] K 0=none:=zl (by rw[m14];decide);have a15:=CJ.ap7 (wd:=[100,111,110,101]) zd;rw[xX (k:=9) (e:=98) zk zk CJ.map [100,111,110,101] k15];obtain⟨Ub,L⟩:=b9 (bO I1 mb (eJ (K++[([100,111,110,101],bH)])));obtain⟨a,f15⟩:=b9 (K++[([100,111,110,101],a0m V 0 0)]);have Uc:qx Ub mb a:=zg;have Cv:Ext w Ub:=yF;have m15:a.map a1y=[[110,101,119],[112,117,116],[99,111,110,115,116],[115,97,109,101],[109,97,107,101],[115,112,108,105,116],[116,101,115,116],[109,97,114,107],[108,101,118,101,108],[99,117,116],[116,114,121],[106,117,109,112],[99,97,108,108],[114,101,116],[100,111,110,101]]:=by rw[f15,a09,m14];rfl
 rw[<- L];clear L f15 a15;exact⟨Cv,mb,a,J,zo,Uc,m15⟩
open Go.Proofs.YtoegidfbnkaabaaGreatDoor.Sx
section
variable{p0 p1 p2 p3 p4 p5 p6 p7:Y}{w:Z}{R:Ending->Z->Prop}
def aPo:=cz w R [p0,p1,p2,p3,p4] (gc [] [] []) func105
def aPp:=cz w R [p0] (gc [] [(3001,[])] [17]) func104
def aPq:=cz w R [p0] (gc [] [] [7]) func137
def aqh:=cz w R [p0,p1,p2] (gd [(9,[6,65]),(14,[85])] [] [(3,11),(4,10)] [(5,[14,0,1,2,3,4,5,6,7,8,9,10,11,12,13])] [] [] [19,20,31,56,57,66,86]) func106
def aPr:=cz w R [p0,p1] (gd [(9,[6,44])] [] [(2,11)] [] [] [] [13,28,45]) func139
def aPs:=cz w R [p0,p1] (gc [] [] []) func138
def aPt:=cz w R [p0,p1] (gd [] [] [(0,16)] [] [] [] []) func160
end
