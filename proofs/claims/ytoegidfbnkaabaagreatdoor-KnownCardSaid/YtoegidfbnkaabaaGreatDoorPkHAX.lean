/- A part of one proof (KV6, KV7, KV8, KV9, ShX4). -/
import Derived.Test.YtoegidfbnkaabaaGreatDoorPkHAW
set_option linter.all false
set_option maxRecDepth 100000
set_option maxHeartbeats 8000000
open Option renaming some → O, none → V
open Go renaming Value → Y, World → Z
open Bool renaming true → A, false → G
open Go.Obj renaming cells → ae
open Go.Ending renaming returned → ah
open Go.Value renaming nilIface → ai, iface → aj, tuple → ak
open Go.Calls renaming mono → a0c
open List renaming getElem?_eq_getElem → a0e, getElem_mem → a0D, getElem?_eq_some_iff → a0M, replicate → a0P, range' → a0X, foldl_cons → a1a, take_succ_eq_append_getElem → a1A, ext_getElem? → a1D, getElem?_replicate → a2p, take_of_length_le → a2s
open Option.some renaming inj → a0g
open Go.Instr renaming loadAt → a0o, fieldAt → a0Z, buildSlice → a07, storeAt → a1x, indexAt → a1K
open Go.Value.slice renaming injEq → a0s
open Go.Builtin renaming append_ → a0G, len_ → a1L
open Go.Proofs.Tryz renaming prog → bab
open Go.Proofs.Tryz
namespace Go.Proofs.YtoegidfbnkaabaaGreatDoor
open P
open Go.RowKit Sx
variable{d f g k n o pb pc:Nat}{o4 v vv:Y}{r:Except jE (Bool×Vm)}{tF:Nat->Nat}{iC:Array Y}{xs:List Y}
def Bu(D:Nat->Prop)(ρ:Nat->Nat)(vb cb fm:Nat)(w:Z)(m:Vm):Prop:=∃ φ ψ av tv di,fX D ρ ⟨φ,ψ,vb,cb,fm⟩ av tv di w m
def P.TO(m:Vm)(rest:List Co)(args:List Sl)(f pc:Nat):List Ga:=match rest with | []=>[] | _=>[⟨m.sr.tr.length,f,pc,rest,args⟩]
section
variable{D:Nat->Prop}{ρ:Nat->Nat}{e:AE}{av tv:Y}{di:List Y}{w w':Z}{m:Vm}
theorem yd.sl{l:List Sl}(h:yd D ρ n tF pb w v l):∃ a c,v = .slice a l.length c:=by
 rcases h with⟨rfl,rfl⟩| ⟨b,cap,row,rfl,-⟩<;>exact⟨_,_,J⟩
def apf(h:fX D ρ e av tv di w m)(hD:∀ b,w.heap.size<=b->D b){l:List Co}{args:List Sl}{m':Vm}(hl:n9 w 185 vv xs)(hc:Br w xs l)
  (ha:yd D ρ m.n e.ψ m.fs.length w o4 args) (hf:f<m.fs.length) (hn:n<=m.br.length) (lL:m.br.length<=900000000) (iA:∀ c∈l,c.slots<=64) (Gv:args.length<=60) (hr:m.enter l args f pc n=O m') :
  Calls bab 209 #[pp e.vb,vv,o4,pp (e.φ f),zi (pc:Nat),zi (n:Nat)] w fun en w'=>en = ah (ak #[])/\dc D w w'/\Bu D ρ e.vb e.cb e.fm w' m':=by
 cases l with
 | nil=>cases hr
 | cons c rest=>
 have hr:({ m with br:=m.br.take n++P.TO m rest args f pc,fs:=m.fs++[⟨c,args++a0P (max c.slots args.length-args.length) .nil,n,O f,pc,G⟩],f:=m.fs.length,pc:=0 }:Vm)=m':=a0g hr;subst hr;obtain⟨C,Pb,vn⟩:=hc.2 0 c J;have uf:xs.length=rest.length+1:=by have:=hc.1;omega
 obtain⟨lb,lo,Tn,lcs,rfl,VT,qF,aKs⟩:=hl.at (j:=0) zo;rw[Nat.add_zero,Pb] at qF;obtain⟨E,ac,gi⟩:=gX h.ar;have c0:=h.cell;have lv0:=bf c0;obtain⟨Px,TP⟩:=PM (by rw[gi] at h;exact h.ar:w.ownsRow 0 342 5 (.slice E m.br.length ac) m.br.length di);obtain⟨ga,gc,N⟩:=ha.sl;have uJ:(n:Int)<=(ac:Nat):=zo;suffices H:∀ R:Ending->Z->Prop,(∀ w',dc D w w'->Bu D ρ e.vb e.cb e.fm w' ({ m with br:=m.br.take n++P.TO m rest args f pc,fs:=m.fs++[⟨c,args++a0P (max c.slots args.length-args.length) .nil,n,O f,pc,G⟩],f:=m.fs.length,pc:=0 }:Vm)->R (ah (ak #[])) w') ->
   Calls bab 209 #[pp e.vb,.slice (O ⟨lb,lo,V⟩) xs.length Tn,o4,pp (e.φ f),zi (pc:Nat),zi (n:Nat)] w R from H _ yF
 intro R hR;refine aMR ?_;refine iJ @c0 gi TP ?_;have Yb:(n:Int).toNat=n:=zo;try rw[Yb]
 obtain⟨w1,jN⟩:=b9 (bO w e.vb (ae #[pp e.cb,tv,zi (m.sr.fuel:Nat),pp (e.φ m.f),zi (m.pc:Nat),.slice E n ac] 116));obtain⟨h1,dB,hJ1⟩:=h.forget hn gi jN;have XU:bO w e.vb (ae (ot #[pp e.cb,tv,zi (m.sr.fuel:Nat),pp (e.φ m.f),zi (m.pc:Nat),.slice E m.br.length ac] 5 (Value.slice E n ac).cells.toList) 116 (0,0))=w1:=jN.symm;rw[XU];have c1:w1.heap[e.vb]?=aN #[pp e.cb,tv,zi (m.sr.fuel:Nat),pp (e.φ m.f),zi (m.pc:Nat),.slice E n ac] 116:=h1.cell;clear XU jN;have lv1:=bf c1;have s1:=dB.size;refine⟨fun _ w'=>∃ av' avs',fX D ρ e av' tv avs' w' { m with br:=m.br.take n++P.TO m rest args f pc }/\dc D w w'/\pI w w',?_,?_⟩
 .cases rest with
  | nil=>
   have D3:¬ (xs.length:Int) > 1:=zg;refine cG D3 ?_;grind [P.TO]
  | cons c2 rest=>
   have D3:(xs.length:Int) > 1:=zg;refine cG D3 ?_;have dA:Ext w1 w1.drew:=yF;refine⟨fun w'=>w'.heap[e.vb]?=w1.heap[e.vb]?,J,?_⟩;rw[jx];refine cQ (pq e.vb 5) (fun w' g=>eQ) ?_;refine cQ (.slice E n ac) (fun w' g=>by rw[c1] at g;have:=bf g;exact fg g) ?_;rw[jx];refine cQ (pq e.vb 1) (fun w' g=>eQ) ?_;obtain⟨v2,i,rfl⟩:∃ v2 i,xs=v2::i:=by cases xs with | nil=>grind | cons a b=>grind
   have aW5:i.length=rest.length+1:=zg;have PN:n9 w 185 (sliced (O ⟨lb,lo,V⟩) 1 (i.length+1) Tn 1) i:=hl.tail zg;obtain⟨S,T,za⟩:∃ S T,sliced (O ⟨lb,lo,V⟩) 1 (i.length+1) Tn 1 = .slice S i.length T:=⟨_,_,J⟩;rw[za] at PN;have ae3:(1:Int)<=(((v2::i).length:Nat):Int):=zo;refine cQ (.slice S i.length T) (fun w' g=>fg za) ?_;refine a0c (SY (h1.ext dA).st CC) ?_;rintro en w2 ⟨rfl,rfl⟩;refine⟨J,?_⟩;rw[N];refine bD ?_;obtain⟨l0,U⟩:∃ l0:List Y,l0=[zi (m.sr.tr.length:Nat),pp (e.φ f),zi (pc:Nat),.slice S i.length T,o4]:=⟨_,J⟩;obtain⟨w2,jV⟩:=b9 (w1.drew.alloc (ae l0.toArray 342 (0,0)));have W:Ext w1 w2:=yF;have g2:w2.heap[w1.heap.size]?=aN l0.toArray 342:=yH;have s2:w2.heap.size=w1.heap.size+1:=yH;rw[U,N] at jV;rw[<- jV];have z:=h1.ext W;have q2:w2.heap[e.vb]?=aN #[pp e.cb,tv,zi (m.sr.fuel:Nat),pp (e.φ m.f),zi (m.pc:Nat),.slice E n ac] 116:=z.cell;have xS:(m.br.take n).length=n:=zg;have t:pI w w2:=hJ1.trans (pI.ea W);refine ape z.ar g2 zg (by rw[U,N];intro u hu;simp only[List.mem_cons,List.not_mem_nil,or_false] at hu;rcases hu with rfl | rfl | rfl | rfl | rfl<;>rfl) zg zo ?_;intro v' w3 Kz A6 DZ;obtain⟨p3,d3,e3⟩:=gX Kz;subst e3;have K6:mX D ρ m.n e.φ e.ψ m.fs.length w2 l0 [⟨m.sr.tr.length,f,pc,c2::rest,args⟩]:=by
    refine⟨.slice S i.length T,o4,i,[],zg,hf,PN.bI fun b cs hb=>t.1 b cs _ (yM) hb,?_,ha.bI t.1 t.toR (eo.refl _ _) (ya.refl e.φ _ _) yH,J⟩;exact Br.bI t.1 (Br.tail hc)
   obtain⟨k,F⟩:=b9 (bO w3 e.vb (ae #[pp e.cb,tv,zi (m.sr.fuel:Nat),pp (e.φ m.f),zi (m.pc:Nat),.slice p3 ((m.br.take n).length+1) d3] 116));obtain⟨r1,r2,r3,r4⟩:=z.KN (l:=m.br.take n++[⟨m.sr.tr.length,f,pc,c2::rest,args⟩]) zg A6 yH (z.ag.snoc K6) F;have c3:=r4.trans q2;refine⟨yH,?_⟩;refine cG @c3 ?_;have Ft:bO w3 e.vb (ae (ot #[pp e.cb,tv,zi (m.sr.fuel:Nat),pp (e.φ m.f),zi (m.pc:Nat),.slice E n ac] 5 (Value.slice p3 ((m.br.take n).length+1) d3).cells.toList) 116 (0,0))=k:=F.symm;first | rw[Ft] | rw[<- F]
   exact⟨_,_,r1,dB.trans ((dc.ea W).trans r2),t.trans r3⟩
 .rintro s w2 ⟨B,PO,z,W,t⟩ d;clear d;have s2:=W.size;have I:=t.1 _ _ _ (yM) VT;obtain⟨insv,gF,xe⟩:=id vn;have Fa:=t.1 _ _ _ (yM) gF;have c2:w2.heap[e.vb]?=aN #[pp e.cb,tv,zi (m.sr.fuel:Nat),pp (e.φ m.f),zi (m.pc:Nat),B] 116:=z.cell;obtain⟨ba,bc,mz⟩:∃ a c,B = .slice a (m.br.take n++P.TO m rest args f pc).length c:=gX z.ar;have hlp:(0:Int)<(xs.length:Int):=zo;have hsc:c.slots<=64:=zg;obtain⟨M,hM⟩:=b9 (max c.slots args.length);have Ny:args.length<=M:=zo;have hMb:M<=1000000:=zo;have hmx:(if (args.length:Int) > (c.slots:Int) then(args.length:Int) else(c.slots:Int))=(M:Int):=zo;rw[N];refine⟨fun w'=>w'.heap[lb]?=w2.heap[lb]?/\w'.heap[C]?=w2.heap[C]?,yH,?_⟩;refine cQ (pq lb lo) (fun w' g=>eQ) ?_;refine cQ (pp C) (fun w' g=>by have x:=g.1;rw[I] at x;have:=bf x;exact lT x qF) ?_;refine cQ (pq lb lo) (fun w' g=>eQ) ?_;refine cQ (pp C) (fun w' g=>by have x:=g.1;rw[I] at x;have:=bf x;exact lT x qF) ?_;rw[jx];refine cQ (pp C) (fun w' g=>eQ) ?_;refine cQ (zi (c.slots:Nat)) (fun w' g=>by have x:=g.2;rw[Fa] at x;have:=bf x;exact fg x) ?_;refine cQ (zi (args.length:Nat)) (fun w' g=>eQ) ?_;refine cQ (zi (M:Nat)) (fun w' g=>by rw[awn,hmx]) ?_;refine bD ?_;have l2:=bf c2;have llb:=bf I;have XH:=bf Fa;obtain⟨wr,NG⟩:=b9 (w2.drew.alloc (ae (madeCells #[ai] M) 20 (0,0)));obtain⟨w3,rW⟩:=b9 (wr.alloc (ae #[pp C,cM w2.heap.size M M,zi (n:Nat),pp (e.φ f),zi (pc:Nat)] 203));have aW9:Ext w2 wr:=yF;have Tz:Ext w2 w3:=yF;have sr:wr.heap.size=w2.heap.size+1:=yH;have s3:w3.heap.size=w2.heap.size+2:=yH;have To:(madeCells #[Value.nilIface] M).size=M:=size_madeCells ..;obtain⟨Q,mn⟩:=b9 (madeCells #[Value.nilIface] M);have hr3:w3.heap[w2.heap.size]?=aN Q 20:=yH;have dU:w3.heap[w2.heap.size+1]?=aN #[pp C,cM w2.heap.size M M,zi (n:Nat),pp (e.φ f),zi (pc:Nat)] 203:=yH;have c3:=Tz.ext _ _ c2;have l3:=bf c3;rw[<- NG,<- rW];rw[<- mn] at To;refine⟨yH,yH,?_⟩;clear NG rW;replace c3:=c3.trans c2.symm;refine dy @c2 dU ?_;obtain⟨k,F⟩:=b9 (bO w3 e.vb (ae #[pp e.cb,tv,zi (m.sr.fuel:Nat),pp (w2.heap.size+1),zi (m.pc:Nat),B] 116));have Ft:bO w3 e.vb (ae (ot #[pp e.cb,tv,zi (m.sr.fuel:Nat),pp (e.φ m.f),zi (m.pc:Nat),B] 3 (Value.pointer (O ⟨w2.heap.size+1,0,V⟩)).cells.toList) 116 (0,0))=k:=F.symm;first | rw[Ft] | rw[<- F]
  have aph:w2.heap.size≠e.vb:=zo;have X:w2.heap.size+1≠e.vb:=zo;have G1:k.heap[w2.heap.size]?=aN Q 20:=yH;have c4:k.heap[e.vb]?=aN #[pp e.cb,tv,zi (m.sr.fuel:Nat),pp (w2.heap.size+1),zi (m.pc:Nat),B] 116:=yH;have apj:bz (fun b _=>b=e.vb) w2 k:=yF;have er:k.heap[w2.heap.size+1]?=_:=(by rw[F,jd X]:k.heap[w2.heap.size+1]?=w3.heap[w2.heap.size+1]?).trans dU;have s4:k.heap.size=w2.heap.size+2:=yH;clear Ft F;have H4:∀ (p:Z) (row:Array Y),bz (fun b _=>b=w2.heap.size) k p->p.heap[w2.heap.size]?=aN row 20->row.size=M->(∀ (ww:Z),pI w2 ww->CB ρ m.n ww row (args++a0P (M-args.length) .nil)) ->
    NC (pp e.vb) fun x74=>RD bab (a0Z 116 x74 3) p (fun S2=>WU bab (a1x 3 S2 (zi 0)) p (fun q=>R (ah (ak #[])) q) (PX R)) (PX R):=by
   intro p row Xv Qm Fl aM7;have c5:p.heap[e.vb]?=_:=Xv.block _ _ c4 (fun e=>aph e.symm);have l5:=bf c5;refine cG @c5 ?_;obtain⟨q,oQ⟩:=b9 (bO p e.vb (ae #[pp e.cb,tv,zi (m.sr.fuel:Nat),pp (w2.heap.size+1),zi ((0:Nat):Int),B] 116));have aM8:bO p e.vb (ae (ot #[pp e.cb,tv,zi (m.sr.fuel:Nat),pp (w2.heap.size+1),zi (m.pc:Nat),B] 4 (Value.int .i64 0).cells.toList) 116 (0,0))=q:=oQ.symm;first | rw[aM8] | skip
   have c6:q.heap[e.vb]?=aN #[pp e.cb,tv,zi (m.sr.fuel:Nat),pp (w2.heap.size+1),zi ((0:Nat):Int),B] 116:=yH;have r6:q.heap[w2.heap.size]?=aN row 20:=yH;have f6:q.heap[w2.heap.size+1]?=_:=(by rw[oQ,jd X]:q.heap[w2.heap.size+1]?=p.heap[w2.heap.size+1]?).trans (Xv.block _ _ er zo);have apk:bz (fun b _=>b=e.vb) w2 q:=by
    have Du:bz (fun b _=>b=e.vb\/w2.heap.size<=b) w2 p:=(bz.mono apj fun _ _ _ h=>Or.inl h).trans (by grind [bz.mono]);rw[oQ];refine bz.mono (Du.bO (.inl fun _=>.inl J)) fun b o hb h=>?_;grind
   have aM9:dc D w2 q:=bz.mono apk fun b o ho e=>by
    subst e;rw[c2] at ho;exact⟨z.st.ds,_,_,_,(a0g ho).symm,.inr (.inr (.inr (.inr (.inl J))))⟩
   have apl:pI w2 q:=⟨aM9.toI,(by grind [bz.block])⟩;have hlen:(args++a0P (M-args.length) Sl.nil).length=M:=zg;obtain⟨uD,rH,g1,g2⟩:=z.aM2 yH apk (fb:=w2.heap.size+1) (rb:=w2.heap.size) (cb:=C) (c:=c) (slots:=args++a0P (M-args.length) .nil) (row:=row) (n:=n) (f:=f) (pc:=pc) zo zo
    (by rw[hlen];exact f6) (vn.bI (t.1.trans apl.1)) r6 (by rw[hlen];exact Fl) (aM7 q apl) hf c6
   rw[hM] at g1;have kR:=hR q yF ⟨uD,rH,B,tv,PO,g1⟩;exact yH
  have Yc:∀ (j:Nat) (y:Sl),(a0P M Sl.nil)[j]?=O y->Q[j]?=O ai/\y = .nil:=fun j y r=>by
   have TQ:j<M:=zg;rw[a2p,zip TQ] at r;refine⟨?_,zg⟩;have:=aoF ai M j TQ;grind
  rcases ha with⟨rfl,TR⟩| ⟨ab,aXa,K,TR,TS,mf,aXb,apm,-⟩
  .rw[N] at TR;cases TR;rw[show(([]:List Sl).length)=0 from J,aM0];refine H4 k Q yF G1 To fun ww _ j y r=>?_;obtain⟨h5,rfl⟩:=Yc j y (by simpa using r);exact⟨_,h5,J⟩
  .rw[N] at TR;cases TR;have L:=t.2 _ _ mf;have NI:=apj.block _ _ L (fun e=>by
    rw[e,c2] at L;injection L with L;injection L with _ L _;cases L)
   rw[aM1 G1 NI zo Ny zo (fun v hv=>?_)]
   rotate_left
   .obtain⟨j,r,rfl⟩:=List.getElem_of_mem hv;rw[List.length_take] at r;have Gf:j<args.length:=zo;obtain⟨u,uB,Fk⟩:=apm j _ (a0e Gf);have:(K.toList.take args.length)[j]=u:=by
     grind
    rw[this];rcases Fk.one with rfl | ⟨_,_,rfl⟩<;>rfl
   .obtain⟨p,oc⟩:=b9 (bO k w2.heap.size (ae (K.toList.take args.length++Q.toList.drop args.length).toArray 20 (0,0)));rw[<- oc];refine H4 p (K.toList.take args.length++Q.toList.drop args.length).toArray (yF) (yH) zg fun ww hJw j y r=>?_;by_cases fx:j<args.length
    .rw[List.getElem?_append_left fx] at r;obtain⟨u,uB,Fk⟩:=apm j y r;refine⟨u,?_,Fk.bI (t.1.trans hJw.1) (eo.refl _ _)⟩;grind
    .rw[List.getElem?_append_right zo] at r;obtain⟨h5,rfl⟩:=Yc j y (by
      have:j-args.length<M-args.length:=by
       have:=(a0M.1 r).1;simpa using this
      rw[a2p,zip this] at r;rw[a2p,zip zo];exact r)
     refine⟨_,?_,J⟩;grind
end
def ae8{w:Z}{x y:Operand}{K:Y->Prop}{X:Y->Z->Prop}(a:Option Addr)(n c:Nat):RD bab (bo .eql 192 x y (.slice a n c) bH) w K X=K (.bool a.isNone):=
 gW (by cases a<;>kernel_rfl)
section
variable{D:Nat->Prop}{ρ:Nat->Nat}{e:AE}{av tv:Y}{di:List Y}{w w':Z}{m:Vm}
def fX.place(h:fX D ρ e av tv di w m)(hm:k<m.br.length):∃ g ac cur a b fR,av = cM g m.br.length ac/\m.br.length<=ac/\w.heap[g]?=aN cur 342/\cur.size=ac*5 /\
  cur[k*5]?=O (zi ((m.br[k]).mark:Nat))/\cur[k*5+1]?=O (pp (e.φ (m.br[k]).f))/\cur[k*5+2]?=O (zi ((m.br[k]).pc:Nat))/\cur[k*5+3]?=O a/\cur[k*5+4]?=O b /\
  (m.br[k]).f<m.fs.length/\n9 w 185 a fR/\Br w fR (m.br[k]).others/\yd D ρ m.n e.ψ m.fs.length w b (m.br[k]).args:=by
 obtain⟨a,b,fR,q,g2,g3,g4,g5⟩:=h.ag.at k hm;rcases h.ar.2 with⟨-,c⟩| ⟨g,cap,cur,d,c,i,l,r,o,s⟩
 .exact yH
 .have p:∀ j,j<5->cur[k*5+j]?=[Value.int .i64 ((m.br[k]).mark:Nat),pp (e.φ (m.br[k]).f),zi ((m.br[k]).pc:Nat),a,b][j]?:=zg;exact⟨g,cap,cur,a,b,fR,d,l,i,o,p 0 zo,zg,zg,zg,zg,g2,g3,g4,g5⟩
def apn(h:fX D ρ e av tv di w m)(hD:∀ b,w.heap.size<=b->D b)(wu:∀ a∈m.br,a.mark<=m.sr.tr.length/\(∀ c∈a.others,c.slots<=64)/\a.args.length<=60)(EY:m.sr.tr.length<=900000000)(lL:m.br.length<=900000000)
  {p:Bool×Vm} (hr:m.back=O p) :
  Calls bab 206 #[pp e.vb] w fun E w'=>dc D w w'/\E = ah (.bool p.1)/\Bu D ρ e.vb e.cb e.fm w' p.2:=by
 suffices H:∀ R:Ending->Z->Prop,(∀ w',dc D w w'->Bu D ρ e.vb e.cb e.fm w' p.2->R (ah (.bool p.1)) w')->Calls bab 206 #[pp e.vb] w R from
  H _ yF
 intro R q;have r:=h.cell;have l1:=bf r;obtain⟨aa,ac,d⟩:=gX h.ar;refine aMQ ?_;unfold Vm.back at hr;by_cases hle:m.br.length=0
 .have hlt:(m.br.length:Int)-1<0:=zo;rw[List.eq_nil_of_length_eq_zero hle] at hr;cases hr;refine iJ @r d hlt ?_;exact q _ yF ⟨_,_,_,_,_,h⟩
 have hlt:¬ (m.br.length:Int)-1<0:=zo;obtain⟨k,hm⟩:∃ k,m.br.length=k+1:=⟨m.br.length-1,zo⟩;have i:k<m.br.length:=zo;have P0:m.br.getLast?=O m.br[k]:=zg;rw[P0] at hr;simp only at hr;obtain⟨g,ac',cur,Q,wZ,fR,F,e2,I,jc,q0,q1,q2,q3,q4,i1,i2,i3,i4⟩:=h.place i;rw[d] at F;simp only[a0s,true_and] at F;obtain⟨rfl,rfl⟩:=F;have lg:=bf I;have K:(m.br.length:Int)-1=(k:Nat):=zo;have j:((k:Nat):Int).toNat=k:=zo;refine dy @r d ?_;rw[K] at hlt ⊢;obtain⟨u3,u4,u5⟩:=wu m.br[k] (a0D i);have s:Ext w w.drew:=yF;refine dC hlt @r d (zA @j (zA I @q0)) ?_;refine a0c (adx (h.ext s).less CC u3 EY) ?_;rintro E w2 ⟨rfl,L,M,mh⟩;have CE:pI w w2:=(pI.ea s).trans (Dn.ao8 L);have t:w2.heap[g]?=aN cur 342:=L.block _ _ I (by rintro ⟨⟨-,u,-⟩,-⟩;rw[d] at u;exact u J);obtain⟨x,Ta⟩:=(h.ext s).store mh L;have S:dc D w w2:=(dc.ea s).trans Ta;have c2:w2.heap[e.vb]?=aN #[pp e.cb,M,zi (m.sr.fuel:Nat),pp (e.φ m.f),zi (m.pc:Nat),av] 116:=x.cell;rw[d] at c2;have l2:=bf c2;have s2:=S.size;obtain⟨ga,gc,T⟩:=i4.sl;obtain⟨XG,cvn,Tp,y⟩:∃ a n c,Q = .slice a n c:=by
  rcases i2 with⟨-,rfl⟩| ⟨b,o,cap,cs,rfl,-⟩<;>exact zg
 have N:=q3;have U:=q4;rw[y] at N;rw[T] at U;refine iJ t @N @ae8 ?_;have z:Ext w2 w2.drew:=yF;have hsr:(⟨m.n,m.sr.iF (m.br[k]).mark,m.fs,m.f,m.pc,m.br⟩:Vm)={ m with sr:=m.sr.iF (m.br[k]).mark }:=rfl;by_cases sZ:(m.br[k]).others=[]
 .have:fR=[]:=by have:=i3.1;grind
  subst this;have W:Q = bH:=by
   rcases i2 with⟨-,h⟩| ⟨b,o,cap,cs,-,-,-,-,h⟩<;>grind
  rw[y] at W;cases W;simp only[sZ] at hr;cases hr;refine bD ?_;refine⟨fun w'=>w'.heap[g]?=w2.heap[g]?,J,?_⟩;rw[jx];refine cQ (pq g (k*5+1)) (fun w' B=>fg @j) ?_;refine cQ (pp (e.φ (m.br[k]).f)) (fun w' B=>by rw[t] at B;have:=bf B;exact JB B @q1 @j) ?_;have Qn:((k:Nat):Int)<=(ac:Nat):=zo;obtain⟨Px,TP⟩:=PM (by have:=x.ar;grind:w2.ownsRow 0 342 5 (cM g m.br.length ac) m.br.length di);refine dC t @q2 @c2 (zA @j TP) ?_;have aXd:g≠e.vb:=zg;obtain⟨w3,X⟩:=b9 (bO w2.drew e.vb (ae #[pp e.cb,M,zi (m.sr.fuel:Nat),pp (e.φ (m.br[k]).f),zi ((m.br[k]).pc:Nat),av] 116 (0,0)));obtain⟨P,eI⟩:=(x.ext z).own (w':=w3) (f':=(m.br[k]).f) (pc':=(m.br[k]).pc) (yF) (by rw[X];exact pX J l2) i1;obtain⟨w4,ja⟩:=b9 (bO w2.drew e.vb (ae #[pp e.cb,M,zi (m.sr.fuel:Nat),pp (e.φ (m.br[k]).f),zi ((m.br[k]).pc:Nat),cM g k ac] 116 (0,0)));obtain⟨h4,fZ,-⟩:=P.forget (k:=k) (w1:=w4) zg d (by rw[X,Rt,ja];rfl);have LR:m.br.dropLast=m.br.take k:=by grind [List.dropLast_eq_take,Nat.add_sub_cancel]
  rw[LR] at q;rw[<- ja];refine⟨yH,?_⟩;exact q w4 yF ⟨_,_,_,_,_,h4⟩
 .have jh:fR≠[]:=by
   rintro rfl;have:=i3.1;grind
  obtain⟨cb,co,aK1,ccs,KU,gF,-,-,-⟩:=i2.resolve_left zg;rw[y] at KU;cases KU;obtain⟨m',po,rfl⟩:∃ m',({ m with sr:=m.sr.iF (m.br[k]).mark }:Vm).enter (m.br[k]).others (m.br[k]).args (m.br[k]).f (m.br[k]).pc k=O m'/\p=(A,m'):=by
   grind
  refine dC @Option.isNone_some.{0} t @q1 (zA @q2 (zA @N (zA @U @j))) ?_;have C:pI w w2.drew:=CE.trans (pI.ea z);rw[y] at i2;rw[T] at i4;refine a0c (apf (x.ext z) yH (l:=(m.br[k]).others) (args:=(m.br[k]).args) (f:=(m.br[k]).f) (pc:=(m.br[k]).pc) (n:=k) (m':=m') (i2.bI fun b cs u=>C.1 _ _ _ (yM) u) (i3.bI C.1)
   (i4.bI C.1 C.toR (eo.refl _ _) (ya.refl e.φ _ _) yH) i1 zg lL u4 u5 po) ?_
  rintro E w3 ⟨rfl,eI,P⟩;refine bD ?_;exact q w3 (S.trans ((dc.ea z).trans eI)) P
end
def P.apq{m:Vm}{x:Fm}(hx:m.fs[m.f]?=O x)(k:Nat)(y:Sl):m.set k y={ m with fs:=m.fs.set m.f { x with slots:=x.slots.set k y } }:=by
 unfold Vm.set
 congr 1
 apply a1D;grind
def P.ae9(g:Nat->Nat->Sl):∀ (L:List (Nat×Nat)) {m:Vm} {x:Fm},m.fs[m.f]?=O x->L.foldl (fun m p=>m.set p.1 (g m.n p.2)) m={ m with fs:=m.fs.set m.f { x with slots:=L.foldl (fun s p=>s.set p.1 (g m.n p.2)) x.slots } }
 | [],m,x,hx=>by
  simp only[List.foldl_nil];have:m.fs.set m.f { x with slots:=x.slots }=m.fs:=by
   apply a1D;grind
  rw[this]
 | p::L,m,x,hx=>by
  have a:m.f<m.fs.length:=zg;rw[a1a,P.apq hx,P.ae9 g L (x:={ x with slots:=x.slots.set p.1 (g m.n p.2) }) zg];grind [List.set_set]
def P.apr:∀ (L:List (Nat×Tm)) {m:Vm} {x:Fm},m.fs[m.f]?=O x->L.foldl (fun m p=>m.set p.1 (.term p.2)) m={ m with fs:=m.fs.set m.f { x with slots:=L.foldl (fun s p=>s.set p.1 (.term p.2)) x.slots } }
 | [],m,x,hx=>by
  have:=P.ae9 (fun _ _=>.nil) [] hx;grind
 | p::L,m,x,hx=>by
  have a:m.f<m.fs.length:=zg;rw[a1a,P.apq hx,P.apr L (x:={ x with slots:=x.slots.set p.1 (.term p.2) }) zg];grind [List.set_set]
section
variable{D:Nat->Prop}{ρ:Nat->Nat}{e:AE}{av tv:Y}{di:List Y}{w w':Z}{m:Vm}
def fX.setRow(h:fX D ρ e av tv di w m)(k:bz (fun b _=>b=e.ψ m.f) w w'){x:Fm}(hx:m.fs[m.f]?=O x){sl':List Sl}(r:w'.heap[e.ψ m.f]?=aN iC 20)
  (hlen:sl'.length=x.slots.length) (K:iC.size=x.slots.length) (s:CB ρ m.n w' iC sl'):fX D ρ e av tv di w' { m with fs:=m.fs.set m.f { x with slots:=sl' } }/\dc D w w':=by
 obtain⟨⟨cb,t,u,y⟩,B,row,C,L,M⟩:=h.fs _ _ hx;have E:Qk 20 w w':=fun b cs T N c=>(by grind [bz.block]);have d:dc D w w':=bz.mono k fun b o l he=>by
  subst he;rw[C] at l;exact⟨h.dp _ h.fl,_,_,_,(a0g l).symm,.inr (.inr (.inr (.inr (.inr (.inr J)))))⟩
 have F:TM e.ψ m.fs.length w w':=fun b cs c hx=>(by grind [bz.block,fl]);have H:(m.fs.set m.f { x with slots:=sl' }).length=m.fs.length:=List.length_set ..;have p:∀ (i:Nat) (z:Fm),(m.fs.set m.f { x with slots:=sl' })[i]?=O z->(i=m.f/\z={ x with slots:=sl' })\/(i≠m.f/\m.fs[i]?=O z):=zg;refine⟨⟨h.st.aeZ E zo,zg,fun i z a=>?_,fun i z b a c=>?_,(by grind [dp]),fun i j g P=>h.inj i j zg zg,(by grind [aeY,ar]),?_,h.da⟩,d⟩
 .rcases p i z a with⟨rfl,rfl⟩| ⟨g,a⟩
  .refine⟨⟨cb,?_,u.bI d.toI,y⟩,B,iC,r,zg,s⟩;have:=d.toI _ _ _ (yM) t;exact yH
  .have q:i<m.fs.length:=zg;exact(h.fs i z a).bI d.toI (eo.refl _ _) (ya.refl _ _ _) q (fun b c=>h.bk i _ b a c) fun cs I=>k.block _ _ I fun he=>g (h.inj _ _ q h.fl he)
 .show b<(m.fs.set _ _).length;rw[H];rcases p i z a with⟨rfl,rfl⟩| ⟨g,a⟩
  .exact h.bk _ x b hx c
  .exact h.bk i z b a c
 .have:=h.ag.bI d.toI F (eo.refl _ _) (ya.refl e.φ _ _) yH;grind
def fX.aNb(h:fX D ρ e av tv di w m)(hD:∀ b,w.heap.size<=b->D b)(l:Ext w w'){bl:Nat->Nat}(hv:∀ j,j<k->w.heap.size<=bl j/\w'.heap[bl j]?=aN #[ai] 91)
  (u:∀ i j,i<k->j<k->bl i=bl j->i=j) :
  ∃ eL,eo ρ m.n eL (m.n+k)/\(∀ j,j<k->eL (m.n+j)=bl j)/\fX D eL e av tv di w' { m with n:=m.n+k }:=by
 obtain⟨eL,y⟩:∃ eL:Nat->Nat,eL=fun i=>if i<m.n then ρ i else bl (i-m.n):=⟨_,J⟩
 have hu:eo ρ m.n eL (m.n+k):=⟨zo,zg⟩;have z:∀ j,eL (m.n+j)=bl j:=zg;have hold:∀ i,i<m.n->ρ i<w.heap.size:=fun i d=>by
  obtain⟨r,c,-⟩:=h.st.sv.var i d;exact yH
 have o:=h.st.ext l;have g:∀ i,i<m.n+k->i<m.n\/∃ j,j<k/\i=m.n+j:=fun i d=>by
  by_cases h:i<m.n
  .omega
  .exact .inr ⟨i-m.n,zo,zo⟩
 refine⟨eL,hu,zg,h.rest (pI.ea l) hu (jM l.ext h.ar) ?_ h.fl⟩;refine⟨⟨fun i j d x he=>?_,fun i d=>?_⟩,fun i d=>?_,o.cell,?_,h.st.dr,h.st.ds,h.st.nd,fun p f=>Nat.lt_of_lt_of_le (h.st.lt p f) hu.1,h.st.ok⟩
 .rcases g i d with c | ⟨a,c,rfl⟩<;>rcases g j x with q | ⟨b,q,rfl⟩
  .rw[hu.2 i c,hu.2 j q] at he;exact h.st.sv.inj i j c q he
  .grind
  .grind
  grind
 .rcases g i d with c | ⟨a,c,rfl⟩
  .obtain⟨r,g1,g2⟩:=o.sv.var i c;refine⟨r,yH,?_⟩;cases s:P.look i m.sr.tr with
   | none=>grind
   | some t=>rw[s] at g2;exact dH.mono zg hu.1 hu.2 (fun _ _ _ _ _ h=>h) t r g2
  .have s:P.look (m.n+a) m.sr.tr=none:=P.Pw fun hm=>by
    obtain⟨p,f,B⟩:=List.mem_map.1 hm;have:=h.st.lt p f;omega
   exact yH
 .rcases g i d with c | ⟨a,c,rfl⟩
  .rw[hu.2 i c];exact h.st.dv i c
  grind
 .have e:qU eL m.sr.tr=qU ρ m.sr.tr:=by
   unfold qU;refine List.map_congr_left fun p f=>?_;rw[hu.2 p.1 (h.st.lt p (List.mem_reverse.1 f))]
  rw[e];exact o.row
end
abbrev rI(D:Nat->Prop)(ρ:Nat->Nat)(n vb cb fm:Nat)(p:Bool×Vm)(e:Ending)(w':Z):Prop:=
 e = ah (.bool p.1)/\∃ eL,eo ρ n eL p.2.n/\Bu D eL vb cb fm w' p.2
def P.Ye(i:P.In)(m:Vm):Option Tm->P.Out (Bool×Vm)
 | none=>V
 | some (.var v)=>let m1:=i.s.tail.zipIdx.foldl (fun m p=>m.set p.1 (.term (.var (m.n+p.2)))) m;O (.ok (A,{ m1 with n:=m.n+i.s.tail.length,sr:=m.sr.bind v (.comp i.name ((a0X m.n i.s.tail.length).map .var)) }))
 | some (.comp name args)=>if name=i.name/\args.length=i.s.length-1 then O (.ok (A,(i.s.tail.zip args).foldl (fun m p=>m.set p.1 (.term p.2)) m)) else O (.ok (G,m))
 | some _=>O (.ok (G,m))
def P.aps(d:Nat)(i:P.In)(m:Vm):P.Out (Bool×Vm):=Iq (m.at i 0) fun t=>P.Ye i m (fA m.sr.tr d t)
def CB.set{ρ:Nat->Nat}{n:Nat}{w:Z}{row:Array Y}{l:List Sl}(h:CB ρ n w row l)(d:row.size=l.length)(k:Nat){v:Y}{y:Sl}(e:zh ρ n w v y):CB ρ n w (row.setIfInBounds k v) (l.set k y):=by
 intro j b a;rw[List.getElem?_set] at a;by_cases c:k=j
 .grind
 .rw[bX c] at a;obtain⟨u,g1,g2⟩:=h j b a;grind
section
variable{D:Nat->Prop}{ρ:Nat->Nat}{e:AE}{av tv:Y}{di:List Y}{w w':Z}{m:Vm}
def aNc(h:fX D ρ e av tv di w m)(hD:∀ b,w.heap.size<=b->D b){x:Fm}(hx:m.fs[m.f]?=O x){i:P.In}(hi:AH w g o i)(h2:2<=i.s.length)(hk:∀ k∈i.s,k<x.slots.length)(wN:i.s.length<=60)(my:i.name.length<=20)
  (Kv:∀ v,P.look v m.sr.tr=V->v ∉ m.sr.tr.map (·.1)) (EY:m.sr.tr.length<=900000000)
 (hr:P.aps d i m=O r) :
  Calls bab 212 #[pp e.vb,pq g o] w (EPost D w (rI D ρ m.n e.vb e.cb e.fm) r):=by
 suffices H:∀ R:Ending->Z->Prop,(∀ en w',EPost D w (rI D ρ m.n e.vb e.cb e.fm) r en w'->R en w')->Calls bab 212 #[pp e.vb,pq g o] w R from H _ fun _ _ h=>h;intro R hR;refine aMS ?_;unfold P.aps at hr;refine a0c (Ya h hx hi (k:=0) zo (by grind [a0D]) zo) ?_;rintro en w1 ⟨rfl,hp⟩;have dA:Ext w w.drew:=yF;cases N:m.at i 0 with
 | error t=>
  rw[N] at hr hp;have hr:=(a0g hr);subst hr;have hp:en=gV t:=hp;subst hp;cases t<;>exact hR _ _ ⟨yF,J⟩
 | ok t=>
 rw[N] at hr hp;obtain⟨v,rfl,hv⟩:=hp;have hr:P.Ye i m (fA m.sr.tr d t)=O r:=hr;have hd:=h.ext dA;cases hw:fA m.sr.tr d t with
 | none=>rw[hw] at hr;cases hr
 | some t'=>
 rw[hw] at hr;refine a0c (GJ hd.st.sv hv hw) ?_;rintro en w1 ⟨rfl,u,rfl,hu⟩;have aXf:r = .ok (G,m)->R (ah (.bool G)) w.drew:=fun hr=>by
  subst hr;exact hR _ _ ⟨yF,J,ρ,eo.refl _ _,_,_,_,_,_,hd⟩
 obtain⟨cur,hg,ho,iw,vD,aNd,sv,dX,mh⟩:=hi;have rh:=dA.ext _ _ hg;have lgd:=bf rh;obtain⟨nb,xd,rfl,oK,-,xE⟩:=K3 mh (j:=0) zo;cases t' with
 | atom s=>
  unfold dL dH at hu;subst hu;have hr:r = .ok (G,m):=(a0g hr).symm;refine bD ?_;grind
 | int s=>
  unfold dL dH at hu;subst hu;have hr:r = .ok (G,m):=(a0g hr).symm;refine bD ?_;grind
 | comp name args=>
  unfold dL dH at hu;obtain⟨b,av1,vs1,rfl,-,q,iA,kP⟩:=hu;have apt:Ext w w.drew.drew:=yF;have nE:=bz.drew (bz.refl (fun _ _=>False) w.drew) |>.ext _ _ q;have Q:=apt.ext _ _ hg;obtain⟨aa,ac,Yf⟩:=iA.sl;have IP:vs1.length=args.length:=kP.length;rw[IP] at Yf;subst Yf;have hL:i.s.length-1<=i.s.length:=zo;have Yg:(i.s.length:Int)-1=((i.s.length-1:Nat):Int):=zo;refine bD ?_;refine⟨fun _ w2=>w2=w.drew.drew/\(name=i.name/\args.length=i.s.length-1),?_,?_⟩
  .refine⟨fun s w2=>w2=w.drew.drew/\s 92 = .bool (decide (¬ (name=i.name/\args.length=i.s.length-1))),?_,?_⟩
   .by_cases F:name=i.name
    .subst F;have e9:decide (¬ (args.length:Int)=(i.s.length:Int)-1)=decide (¬ (i.name=i.name/\args.length=i.s.length-1)):=by
      grind
     refine dC nE Q @vD dX ?_;grind
    .have e9:decide (¬ (name=i.name/\args.length=i.s.length-1))=true:=zg;refine dC nE Q @vD (zA dX F) ?_;grind
   .rintro s w2 ⟨rfl,Yh⟩ d2;clear d2;by_cases hc:name=i.name/\args.length=i.s.length-1
    .have e9:decide (¬ (name=i.name/\args.length=i.s.length-1))=false:=zg;rw[e9] at Yh;refine cG Yh ?_;omega
    .have e9:decide (¬ (name=i.name/\args.length=i.s.length-1))=true:=zg;rw[e9] at Yh;refine cG Yh ?_;have hr:r = .ok (G,m):=by
      grind [P.Ye]
     subst hr;exact hR _ _ ⟨yF,J,ρ,eo.refl _ _,_,_,_,_,_,h.ext apt⟩
  .rintro s w2 ⟨rfl,hc⟩ d2;clear d2;have hr:r = .ok (A,(i.s.tail.zip args).foldl (fun m p=>m.set p.1 (.term p.2)) m):=by
    grind [P.Ye]
   rw[P.apr _ hx] at hr;obtain⟨js,rj⟩:=hc;obtain⟨L,K9⟩:=b9 (i.s.length-1);have ae3:(1:Int)<=(i.s.length:Int):=zo;have za:sliced (O ⟨nb,0,V⟩) 1 i.s.length xd.size 1 = .slice (O ⟨nb,1,V⟩) L (xd.size-1):=by
    unfold sliced;rw[bX zo,K9];simp [Addr.add]
   obtain⟨⟨CF,iH,-,-⟩,-,qu,mn,Fx,Fy⟩:=h.fs _ _ hx;have hold:∀ {c:Z} {b:Nat} {cs:Array Y} {T:Nat},bz (fun b _=>b=e.ψ m.f) w c->T≠20->w.heap[b]?=aN cs T->c.heap[b]?=aN cs T:=(by grind [bz.block]);have hzl:(i.s.tail.zip args).length=L:=zg;refine iJ Q dX za ?_;refine⟨fun n z c=>∃ (j:Nat) (row:Array Y),z 99=zi (j:Nat)/\j<=L/\n=L-j/\bz (fun b _=>b=e.ψ m.f) w c/\c.heap[e.ψ m.f]?=aN row 20/\row.size=x.slots.length /\
     CB ρ m.n w row (((i.s.tail.zip args).take j).foldl (fun s p=>s.set p.1 (.term p.2)) x.slots),⟨_,0,qu,J,Nat.zero_le _,J,yF,yH,Fx,Fy⟩,?_⟩
   intro n z dz c hI;clear dz;refine toPr ?_;obtain⟨j,row,vp,hj,rfl,B,K,Fl,S⟩:=hI;have iz:∀ (l:List (Nat×Tm)),(l.foldl (fun s p=>s.set p.1 (Sl.term p.2)) x.slots).length=x.slots.length:=fun l=>by
    suffices ∀ (l:List (Nat×Tm)) (s:List Sl),(l.foldl (fun s p=>s.set p.1 (Sl.term p.2)) s).length=s.length from this l _;intro l;induction l with
    | nil=>grind
    | cons a l ih=>grind
   by_cases hlt:j<L
   .have Cu:(j:Int)<(L:Int):=zo;have jJ:(j:Int).toNat=j:=zo;obtain⟨nb',aNg,U,TU,aNh,-⟩:=K3 mh (j:=j+1) zo;simp only[a0s,Option.some.injEq,Addr.mk.injEq,and_true,true_and] at U;obtain⟨rfl,U⟩:=U;rw[oK] at TU;cases TU;obtain⟨ab,IS,uL,-,mf,TS⟩:=iA.at' (j:=j) zo;rw[IP] at uL;simp only[a0s,true_and] at uL;obtain⟨rfl,rfl⟩:=uL;obtain⟨va,hva,K2⟩:=kP.at j zo;rw[hva] at TS;have NK:=hold B zd oK;have La:=hold B zd h.cell;have NL:=hold B zd iH;have Yi:=hold B zd q;have aNj:=hold B zd mf;have apu:=bf K;have ye:i.s[j+1]<x.slots.length:=hk _ (a0D _);have oS:((i.s[j+1]:Nat):Int).toNat=i.s[j+1]:=zo;have vM:((i.s[j+1]:Nat):Int)<(x.slots.length:Int):=zo;have XL:(j:Int)<(args.length:Int):=zo;obtain⟨KE,xv1,rfl⟩:=K2.iface;have W:xd[1+j]?=O (zi ((i.s[j+1]:Nat):Int)):=zg;refine dC vp Cu za (zA NK (zA W (zA @jJ (zA La (zA NL (zA Yi (zA aNj (zA TS (zA K @oS))))))))) ?_;refine⟨L-(j+1),zo,j+1,_,zs,zo,J,yF,J,zg,?_⟩;have XK:(i.s.tail.zip args)[j]' zo=(i.s[j+1],args[j]):=zg;rw[a1A zo,List.foldl_append,XK];refine S.set zg _ ?_;exact dH.bI K2 (fun _ _ _ _ _ h=>h)
   .have fx:j=L:=zo;subst fx;refine cG vp ?_;rw[a2s zo] at S;obtain⟨r1,r2⟩:=h.setRow B hx (sl':=(i.s.tail.zip args).foldl (fun s p=>s.set p.1 (.term p.2)) x.slots) K (iz _) Fl (fun E y I=>by
     obtain⟨u,g1,g2⟩:=S E y I;exact⟨u,g1,g2.bI (fun b cs T hT q=>hold B (fun e=>hT (by rw[e];exact .inl (.inr zg))) q) (eo.refl _ _)⟩)
    subst hr;exact hR _ _ ⟨r2,J,ρ,eo.refl _ _,_,_,_,_,_,r1⟩
 | var v=>
  unfold dL dH at hu;obtain⟨PS,rfl⟩:=hu;have hr:r = .ok (A,{ (i.s.tail.zipIdx.foldl (fun m p=>m.set p.1 (.term (.var (m.n+p.2)))) m) with n:=m.n+i.s.tail.length,sr:=m.sr.bind v (.comp i.name ((a0X m.n i.s.tail.length).map .var)) }):=(a0g hr).symm;rw[P.ae9 (fun n k=>.term (.var (n+k))) _ hx] at hr;obtain⟨L,K9⟩:=b9 (i.s.length-1);have sQ:i.s.tail.length=L:=zg;have ae3:(1:Int)<=(i.s.length:Int):=zo;have za:sliced (O ⟨nb,0,V⟩) 1 i.s.length xd.size 1 = .slice (O ⟨nb,1,V⟩) L (xd.size-1):=by
   unfold sliced;rw[bX zo,K9];simp [Addr.add]
  obtain⟨⟨CF,iH,-,-⟩,-,qu,mn,Fx,Fy⟩:=h.fs _ _ hx;have hold:∀ {c:Z} {b:Nat} {cs:Array Y} {T:Nat},bz (fun b _=>b=e.ψ m.f) w c->T≠20->w.heap[b]?=aN cs T->c.heap[b]?=aN cs T:=(by grind [bz.block]);refine dC rh @vD dX za ?_;obtain⟨wc,Yj⟩:=b9 (w.drew.alloc (ae #[aM i.name,bH] 180));have hEc:Ext w wc:=yF;have sc:wc.heap.size=w.heap.size+1:=yH;have qh:wc.heap[w.heap.size]?=aN #[aM i.name,bH] 180:=yH;rw[<- Yj];try rw[BH]
  have aXj:i.s.tail.zipIdx.length=L:=by grind [List.length_zipIdx]
  refine⟨fun n z c=>∃ (j:Nat) (row:Array Y) (C:List Nat) (rC:Y),z 32=zi (j:Nat)/\j<=L/\n=L-j/\bz (fun b _=>b=e.ψ m.f) w c/\w.heap.size<c.heap.size/\C.length=j /\
    c.heap[w.heap.size]?=aN #[aM i.name,rC] 180/\c.ownsRow (w.heap.size+1) 89 1 rC j (C.map fun b=>aj 87 (pp b)) /\
    (∀ b∈C,w.heap.size<b/\c.heap[b]?=aN #[ai] 91)/\C.Nodup /\
    c.heap[e.ψ m.f]?=aN row 20/\row.size=x.slots.length /\
    ∀ (E:Nat) (y:Sl),((i.s.tail.zipIdx.take j).foldl (fun s p=>s.set p.1 (.term (.var (m.n+p.2)))) x.slots)[E]?=O y->∃ u,row[E]?=O u/\(zh ρ m.n w u y\/∃ a b,C[a]?=O b/\y = .term (.var (m.n+a))/\u = aj 87 (pp b)),
   ⟨_,0,qu,[],bH,J,Nat.zero_le _,J,yF,zo,J,qh,World.ownsRow_nil _ _ _ _,yH,List.nodup_nil,yH,Fx,fun E y hj=>(by obtain⟨u,g1,g2⟩:=Fy E y hj;grind)⟩,?_⟩
  intro n z dz c hI;clear dz;refine toPr ?_;obtain⟨j,row,C,rC,Cn,hj,rfl,B,jc,oL,gF,rJ,xU,C0,K,Fl,S⟩:=hI;have iz:∀ (l:List (Nat×Nat)),(l.foldl (fun s p=>s.set p.1 (Sl.term (.var (m.n+p.2)))) x.slots).length=x.slots.length:=fun l=>by
   suffices ∀ (l:List (Nat×Nat)) (s:List Sl),(l.foldl (fun s p=>s.set p.1 (Sl.term (.var (m.n+p.2)))) s).length=s.length from this l _;intro l;induction l with
   | nil=>grind
   | cons a l ih=>grind
  by_cases hlt:j<L
  .have Cu:(j:Int)<(L:Int):=zo;have jJ:(j:Int).toNat=j:=zo;obtain⟨nb',aNg,U,TU,aNh,-⟩:=K3 mh (j:=j+1) zo;simp only[a0s,Option.some.injEq,Addr.mk.injEq,and_true,true_and] at U;obtain⟨rfl,U⟩:=U;rw[oK] at TU;cases TU;have NK:=hold B zd oK;have La:=hold B zd h.cell;have NL:=hold B zd iH;have lc:=bf La;have lf:=bf NL;have apu:=bf K;have XH:=bf gF;have ye:i.s[j+1]<x.slots.length:=hk _ (a0D _);have oS:((i.s[j+1]:Nat):Int).toNat=i.s[j+1]:=zo;have vM:((i.s[j+1]:Nat):Int)<(x.slots.length:Int):=zo;have W:xd[1+j]?=O (zi ((i.s[j+1]:Nat):Int)):=zg;obtain⟨pa,pc,FB⟩:=gX rJ;subst FB;have aph:e.ψ m.f≠w.heap.size:=zg;refine dC Cn Cu za (zA NK (zA W (zA @jJ (zA La (zA NL (zA K (zA @oS gF))))))) ?_;obtain⟨vv,wh⟩:∃ vv:Y,vv = aj 87 (pp c.heap.size):=⟨_,J⟩;obtain⟨wV,hwV⟩:=b9 (c.alloc (ae #[ai] 91));obtain⟨wR,hwR⟩:=b9 (bO wV (e.ψ m.f) (ae (row.setIfInBounds i.s[j+1] vv) 20 (0,0)));obtain⟨M,qN⟩:=b9 (wR.alloc (ae #[vv] 89));rw[<- wh,<- hwV,<- hwR,<- qN];have sV:wV.heap.size=c.heap.size+1:=yH;have sR:wR.heap.size=c.heap.size+1:=yH;have sA:M.heap.size=c.heap.size+2:=yH;have hvV:wV.heap[c.heap.size]?=aN #[ai] 91:=yH;have aNk:bz (fun b _=>b=e.ψ m.f) c M:=by
    rw[qN,hwR,hwV];exact(((bz.refl _ _).alloc _).bO (.inl fun _=>rfl)).alloc _
   have hvA:M.heap[c.heap.size]?=aN #[ai] 91:=by
    exact yH
   have hrA:M.heap[e.ψ m.f]?=aN (row.setIfInBounds i.s[j+1] vv) 20:=by
    exact yH
   have hnA:M.heap[c.heap.size+1]?=aN #[vv] 89:=yH;have hcA:M.heap[w.heap.size]?=aN #[aM i.name,.slice pa j pc] 180:=(by grind [bz.block]);have CG:M.ownsRow (w.heap.size+1) 89 1 (.slice pa j pc) j (C.map fun b=>aj 87 (pp b)):=by
    refine⟨rJ.1,?_⟩;rcases rJ.2 with F | ⟨b,cap,cur,X,g2,g3,g4⟩
    .grind
    .exact .inr ⟨b,cap,cur,X,g2,(by grind [bz.block]),g4⟩
   refine PD CG hnA (by rw[wh];rfl) zo zo ?_;intro v' w' ti jz DE;obtain⟨CH,pc',IW⟩:=gX ti;subst IW;have Mi:∀ {b:Nat} {cs:Array Y} {T:Nat},T≠89->M.heap[b]?=aN cs T->w'.heap[b]?=aN cs T:=fun{b cs T} hT q=>by
    rw[jz.block b (bf q) (fun he=>?_)]
    .omega
    .rcases CG.2 with⟨F,-⟩| ⟨b',cap,cur,X,g2,g3,g4⟩
     .rw[F] at he;cases he
     .rw[X] at he;injection he with he;grind
   have nQ:=Mi zd hcA;have lc':=bf nQ;have sw':=jz.size;refine dy Cn nQ ?_;obtain⟨wE,NN⟩:=b9 (bO w' w.heap.size (ae #[aM i.name,.slice CH (j+1) pc'] 180));have aff:bO w' w.heap.size (ae (ot #[aM i.name,.slice pa j pc] 1 (Value.slice CH (j+1) pc').cells.toList) 180 (0,0))=wE:=NN.symm;first | rw[<- NN] | rw[aff] | skip
   have hbE:∀ {b:Nat} {cs:Array Y} {T:Nat},T≠180->w'.heap[b]?=aN cs T->wE.heap[b]?=aN cs T:=yH;have hrt:∀ {b:Nat},(∃ cs,c.heap[b]?=aN cs 91)->b≠e.ψ m.f:=yH;refine⟨L-(j+1),zo,j+1,row.setIfInBounds i.s[j+1] vv,C++[c.heap.size],.slice CH (j+1) pc',zs,zo,J,?_,zo,zg,J,?_,?_,?_,yH,zg,?_⟩
   .have IX:=B.trans aNk;rw[NN];refine⟨jz.os.trans IX.os,jz.tape.trans IX.tape,jz.output.trans IX.output,yH,fun b o q hm=>?_⟩;have lb:=bf q;have hbA:=IX.block _ _ q hm;rw[jd zo,jz.block b zo (fun he=>?_)]
    .omega
    .rcases CG.2 with⟨F,-⟩| ⟨b',cap,cur,X,g2,g3,g4⟩
     .rw[F] at he;cases he
     .rw[X] at he;injection he with he;grind
   .refine⟨by simpa [oL] using ti.1,?_⟩;rw[List.map_append,List.map_singleton];rw[wh] at ti;rcases ti.2 with F | ⟨b,cap,cur,X,g2,g3,g4⟩
    .omega
    .exact .inr ⟨b,cap,cur,X,g2,yH,g4⟩
   .intro b q;rcases List.mem_append.1 q with q | q
    .obtain⟨g1,g2⟩:=xU b q;exact⟨g1,hbE zo (Mi zo (by grind [bz.block]))⟩
    grind [List.mem_singleton]
   .rw[List.nodup_append];refine⟨C0,zs,fun a N b q=>?_⟩;grind [List.mem_singleton,bf]
   .intro E y I;have XK:i.s.tail.zipIdx[j]' zo=(i.s[j+1],j):=zg;rw[a1A zo,List.foldl_append,XK] at I;simp only[a1a,List.foldl_nil,List.getElem?_set] at I;by_cases BF:i.s[j+1]=E
    .rw[zip BF,zip (by rw[iz];omega)] at I;refine⟨vv,zg,.inr ⟨j,c.heap.size,?_,zg,wh⟩⟩;grind
    .rw[bX BF] at I;obtain⟨u,g1,g2⟩:=S E y I;refine⟨u,zg,?_⟩;rcases g2 with g2 | ⟨a,b,g3,g4⟩<;>grind
  .have fx:j=L:=zo;subst fx;refine cG Cn ?_;rw[a2s zo] at S;obtain⟨wg,hwg⟩:=b9 (bO c (e.ψ m.f) (ae qu 20 (0,0)));have apu:=bf K;have hEg:Ext w wg:=by
    rw[hwg];refine⟨B.os,B.tape,B.output,yH,fun b o q _=>?_⟩;by_cases he:b=e.ψ m.f
    .exact yH
    grind [jd,bz.block]
   have hrt:∀ {b:Nat},(∃ cs,c.heap[b]?=aN cs 91)->b≠e.ψ m.f:=yH;obtain⟨bl,aXp⟩:∃ bl:Nat->Nat,∀ a b,C[a]?=O b->bl a=b:=⟨fun a=>C.getD a 0,zg⟩;have aNp:∀ a,a<j->∃ b,C[a]?=O b:=fun a N=>⟨_,a0e zo⟩;obtain⟨eL,hu,aXq,F⟩:=h.aNb hD hEg (k:=j) (bl:=bl) (by grind [List.mem_of_getElem?,jd]) (fun a b N q he=>by
    obtain⟨c1,g1⟩:=aNp a N;grind [a0M,List.pairwise_iff_getElem,Nat.lt_trichotomy,absurd])
   have hfg:bz (fun b _=>b=e.ψ m.f) wg c:=by
    rw[hwg];refine⟨J,J,J,yH,fun b o q hm=>?_⟩;exact yH
   have hI:eM w c:=fun b cs T hT q=>hold B (fun e=>hT (by rw[e];exact .inl (.inr zg))) q;obtain⟨h2,dM⟩:=F.setRow hfg hx (sl':=i.s.tail.zipIdx.foldl (fun s p=>s.set p.1 (.term (.var (m.n+p.2)))) x.slots) K (iz _) Fl (fun E y I=>by
    obtain⟨u,g1,g2⟩:=S E y I;refine⟨u,g1,?_⟩;rcases g2 with g2 | ⟨a,b,g3,rfl,rfl⟩
    .exact g2.bI hI hu
    .have N:a<j:=zg;show dL eL (m.n+j) c _ (.var (m.n+a));unfold dL dH;grind)
   have wO:P.look v m.sr.tr=none:=Ip hw;have XY:=B.size;have hDj:∀ b,c.heap.size<=b->D b:=yH;have aXr:(C.map fun b=>Value.iface 87 (pp b))=mm eL (a0X m.n j):=by
    apply a1D;grind
   have aNs:pE eL (m.n+j) c (mm eL (a0X m.n j)) ((a0X m.n j).map .var):=(by grind [aeR,List.mem_range']);have afg:dL eL (m.n+j) c (aj 175 (pp w.heap.size)) (.comp i.name ((a0X m.n j).map .var)):=by
    unfold dL dH;exact⟨w.heap.size,rC,mm eL (a0X m.n j),J,trivial,gF,by grind [TF],aNs⟩
   have de:ef (.comp i.name ((a0X m.n j).map .var)):=by
    unfold ef;exact⟨my,by simp;omega,P.aeS _⟩
   have q:=anC h2.less CC (h2.dn hDj) (i:=v) zg wO zg afg de EY;rw[hu.2 v PS] at q;refine a0c q ?_;rintro en w3 ⟨rfl,eI,tv3,gN⟩;obtain⟨h3,aXs⟩:=h2.store gN eI;refine bD ?_;rw[sQ] at hr;subst hr;exact hR _ _ ⟨(dc.ea hEg).trans yF,J,eL,hu,_,_,_,_,_,h3⟩
end
open Go.Proofs.YtoegidfbnkaabaaGreatDoor.Sx
section
variable{p0 p1 p2 p3 p4 p5 p6 p7:Y}{w:Z}{R:Ending->Z->Prop}
def aNt:=cz w R [p0,p1] (gc [] [] []) func71
def aNu:=cz w R [p0,p1,p2] (gc [(2,[13])] [] [14]) func108
def od(p0 p1:Y)(w:Z)(R:Ending->Z->Prop):Prop:=
 NC p0 fun t=>
 RD bab (a0Z 196 t 1) w (fun u=>
 RD bab (a0o 194 u) w (fun W9=>
 RD bab (a1L #[194] 3 #[W9]) w (fun x=>
 Oi (fun rec s d w1=>
  RD bab (bo .lss 3 (.tmp 18) (.tmp 17) (s 18) x) w1 (fun y=>
  BS y (RD bab (a1K 194 W9 (s 18)) w1 (fun z=>
  RD bab (a0o 198 z) w1 (fun B=>
  WR bab (Instr.alloc 198 A (ak #[])) w1 (fun e C=>
  WU bab (a1x 198 e B) C (fun SS=>
  HD fun S=>S SS.drew /\
  uI bab (a0Z 198 e 0) S (fun D=>
  uI bab (a0o 9 D) S (fun E=>
  CA bab 101 #[] SS.drew (fun F r=>
  S r /\
  RD bab (Instr.lookup 240 F E G) r (fun g=>
  RD bab (a1L #[98] 3 #[g]) r (fun H=>
  Oi (fun rec_1 a d_1 c=>
   RD bab (bo .lss 3 (.tmp 27) (.tmp 26) (a 27) H) c (fun I=>
   BS I (RD bab (a1K 98 g (a 27)) c (fun K=>
   RD bab (a0o 5 K) c (fun h=>
   JS (fun j=>
    RD bab (bo .eql 5 (.tmp 31) (.const (.int .u8 115)) h (.int .u8 115)) c (fun i=>
    BS i (j (jg [(32,i)]) c) (RD bab (bo .eql 5 (.tmp 31) (.const (.int .u8 112)) h (.int .u8 112)) c (fun L=>
    j (jg [(32,L)]) c) (PX R))) (PX R))
    (fun M d_2 b=>
    BS (M 32) (RD bab (a0Z 198 e 3) b (fun N=>
    RD bab (a0o 45 N) b (fun P=>
    RD bab (a1K 45 P (a 7)) b (fun Q=>
    RD bab (a0o 3 Q) b (fun T=>
    CA bab 64 #[T] b (fun U W=>
    WR bab (a07 39 1 #[(0,U)]) W (fun X aNO=>
    WR bab (a0G #[39,39] 39 #[(a 6),X]) aNO (fun x43 NO=>
    RD bab (bo .add 3 (.tmp 44) (.const (.int .i64 1)) (a 7) (.int .i64 1)) NO (fun x45=>
    RD bab (bo .add 3 (.tmp 27) (.const (.int .i64 1)) (a 27) (.int .i64 1)) NO (fun x83=>
   rec_1 (jg [(6,x43),(7,x45),(27,x83)]) NO) (PX R)) (PX R)) (PX R)) (PX R)) (PC R)) (PX R)) (PX R)) (PX R)) (PX R)) (RD bab (bo .eql 5 (.tmp 31) (.const (.int .u8 99)) h (.int .u8 99)) b (fun x47=>
    BS x47 (RD bab (Instr.build 96 #[(1,(.int .i64 9))]) b (fun x48=>
    WR bab (Instr.box 96 x48) b (fun x49 Lb=>
    RD bab (Instr.build 103 #[(1,x49)]) Lb (fun x50=>
    WR bab (Instr.alloc 103 A (ak #[])) Lb (fun SR M6=>
    WU bab (a1x 103 SR x50) M6 (fun M7=>
    RD bab (a0Z 198 e 2) M7 (fun x51=>
    RD bab (a0o 89 x51) M7 (fun x52=>
    CA bab 31 #[SR,x52,(.int .i64 0)] M7 (fun x53 k=>
    RD bab (a0Z 103 SR 0) k (fun x55=>
    CA bab 33 #[x55] k (fun x56 aNY=>
    WR bab (a07 39 1 #[(0,x56)]) aNY (fun x57 aN0=>
    WR bab (a0G #[39,39] 39 #[(a 6),x57]) aN0 (fun x58 l=>
    RD bab (bo .add 3 (.tmp 27) (.const (.int .i64 1)) (a 27) (.int .i64 1)) l (fun aN2=>
   rec_1 (jg [(6,x58),(7,(a 7)),(27,aN2)]) l) (PX R)) (PX R)) (PX R)) (PC R)) (PX R)) (PC R)) (PX R)) (PX R)) (PX R)) (PX R)) (PX R)) (PX R)) (PX R)) (RD bab (bo .eql 5 (.tmp 31) (.const (.int .u8 110)) h (.int .u8 110)) b (fun x60=>
    BS x60 (RD bab (a0Z 198 e 1) b (fun x62=>
    RD bab (a0o 9 x62) b (fun x63=>
    WR bab (a07 39 1 #[(0,x63)]) b (fun x64 aN4=>
    WR bab (a0G #[39,39] 39 #[(a 6),x64]) aN4 (fun x65 m=>
    RD bab (bo .add 3 (.tmp 27) (.const (.int .i64 1)) (a 27) (.int .i64 1)) m (fun aN5=>
   rec_1 (jg [(6,x65),(7,(a 7)),(27,aN5)]) m) (PX R)) (PX R)) (PX R)) (PX R)) (PX R)) (RD bab (bo .eql 5 (.tmp 31) (.const (.int .u8 42)) h (.int .u8 42)) b (fun x67=>
    BS x67 (RD bab (a0Z 198 e 3) b (fun x68=>
    RD bab (a0o 45 x68) b (fun x69=>
    RD bab (Instr.sliceAt 45 x69 (O (a 7)) V V) b (fun n=>
    RD bab (a1L #[45] 3 #[n]) b (fun x72=>
    Oi (fun rec_2 o d_3 f=>
     RD bab (bo .lss 3 (.tmp 73) (.tmp 72) (o 73) x72) f (fun x74=>
     BS x74 (RD bab (a1K 45 n (o 73)) f (fun S2=>
     RD bab (a0o 3 S2) f (fun x76=>
     CA bab 64 #[x76] f (fun x79 aN7=>
     WR bab (a07 39 1 #[(0,x79)]) aN7 (fun x80 aN9=>
     WR bab (a0G #[39,39] 39 #[(o 6),x80]) aN9 (fun x81 p=>
     RD bab (bo .add 3 (.tmp 73) (.const (.int .i64 1)) (o 73) (.int .i64 1)) p (fun x82=>
     rec_2 (jg [(6,x81),(73,x82)]) p) (PX R)) (PX R)) (PX R)) (PC R)) (PX R)) (PX R)) (RD bab (bo .add 3 (.tmp 27) (.const (.int .i64 1)) (a 27) (.int .i64 1)) f (fun aOc=>
   rec_1 (jg [(6,(o 6)),(7,(a 7)),(27,aOc)]) f) (PX R))) (PX R))
     (jg [(6,(a 6)),(73,(.int .i64 0))]) b) (PX R)) (PX R)) (PX R)) (PX R)) (RD bab (bo .add 3 (.tmp 27) (.const (.int .i64 1)) (a 27) (.int .i64 1)) b (fun aOd=>
   rec_1 (jg [(6,(a 6)),(7,(a 7)),(27,aOd)]) b) (PX R))) (PX R))) (PX R))) (PX R)))) (PX R)) (PX R)) (RD bab (a0Z 198 e 0) c (fun x85=>
  RD bab (a0o 9 x85) c (fun x86=>
  CA bab 108 #[p1,x86,(a 6)] c (fun x88 q=>
  RD bab (bo .add 3 (.tmp 18) (.const (.int .i64 1)) (s 18) (.int .i64 1)) q (fun x89=>
  rec (jg [(18,x89)]) q) (PX R)) (PC R)) (PX R)) (PX R))) (PX R))
   (jg [(6,bH),(7,(.int .i64 0)),(27,(.int .i64 0))]) r) NX) NX) (LB R)))) (PX R)) (PX R)) (PX R)) (PX R)) (R (ah (ak #[])) w1)) (PX R))
  (jg [(18,(.int .i64 0))]) w) (PX R)) (PX R)) (PX R)
def aOh(h:od p0 p1 w R):Calls bab 109 #[p0,p1] w R:=
 cq (args:=[p0,p1]) (Ey (zL [(1,[18]),(6,[6,7,27]),(21,[6,73])]) (zO [(10001,[32])]) (fun _=>0) (zO [(5,[0,1,2,5,0,3,4])]) (zL [(1,[]),(6,[]),(21,[])]) (zL [(10001,[])]) (zT [10001]) (zT [19,28,32,33,34,46,47,59,60,66,67,74])) func109 J zk zk h
def aOi:=cz w R [p0,p1,p2] (gd [(3,[14]),(7,[34])] [] [] [(5,[10,0,1,2,3,4,5,6,7,8,9,10])] [] [] [15,35]) func81
def aOj:=cz w R [p0] (gc [] [] []) func70
def aOk:=cz w R [p0,p1,p2] (gc [] [(2000,[30]),(3001,[])] [29,30]) func73
def aOl:=cz w R [p0,p1] (gc [] [(1000,[36]),(2001,[])] [34,35,36]) func72
def aOm:=cz w R [p0,p1] (gc [] [(2000,[19]),(3002,[])] [18,19]) func102
def aOn:=cz w R [] (gc [] [] []) func101
end
