/- A part of one proof (KV6, KV7, KV8, KV9, ShX4). -/
import Derived.Test.YtoegidfbnkaabaaGreatDoorPkKAW
set_option linter.all false
set_option maxRecDepth 100000
set_option maxHeartbeats 8000000
open Option renaming some → O, none → V
open Go renaming Value → Y, World → Z
open Bool renaming true → A, false → ae
open Go.Obj renaming cells → ah
open Go.Ending renaming returned → ai
open Go.Value renaming nilIface → aj, iface → ak, tuple → aq
open Go.Calls renaming mono → a0C
open List renaming getElem?_eq_getElem → a0F, getElem_mem → a03, getElem?_eq_some_iff → a08, replicate → a1g, range' → a1m, foldl_cons → a1A, take_succ_eq_append_getElem → a1Z, ext_getElem? → a2k, getElem?_replicate → a2N, take_of_length_le → a2R
open Option.some renaming inj → a0G
open Go.Instr renaming loadAt → a0Q, fieldAt → a1q, buildSlice → a1x, storeAt → a1X, indexAt → a2e
open Go.Value.slice renaming injEq → a0S
open Go.Builtin renaming append_ → a07, len_ → a2f
open Go.Proofs.Tryz renaming prog → baD
open Go.Proofs.Tryz
namespace Go.Proofs.YtoegidfbnkaabaaGreatDoor
open P
open Go.RowKit Sx
variable{d f g k n o pb pc:Nat}{o4 v vv:Y}{r:Except iM (Bool×Vm)}{tS:Nat->Nat}{iK:Array Y}{xs:List Y}
def BB(D:Nat->Prop)(ρ:Nat->Nat)(vb cb fA:Nat)(w:Z)(m:Vm):Prop:=∃ φ ψ av tv dk,gr D ρ ⟨φ,ψ,vb,cb,fA⟩ av tv dk w m
def P.Ug(m:Vm)(rest:List Co)(args:List Sl)(f pc:Nat):List Ga:=match rest with | []=>[] | _=>[⟨m.sr.tr.length,f,pc,rest,args⟩]
section
variable{D:Nat->Prop}{ρ:Nat->Nat}{e:AF}{av tv:Y}{dk:List Y}{w w':Z}{m:Vm}
theorem yo.sl{l:List Sl}(h:yo D ρ n tS pb w v l):∃ a c,v = .slice a l.length c:=by
 rcases h with⟨rfl,rfl⟩| ⟨b,cap,row,rfl,-⟩<;>exact⟨_,_,J⟩
def apU(h:gr D ρ e av tv dk w m)(hD:∀ b,w.heap.size<=b->D b){l:List Co}{args:List Sl}{m':Vm}(hl:ou w 185 vv xs)(hc:Bz w xs l)
  (ha:yo D ρ m.n e.ψ m.fs.length w o4 args) (hf:f<m.fs.length) (hn:n<=m.br.length) (kN:m.br.length<=900000000) (iW:∀ c∈l,c.slots<=64) (Fb:args.length<=60) (hr:m.enter l args f pc n=O m') :
  Calls baD 209 #[pp e.vb,vv,o4,pp (e.φ f),zi (pc:Nat),zi (n:Nat)] w fun en w'=>en = ai (aq #[])/\di D w w'/\BB D ρ e.vb e.cb e.fA w' m':=by
 cases l with
 | nil=>cases hr
 | cons c rest=>
 have hr:({ m with br:=m.br.take n++P.Ug m rest args f pc,fs:=m.fs++[⟨c,args++a1g (max c.slots args.length-args.length) .nil,n,O f,pc,ae⟩],f:=m.fs.length,pc:=0 }:Vm)=m':=a0G hr;subst hr;obtain⟨C,Py,tR⟩:=hc.2 0 c J;have uA:xs.length=rest.length+1:=by have:=hc.1;omega
 obtain⟨lb,lo,TN,lcs,rfl,Wc,qQ,aKX⟩:=hl.at (j:=0) zo;rw[Nat.add_zero,Py] at qQ;obtain⟨E,ac,gD⟩:=ij h.ar;have c0:=h.cell;have lv0:=bn c0;obtain⟨PT,Uh⟩:=P8 (by rw[gD] at h;exact h.ar:w.ownsRow 0 342 5 (.slice E m.br.length ac) m.br.length dk);obtain⟨ga,gc,L⟩:=ha.sl;have uV:(n:Int)<=(ac:Nat):=zo;suffices H:∀ R:Ending->Z->Prop,(∀ w',di D w w'->BB D ρ e.vb e.cb e.fA w' ({ m with br:=m.br.take n++P.Ug m rest args f pc,fs:=m.fs++[⟨c,args++a1g (max c.slots args.length-args.length) .nil,n,O f,pc,ae⟩],f:=m.fs.length,pc:=0 }:Vm)->R (ai (aq #[])) w') ->
   Calls baD 209 #[pp e.vb,.slice (O ⟨lb,lo,V⟩) xs.length TN,o4,pp (e.φ f),zi (pc:Nat),zi (n:Nat)] w R from H _ yF
 intro R hR;refine aM8 ?_;refine jt @c0 gD Uh ?_;have Yy:(n:Int).toNat=n:=zo;try rw[Yy]
 obtain⟨w1,jS⟩:=ck (bT w e.vb (ah #[pp e.cb,tv,zi (m.sr.fuel:Nat),pp (e.φ m.f),zi (m.pc:Nat),.slice E n ac] 116));obtain⟨h1,dC,hJ1⟩:=h.forget hn gD jS;have Yj:bT w e.vb (ah (oV #[pp e.cb,tv,zi (m.sr.fuel:Nat),pp (e.φ m.f),zi (m.pc:Nat),.slice E m.br.length ac] 5 (Value.slice E n ac).cells.toList) 116 (0,0))=w1:=jS.symm;rw[Yj];have c1:w1.heap[e.vb]?=aP #[pp e.cb,tv,zi (m.sr.fuel:Nat),pp (e.φ m.f),zi (m.pc:Nat),.slice E n ac] 116:=h1.cell;clear Yj jS;have lv1:=bn c1;have s1:=dC.size;refine⟨fun _ w'=>∃ av' avs',gr D ρ e av' tv avs' w' { m with br:=m.br.take n++P.Ug m rest args f pc }/\di D w w'/\pZ w w',?_,?_⟩
 .cases rest with
  | nil=>
   have Ej:¬ (xs.length:Int) > 1:=zg;refine cM Ej ?_;grind [P.Ug]
  | cons c2 rest=>
   have Ej:(xs.length:Int) > 1:=zg;refine cM Ej ?_;have dE:Ext w1 w1.drew:=yF;refine⟨fun w'=>w'.heap[e.vb]?=w1.heap[e.vb]?,J,?_⟩;rw[jF];refine cR (pq e.vb 5) (fun w' g=>eS) ?_;refine cR (.slice E n ac) (fun w' g=>by rw[c1] at g;have:=bn g;exact fj g) ?_;rw[jF];refine cR (pq e.vb 1) (fun w' g=>eS) ?_;obtain⟨v2,i,rfl⟩:∃ v2 i,xs=v2::i:=by cases xs with | nil=>grind | cons a b=>grind
   have aXq:i.length=rest.length+1:=zg;have P9:ou w 185 (sliced (O ⟨lb,lo,V⟩) 1 (i.length+1) TN 1) i:=hl.tail zg;obtain⟨Q,S,ze⟩:∃ Q S,sliced (O ⟨lb,lo,V⟩) 1 (i.length+1) TN 1 = .slice Q i.length S:=⟨_,_,J⟩;rw[ze] at P9;have afB:(1:Int)<=(((v2::i).length:Nat):Int):=zo;refine cR (.slice Q i.length S) (fun w' g=>fj ze) ?_;refine a0C (Tn (h1.ext dE).st CU) ?_;rintro en w2 ⟨rfl,rfl⟩;refine⟨J,?_⟩;rw[L];refine bF ?_;obtain⟨l0,T⟩:∃ l0:List Y,l0=[zi (m.sr.tr.length:Nat),pp (e.φ f),zi (pc:Nat),.slice Q i.length S,o4]:=⟨_,J⟩;obtain⟨w2,j3⟩:=ck (w1.drew.alloc (ah l0.toArray 342 (0,0)));have U:Ext w1 w2:=yF;have g2:w2.heap[w1.heap.size]?=aP l0.toArray 342:=yH;have s2:w2.heap.size=w1.heap.size+1:=yH;rw[T,L] at j3;rw[<- j3];have z:=h1.ext U;have q2:w2.heap[e.vb]?=aP #[pp e.cb,tv,zi (m.sr.fuel:Nat),pp (e.φ m.f),zi (m.pc:Nat),.slice E n ac] 116:=z.cell;have zc:(m.br.take n).length=n:=zg;have t:pZ w w2:=hJ1.trans (pZ.ed U);refine apT z.ar g2 zg (by rw[T,L];intro u hu;simp only[List.mem_cons,List.not_mem_nil,or_false] at hu;rcases hu with rfl | rfl | rfl | rfl | rfl<;>rfl) zg zo ?_;intro v' w3 KJ xN Ee;obtain⟨p3,d3,e3⟩:=ij KJ;subst e3;have Lh:ny D ρ m.n e.φ e.ψ m.fs.length w2 l0 [⟨m.sr.tr.length,f,pc,c2::rest,args⟩]:=by
    refine⟨.slice Q i.length S,o4,i,[],zg,hf,P9.bJ fun b cs hb=>t.1 b cs _ (yM) hb,?_,ha.bJ t.1 t.toR (eC.refl _ _) (yn.refl e.φ _ _) yH,J⟩;exact Bz.bJ t.1 (Bz.tail hc)
   obtain⟨k,F⟩:=ck (bT w3 e.vb (ah #[pp e.cb,tv,zi (m.sr.fuel:Nat),pp (e.φ m.f),zi (m.pc:Nat),.slice p3 ((m.br.take n).length+1) d3] 116));obtain⟨r1,r2,r3,r4⟩:=z.KY (l:=m.br.take n++[⟨m.sr.tr.length,f,pc,c2::rest,args⟩]) zg xN yH (z.ag.snoc Lh) F;have c3:=r4.trans q2;refine⟨yH,?_⟩;refine cM @c3 ?_;have Lb:bT w3 e.vb (ah (oV #[pp e.cb,tv,zi (m.sr.fuel:Nat),pp (e.φ m.f),zi (m.pc:Nat),.slice E n ac] 5 (Value.slice p3 ((m.br.take n).length+1) d3).cells.toList) 116 (0,0))=k:=F.symm;first | rw[Lb] | rw[<- F]
   exact⟨_,_,r1,dC.trans ((di.ed U).trans r2),t.trans r3⟩
 .rintro s w2 ⟨B,Qa,z,U,t⟩ d;clear d;have s2:=U.size;have G:=t.1 _ _ _ (yM) Wc;obtain⟨insv,gX,xr⟩:=id tR;have KK:=t.1 _ _ _ (yM) gX;have c2:w2.heap[e.vb]?=aP #[pp e.cb,tv,zi (m.sr.fuel:Nat),pp (e.φ m.f),zi (m.pc:Nat),B] 116:=z.cell;obtain⟨ba,bc,mM⟩:∃ a c,B = .slice a (m.br.take n++P.Ug m rest args f pc).length c:=ij z.ar;have hlp:(0:Int)<(xs.length:Int):=zo;have hsc:c.slots<=64:=zg;obtain⟨M,hM⟩:=ck (max c.slots args.length);have NT:args.length<=M:=zo;have hMb:M<=1000000:=zo;have hmx:(if (args.length:Int) > (c.slots:Int) then(args.length:Int) else(c.slots:Int))=(M:Int):=zo;rw[L];refine⟨fun w'=>w'.heap[lb]?=w2.heap[lb]?/\w'.heap[C]?=w2.heap[C]?,yH,?_⟩;refine cR (pq lb lo) (fun w' g=>eS) ?_;refine cR (pp C) (fun w' g=>by have x:=g.1;rw[G] at x;have:=bn x;exact lW x qQ) ?_;refine cR (pq lb lo) (fun w' g=>eS) ?_;refine cR (pp C) (fun w' g=>by have x:=g.1;rw[G] at x;have:=bn x;exact lW x qQ) ?_;rw[jF];refine cR (pp C) (fun w' g=>eS) ?_;refine cR (zi (c.slots:Nat)) (fun w' g=>by have x:=g.2;rw[KK] at x;have:=bn x;exact fj x) ?_;refine cR (zi (args.length:Nat)) (fun w' g=>eS) ?_;refine cR (zi (M:Nat)) (fun w' g=>by rw[aw8,hmx]) ?_;refine bF ?_;have l2:=bn c2;have llb:=bn G;have X5:=bn KK;obtain⟨wr,N1⟩:=ck (w2.drew.alloc (ah (madeCells #[aj] M) 20 (0,0)));obtain⟨w3,sI⟩:=ck (wr.alloc (ah #[pp C,cU w2.heap.size M M,zi (n:Nat),pp (e.φ f),zi (pc:Nat)] 203));have aXu:Ext w2 wr:=yF;have T0:Ext w2 w3:=yF;have sr:wr.heap.size=w2.heap.size+1:=yH;have s3:w3.heap.size=w2.heap.size+2:=yH;have TO:(madeCells #[Value.nilIface] M).size=M:=size_madeCells ..;obtain⟨N,mG⟩:=ck (madeCells #[Value.nilIface] M);have hr3:w3.heap[w2.heap.size]?=aP N 20:=yH;have dV:w3.heap[w2.heap.size+1]?=aP #[pp C,cU w2.heap.size M M,zi (n:Nat),pp (e.φ f),zi (pc:Nat)] 203:=yH;have c3:=T0.ext _ _ c2;have l3:=bn c3;rw[<- N1,<- sI];rw[<- mG] at TO;refine⟨yH,yH,?_⟩;clear N1 sI;replace c3:=c3.trans c2.symm;refine dB @c2 dV ?_;obtain⟨k,F⟩:=ck (bT w3 e.vb (ah #[pp e.cb,tv,zi (m.sr.fuel:Nat),pp (w2.heap.size+1),zi (m.pc:Nat),B] 116));have Lb:bT w3 e.vb (ah (oV #[pp e.cb,tv,zi (m.sr.fuel:Nat),pp (e.φ m.f),zi (m.pc:Nat),B] 3 (Value.pointer (O ⟨w2.heap.size+1,0,V⟩)).cells.toList) 116 (0,0))=k:=F.symm;first | rw[Lb] | rw[<- F]
  have apW:w2.heap.size≠e.vb:=zo;have W:w2.heap.size+1≠e.vb:=zo;have G9:k.heap[w2.heap.size]?=aP N 20:=yH;have c4:k.heap[e.vb]?=aP #[pp e.cb,tv,zi (m.sr.fuel:Nat),pp (w2.heap.size+1),zi (m.pc:Nat),B] 116:=yH;have X:bD (fun b _=>b=e.vb) w2 k:=yF;have eF:k.heap[w2.heap.size+1]?=_:=(by rw[F,jh W]:k.heap[w2.heap.size+1]?=w3.heap[w2.heap.size+1]?).trans dV;have s4:k.heap.size=w2.heap.size+2:=yH;clear Lb F;have Ig:∀ (p:Z) (row:Array Y),bD (fun b _=>b=w2.heap.size) k p->p.heap[w2.heap.size]?=aP row 20->row.size=M->(∀ (ww:Z),pZ w2 ww->CT ρ m.n ww row (args++a1g (M-args.length) .nil)) ->
    NC (pp e.vb) fun x74=>RD baD (a1q 116 x74 3) p (fun Tt=>WU baD (a1X 3 Tt (zi 0)) p (fun q=>R (ai (aq #[])) q) (PX R)) (PX R):=by
   intro p row XT QH I5 aNo;have c5:p.heap[e.vb]?=_:=XT.block _ _ c4 (fun e=>apW e.symm);have l5:=bn c5;refine cM @c5 ?_;obtain⟨q,po⟩:=ck (bT p e.vb (ah #[pp e.cb,tv,zi (m.sr.fuel:Nat),pp (w2.heap.size+1),zi ((0:Nat):Int),B] 116));have aNp:bT p e.vb (ah (oV #[pp e.cb,tv,zi (m.sr.fuel:Nat),pp (w2.heap.size+1),zi (m.pc:Nat),B] 4 (Value.int .i64 0).cells.toList) 116 (0,0))=q:=po.symm;first | rw[aNp] | skip
   have c6:q.heap[e.vb]?=aP #[pp e.cb,tv,zi (m.sr.fuel:Nat),pp (w2.heap.size+1),zi ((0:Nat):Int),B] 116:=yH;have r6:q.heap[w2.heap.size]?=aP row 20:=yH;have f6:q.heap[w2.heap.size+1]?=_:=(by rw[po,jh W]:q.heap[w2.heap.size+1]?=p.heap[w2.heap.size+1]?).trans (XT.block _ _ eF zo);have apZ:bD (fun b _=>b=e.vb) w2 q:=by
    have DI:bD (fun b _=>b=e.vb\/w2.heap.size<=b) w2 p:=(bD.mono X fun _ _ _ h=>Or.inl h).trans (by grind [bD.mono]);rw[po];refine bD.mono (DI.bT (.inl fun _=>.inl J)) fun b o hb h=>?_;grind
   have aNq:di D w2 q:=bD.mono apZ fun b o ho e=>by
    subst e;rw[c2] at ho;exact⟨z.st.ds,_,_,_,(a0G ho).symm,.inr (.inr (.inr (.inr (.inl J))))⟩
   have ap0:pZ w2 q:=⟨aNq.toI,(by grind [bD.block])⟩;have hlen:(args++a1g (M-args.length) Sl.nil).length=M:=zg;obtain⟨uP,rS,g1,g2⟩:=z.aNj yH apZ (fb:=w2.heap.size+1) (rb:=w2.heap.size) (cb:=C) (c:=c) (slots:=args++a1g (M-args.length) .nil) (row:=row) (n:=n) (f:=f) (pc:=pc) zo zo
    (by rw[hlen];exact f6) (tR.bJ (t.1.trans ap0.1)) r6 (by rw[hlen];exact I5) (aNo q ap0) hf c6
   rw[hM] at g1;have kT:=hR q yF ⟨uP,rS,B,tv,Qa,g1⟩;exact yH
  have Yz:∀ (j:Nat) (y:Sl),(a1g M Sl.nil)[j]?=O y->N[j]?=O aj/\y = .nil:=fun j y r=>by
   have Ui:j<M:=zg;rw[a2N,zip Ui] at r;refine⟨?_,zg⟩;have:=apn aj M j Ui;grind
  rcases ha with⟨rfl,Uj⟩| ⟨ab,aXv,I,Uj,hac,nk,aXw,ap1,-⟩
  .rw[L] at Uj;cases Uj;rw[show(([]:List Sl).length)=0 from J,aNh];refine Ig k N yF G9 TO fun ww _ j y r=>?_;obtain⟨h5,rfl⟩:=Yz j y (by simpa using r);exact⟨_,h5,J⟩
  .rw[L] at Uj;cases Uj;have K:=t.2 _ _ nk;have aNr:=X.block _ _ K (fun e=>by
    rw[e,c2] at K;injection K with K;injection K with _ K _;cases K)
   rw[aNi G9 aNr zo NT zo (fun v hv=>?_)]
   rotate_left
   .obtain⟨j,r,rfl⟩:=List.getElem_of_mem hv;rw[List.length_take] at r;have Gq:j<args.length:=zo;obtain⟨u,uN,Fx⟩:=ap1 j _ (a0F Gq);have:(I.toList.take args.length)[j]=u:=by
     grind
    rw[this];rcases Fx.one with rfl | ⟨_,_,rfl⟩<;>rfl
   .obtain⟨p,ow⟩:=ck (bT k w2.heap.size (ah (I.toList.take args.length++N.toList.drop args.length).toArray 20 (0,0)));rw[<- ow];refine Ig p (I.toList.take args.length++N.toList.drop args.length).toArray (yF) (yH) zg fun ww hJw j y r=>?_;by_cases fD:j<args.length
    .rw[List.getElem?_append_left fD] at r;obtain⟨u,uN,Fx⟩:=ap1 j y r;refine⟨u,?_,Fx.bJ (t.1.trans hJw.1) (eC.refl _ _)⟩;grind
    .rw[List.getElem?_append_right zo] at r;obtain⟨h5,rfl⟩:=Yz j y (by
      have:j-args.length<M-args.length:=by
       have:=(a08.1 r).1;simpa using this
      rw[a2N,zip this] at r;rw[a2N,zip zo];exact r)
     refine⟨_,?_,J⟩;grind
end
def afH{w:Z}{x y:Operand}{K:Y->Prop}{X:Y->Z->Prop}(a:Option Addr)(n c:Nat):RD baD (bo .eql 192 x y (.slice a n c) b9) w K X=K (.bool a.isNone):=
 ig (by cases a<;>kernel_rfl)
section
variable{D:Nat->Prop}{ρ:Nat->Nat}{e:AF}{av tv:Y}{dk:List Y}{w w':Z}{m:Vm}
def gr.place(h:gr D ρ e av tv dk w m)(hm:k<m.br.length):∃ g ac cur a b fX,av = cU g m.br.length ac/\m.br.length<=ac/\w.heap[g]?=aP cur 342/\cur.size=ac*5 /\
  cur[k*5]?=O (zi ((m.br[k]).mark:Nat))/\cur[k*5+1]?=O (pp (e.φ (m.br[k]).f))/\cur[k*5+2]?=O (zi ((m.br[k]).pc:Nat))/\cur[k*5+3]?=O a/\cur[k*5+4]?=O b /\
  (m.br[k]).f<m.fs.length/\ou w 185 a fX/\Bz w fX (m.br[k]).others/\yo D ρ m.n e.ψ m.fs.length w b (m.br[k]).args:=by
 obtain⟨a,b,fX,q,g2,g3,g4,g5⟩:=h.ag.at k hm;rcases h.ar.2 with⟨-,c⟩| ⟨g,cap,cur,d,c,i,l,r,o,s⟩
 .exact yH
 .have p:∀ j,j<5->cur[k*5+j]?=[Value.int .i64 ((m.br[k]).mark:Nat),pp (e.φ (m.br[k]).f),zi ((m.br[k]).pc:Nat),a,b][j]?:=zg;exact⟨g,cap,cur,a,b,fX,d,l,i,o,p 0 zo,zg,zg,zg,zg,g2,g3,g4,g5⟩
def ap2(h:gr D ρ e av tv dk w m)(hD:∀ b,w.heap.size<=b->D b)(wY:∀ a∈m.br,a.mark<=m.sr.tr.length/\(∀ c∈a.others,c.slots<=64)/\a.args.length<=60)(Fa:m.sr.tr.length<=900000000)(kN:m.br.length<=900000000)
  {p:Bool×Vm} (hr:m.back=O p) :
  Calls baD 206 #[pp e.vb] w fun E w'=>di D w w'/\E = ai (.bool p.1)/\BB D ρ e.vb e.cb e.fA w' p.2:=by
 suffices H:∀ R:Ending->Z->Prop,(∀ w',di D w w'->BB D ρ e.vb e.cb e.fA w' p.2->R (ai (.bool p.1)) w')->Calls baD 206 #[pp e.vb] w R from
  H _ yF
 intro R q;have r:=h.cell;have l1:=bn r;obtain⟨aa,ac,d⟩:=ij h.ar;refine aM7 ?_;unfold Vm.back at hr;by_cases hle:m.br.length=0
 .have hlt:(m.br.length:Int)-1<0:=zo;rw[List.eq_nil_of_length_eq_zero hle] at hr;cases hr;refine jt @r d hlt ?_;exact q _ yF ⟨_,_,_,_,_,h⟩
 have hlt:¬ (m.br.length:Int)-1<0:=zo;obtain⟨k,hm⟩:∃ k,m.br.length=k+1:=⟨m.br.length-1,zo⟩;have i:k<m.br.length:=zo;have Qj:m.br.getLast?=O m.br[k]:=zg;rw[Qj] at hr;simp only at hr;obtain⟨g,ac',cur,P,xn,fX,F,e2,G,jr,q0,q1,q2,q3,q4,i1,i2,i3,i4⟩:=h.place i;rw[d] at F;simp only[a0S,true_and] at F;obtain⟨rfl,rfl⟩:=F;have lg:=bn G;have I:(m.br.length:Int)-1=(k:Nat):=zo;have j:((k:Nat):Int).toNat=k:=zo;refine dB @r d ?_;rw[I] at hlt ⊢;obtain⟨u3,u4,u5⟩:=wY m.br[k] (a03 i);have s:Ext w w.drew:=yF;refine dL hlt @r d (zA @j (zA G @q0)) ?_;refine a0C (aee (h.ext s).less CU u3 Fa) ?_;rintro E w2 ⟨rfl,K,L,mB⟩;have CY:pZ w w2:=(pZ.ed s).trans (Dn.apO K);have t:w2.heap[g]?=aP cur 342:=K.block _ _ G (by rintro ⟨⟨-,u,-⟩,-⟩;rw[d] at u;exact u J);obtain⟨x,TB⟩:=(h.ext s).store mB K;have Q:di D w w2:=(di.ed s).trans TB;have c2:w2.heap[e.vb]?=aP #[pp e.cb,L,zi (m.sr.fuel:Nat),pp (e.φ m.f),zi (m.pc:Nat),av] 116:=x.cell;rw[d] at c2;have l2:=bn c2;have s2:=Q.size;obtain⟨ga,gc,S⟩:=i4.sl;obtain⟨X4,cvn,TP,y⟩:∃ a n c,P = .slice a n c:=by
  rcases i2 with⟨-,rfl⟩| ⟨b,o,cap,cs,rfl,-⟩<;>exact zg
 have M:=q3;have T:=q4;rw[y] at M;rw[S] at T;refine jt t @M @afH ?_;have z:Ext w2 w2.drew:=yF;have hsr:(⟨m.n,m.sr.gO (m.br[k]).mark,m.fs,m.f,m.pc,m.br⟩:Vm)={ m with sr:=m.sr.gO (m.br[k]).mark }:=rfl;by_cases xP:(m.br[k]).others=[]
 .have:fX=[]:=by have:=i3.1;grind
  subst this;have U:P = b9:=by
   rcases i2 with⟨-,h⟩| ⟨b,o,cap,cs,-,-,-,-,h⟩<;>grind
  rw[y] at U;cases U;simp only[xP] at hr;cases hr;refine bF ?_;refine⟨fun w'=>w'.heap[g]?=w2.heap[g]?,J,?_⟩;rw[jF];refine cR (pq g (k*5+1)) (fun w' B=>fj @j) ?_;refine cR (pp (e.φ (m.br[k]).f)) (fun w' B=>by rw[t] at B;have:=bn B;exact JM B @q1 @j) ?_;have QI:((k:Nat):Int)<=(ac:Nat):=zo;obtain⟨PT,Uh⟩:=P8 (by have:=x.ar;grind:w2.ownsRow 0 342 5 (cU g m.br.length ac) m.br.length dk);refine dL t @q2 @c2 (zA @j Uh) ?_;have aXy:g≠e.vb:=zg;obtain⟨w3,W⟩:=ck (bT w2.drew e.vb (ah #[pp e.cb,L,zi (m.sr.fuel:Nat),pp (e.φ (m.br[k]).f),zi ((m.br[k]).pc:Nat),av] 116 (0,0)));obtain⟨N,X⟩:=(x.ext z).own (w':=w3) (f':=(m.br[k]).f) (pc':=(m.br[k]).pc) (yF) (by rw[W];exact qo J l2) i1;obtain⟨w4,jw⟩:=ck (bT w2.drew e.vb (ah #[pp e.cb,L,zi (m.sr.fuel:Nat),pp (e.φ (m.br[k]).f),zi ((m.br[k]).pc:Nat),cU g k ac] 116 (0,0)));obtain⟨h4,gn,-⟩:=N.forget (k:=k) (w1:=w4) zg d (by rw[W,RR,jw];rfl);have Mc:m.br.dropLast=m.br.take k:=by grind [List.dropLast_eq_take,Nat.add_sub_cancel]
  rw[Mc] at q;rw[<- jw];refine⟨yH,?_⟩;exact q w4 yF ⟨_,_,_,_,_,h4⟩
 .have jP:fX≠[]:=by
   rintro rfl;have:=i3.1;grind
  obtain⟨cb,co,aLx,ccs,K6,gX,-,-,-⟩:=i2.resolve_left zg;rw[y] at K6;cases K6;obtain⟨m',pL,rfl⟩:∃ m',({ m with sr:=m.sr.gO (m.br[k]).mark }:Vm).enter (m.br[k]).others (m.br[k]).args (m.br[k]).f (m.br[k]).pc k=O m'/\p=(A,m'):=by
   grind
  refine dL @Option.isNone_some.{0} t @q1 (zA @q2 (zA @M (zA @T @j))) ?_;have C:pZ w w2.drew:=CY.trans (pZ.ed z);rw[y] at i2;rw[S] at i4;refine a0C (apU (x.ext z) yH (l:=(m.br[k]).others) (args:=(m.br[k]).args) (f:=(m.br[k]).f) (pc:=(m.br[k]).pc) (n:=k) (m':=m') (i2.bJ fun b cs u=>C.1 _ _ _ (yM) u) (i3.bJ C.1)
   (i4.bJ C.1 C.toR (eC.refl _ _) (yn.refl e.φ _ _) yH) i1 zg kN u4 u5 pL) ?_
  rintro E w3 ⟨rfl,X,N⟩;refine bF ?_;exact q w3 (Q.trans ((di.ed z).trans X)) N
end
def P.ap4{m:Vm}{x:Fm}(hx:m.fs[m.f]?=O x)(k:Nat)(y:Sl):m.set k y={ m with fs:=m.fs.set m.f { x with slots:=x.slots.set k y } }:=by
 unfold Vm.set
 congr 1
 apply a2k;grind
def P.afI(g:Nat->Nat->Sl):∀ (L:List (Nat×Nat)) {m:Vm} {x:Fm},m.fs[m.f]?=O x->L.foldl (fun m p=>m.set p.1 (g m.n p.2)) m={ m with fs:=m.fs.set m.f { x with slots:=L.foldl (fun s p=>s.set p.1 (g m.n p.2)) x.slots } }
 | [],m,x,hx=>by
  simp only[List.foldl_nil];have:m.fs.set m.f { x with slots:=x.slots }=m.fs:=by
   apply a2k;grind
  rw[this]
 | p::L,m,x,hx=>by
  have a:m.f<m.fs.length:=zg;rw[a1A,P.ap4 hx,P.afI g L (x:={ x with slots:=x.slots.set p.1 (g m.n p.2) }) zg];grind [List.set_set]
def P.ap5:∀ (L:List (Nat×Tm)) {m:Vm} {x:Fm},m.fs[m.f]?=O x->L.foldl (fun m p=>m.set p.1 (.term p.2)) m={ m with fs:=m.fs.set m.f { x with slots:=L.foldl (fun s p=>s.set p.1 (.term p.2)) x.slots } }
 | [],m,x,hx=>by
  have:=P.afI (fun _ _=>.nil) [] hx;grind
 | p::L,m,x,hx=>by
  have a:m.f<m.fs.length:=zg;rw[a1A,P.ap4 hx,P.ap5 L (x:={ x with slots:=x.slots.set p.1 (.term p.2) }) zg];grind [List.set_set]
section
variable{D:Nat->Prop}{ρ:Nat->Nat}{e:AF}{av tv:Y}{dk:List Y}{w w':Z}{m:Vm}
def gr.setRow(h:gr D ρ e av tv dk w m)(k:bD (fun b _=>b=e.ψ m.f) w w'){x:Fm}(hx:m.fs[m.f]?=O x){sl':List Sl}(r:w'.heap[e.ψ m.f]?=aP iK 20)
  (hlen:sl'.length=x.slots.length) (I:iK.size=x.slots.length) (s:CT ρ m.n w' iK sl'):gr D ρ e av tv dk w' { m with fs:=m.fs.set m.f { x with slots:=sl' } }/\di D w w':=by
 obtain⟨⟨cb,t,u,y⟩,B,row,C,K,L⟩:=h.fs _ _ hx;have E:QF 20 w w':=fun b cs T M c=>(by grind [bD.block]);have d:di D w w':=bD.mono k fun b o l he=>by
  subst he;rw[C] at l;exact⟨h.dp _ h.fl,_,_,_,(a0G l).symm,.inr (.inr (.inr (.inr (.inr (.inr J)))))⟩
 have F:Ue e.ψ m.fs.length w w':=fun b cs c hx=>(by grind [bD.block,fl]);have G:(m.fs.set m.f { x with slots:=sl' }).length=m.fs.length:=List.length_set ..;have p:∀ (i:Nat) (z:Fm),(m.fs.set m.f { x with slots:=sl' })[i]?=O z->(i=m.f/\z={ x with slots:=sl' })\/(i≠m.f/\m.fs[i]?=O z):=zg;refine⟨⟨h.st.afx E zo,zg,fun i z a=>?_,fun i z b a c=>?_,(by grind [dp]),fun i j g N=>h.inj i j zg zg,(by grind [afw,ar]),?_,h.da⟩,d⟩
 .rcases p i z a with⟨rfl,rfl⟩| ⟨g,a⟩
  .refine⟨⟨cb,?_,u.bJ d.toI,y⟩,B,iK,r,zg,s⟩;have:=d.toI _ _ _ (yM) t;exact yH
  .have q:i<m.fs.length:=zg;exact(h.fs i z a).bJ d.toI (eC.refl _ _) (yn.refl _ _ _) q (fun b c=>h.bk i _ b a c) fun cs H=>k.block _ _ H fun he=>g (h.inj _ _ q h.fl he)
 .show b<(m.fs.set _ _).length;rw[G];rcases p i z a with⟨rfl,rfl⟩| ⟨g,a⟩
  .exact h.bk _ x b hx c
  .exact h.bk i z b a c
 .have:=h.ag.bJ d.toI F (eC.refl _ _) (yn.refl e.φ _ _) yH;grind
def gr.aNt(h:gr D ρ e av tv dk w m)(hD:∀ b,w.heap.size<=b->D b)(l:Ext w w'){bl:Nat->Nat}(hv:∀ j,j<k->w.heap.size<=bl j/\w'.heap[bl j]?=aP #[aj] 91)
  (u:∀ i j,i<k->j<k->bl i=bl j->i=j) :
  ∃ eO,eC ρ m.n eO (m.n+k)/\(∀ j,j<k->eO (m.n+j)=bl j)/\gr D eO e av tv dk w' { m with n:=m.n+k }:=by
 obtain⟨eO,y⟩:∃ eO:Nat->Nat,eO=fun i=>if i<m.n then ρ i else bl (i-m.n):=⟨_,J⟩
 have hu:eC ρ m.n eO (m.n+k):=⟨zo,zg⟩;have z:∀ j,eO (m.n+j)=bl j:=zg;have hold:∀ i,i<m.n->ρ i<w.heap.size:=fun i d=>by
  obtain⟨r,c,-⟩:=h.st.sv.var i d;exact yH
 have o:=h.st.ext l;have g:∀ i,i<m.n+k->i<m.n\/∃ j,j<k/\i=m.n+j:=fun i d=>by
  by_cases h:i<m.n
  .omega
  .exact .inr ⟨i-m.n,zo,zo⟩
 refine⟨eO,hu,zg,h.rest (pZ.ed l) hu (jQ l.ext h.ar) ?_ h.fl⟩;refine⟨⟨fun i j d x he=>?_,fun i d=>?_⟩,fun i d=>?_,o.cell,?_,h.st.dr,h.st.ds,h.st.nd,fun p f=>Nat.lt_of_lt_of_le (h.st.lt p f) hu.1,h.st.ok⟩
 .rcases g i d with c | ⟨a,c,rfl⟩<;>rcases g j x with q | ⟨b,q,rfl⟩
  .rw[hu.2 i c,hu.2 j q] at he;exact h.st.sv.inj i j c q he
  .grind
  .grind
  grind
 .rcases g i d with c | ⟨a,c,rfl⟩
  .obtain⟨r,g1,g2⟩:=o.sv.var i c;refine⟨r,yH,?_⟩;cases s:P.look i m.sr.tr with
   | none=>grind
   | some t=>rw[s] at g2;exact dK.mono zg hu.1 hu.2 (fun _ _ _ _ _ h=>h) t r g2
  .have s:P.look (m.n+a) m.sr.tr=none:=P.PS fun hm=>by
    obtain⟨p,f,B⟩:=List.mem_map.1 hm;have:=h.st.lt p f;omega
   exact yH
 .rcases g i d with c | ⟨a,c,rfl⟩
  .rw[hu.2 i c];exact h.st.dv i c
  grind
 .have e:rp eO m.sr.tr=rp ρ m.sr.tr:=by
   unfold rp;refine List.map_congr_left fun p f=>?_;rw[hu.2 p.1 (h.st.lt p (List.mem_reverse.1 f))]
  rw[e];exact o.row
end
abbrev rT(D:Nat->Prop)(ρ:Nat->Nat)(n vb cb fA:Nat)(p:Bool×Vm)(e:Ending)(w':Z):Prop:=
 e = ai (.bool p.1)/\∃ eO,eC ρ n eO p.2.n/\BB D eO vb cb fA w' p.2
def P.YB(i:P.In)(m:Vm):Option Tm->P.Out (Bool×Vm)
 | none=>V
 | some (.var v)=>let m1:=i.s.tail.zipIdx.foldl (fun m p=>m.set p.1 (.term (.var (m.n+p.2)))) m;O (.ok (A,{ m1 with n:=m.n+i.s.tail.length,sr:=m.sr.bind v (.comp i.name ((a1m m.n i.s.tail.length).map .var)) }))
 | some (.comp name args)=>if name=i.name/\args.length=i.s.length-1 then O (.ok (A,(i.s.tail.zip args).foldl (fun m p=>m.set p.1 (.term p.2)) m)) else O (.ok (ae,m))
 | some _=>O (.ok (ae,m))
def P.ap6(d:Nat)(i:P.In)(m:Vm):P.Out (Bool×Vm):=Cx (m.at i 0) fun t=>P.YB i m (dR m.sr.tr d t)
def CT.set{ρ:Nat->Nat}{n:Nat}{w:Z}{row:Array Y}{l:List Sl}(h:CT ρ n w row l)(d:row.size=l.length)(k:Nat){v:Y}{y:Sl}(e:zm ρ n w v y):CT ρ n w (row.setIfInBounds k v) (l.set k y):=by
 intro j b a;rw[List.getElem?_set] at a;by_cases c:k=j
 .grind
 .rw[bO c] at a;obtain⟨u,g1,g2⟩:=h j b a;grind
section
variable{D:Nat->Prop}{ρ:Nat->Nat}{e:AF}{av tv:Y}{dk:List Y}{w w':Z}{m:Vm}
def aNu(h:gr D ρ e av tv dk w m)(hD:∀ b,w.heap.size<=b->D b){x:Fm}(hx:m.fs[m.f]?=O x){i:P.In}(hi:AI w g o i)(h2:2<=i.s.length)(hk:∀ k∈i.s,k<x.slots.length)(xf:i.s.length<=60)(my:i.name.length<=20)
  (KF:∀ v,P.look v m.sr.tr=V->v ∉ m.sr.tr.map (·.1)) (Fa:m.sr.tr.length<=900000000)
 (hr:P.ap6 d i m=O r) :
  Calls baD 212 #[pp e.vb,pq g o] w (EPost D w (rT D ρ m.n e.vb e.cb e.fA) r):=by
 suffices H:∀ R:Ending->Z->Prop,(∀ X w',EPost D w (rT D ρ m.n e.vb e.cb e.fA) r X w'->R X w')->Calls baD 212 #[pp e.vb,pq g o] w R from H _ fun _ _ h=>h;intro R hR;refine aM9 ?_;unfold P.ap6 at hr;refine a0C (Yx h hx hi (k:=0) zo (by grind [a03]) zo) ?_;rintro X w1 ⟨rfl,hp⟩;have dE:Ext w w.drew:=yF;cases M:m.at i 0 with
 | error t=>
  rw[M] at hr hp;have hr:=(a0G hr);subst hr;have hp:X=gW t:=hp;subst hp;cases t<;>exact hR _ _ ⟨yF,J⟩
 | ok t=>
 rw[M] at hr hp;obtain⟨v,rfl,hv⟩:=hp;have hr:P.YB i m (dR m.sr.tr d t)=O r:=hr;have hd:=h.ext dE;cases hw:dR m.sr.tr d t with
 | none=>rw[hw] at hr;cases hr
 | some t'=>
 rw[hw] at hr;refine a0C (GV hd.st.sv hv hw) ?_;rintro X w1 ⟨rfl,u,rfl,hu⟩;have aXA:r = .ok (ae,m)->R (ai (.bool ae)) w.drew:=fun hr=>by
  subst hr;exact hR _ _ ⟨yF,J,ρ,eC.refl _ _,_,_,_,_,_,hd⟩
 obtain⟨cur,hg,ho,iw,vO,aNv,sv,dY,mB⟩:=hi;have oU:=dE.ext _ _ hg;have lgd:=bn oU;obtain⟨nb,xp,rfl,oZ,-,xQ⟩:=Ld mB (j:=0) zo;cases t' with
 | atom s=>
  unfold dN dK at hu;subst hu;have hr:r = .ok (ae,m):=(a0G hr).symm;refine bF ?_;grind
 | int s=>
  unfold dN dK at hu;subst hu;have hr:r = .ok (ae,m):=(a0G hr).symm;refine bF ?_;grind
 | comp name args=>
  unfold dN dK at hu;obtain⟨b,av1,vs1,rfl,-,q,iW,kQ⟩:=hu;have ap7:Ext w w.drew.drew:=yF;have nK:=bD.drew (bD.refl (fun _ _=>False) w.drew) |>.ext _ _ q;have N:=ap7.ext _ _ hg;obtain⟨aa,ac,YC⟩:=iW.sl;have NO:vs1.length=args.length:=kQ.length;rw[NO] at YC;subst YC;have hL:i.s.length-1<=i.s.length:=zo;have YD:(i.s.length:Int)-1=((i.s.length-1:Nat):Int):=zo;refine bF ?_;refine⟨fun _ w2=>w2=w.drew.drew/\(name=i.name/\args.length=i.s.length-1),?_,?_⟩
  .refine⟨fun s w2=>w2=w.drew.drew/\s 92 = .bool (decide (¬ (name=i.name/\args.length=i.s.length-1))),?_,?_⟩
   .by_cases F:name=i.name
    .subst F;have e9:decide (¬ (args.length:Int)=(i.s.length:Int)-1)=decide (¬ (i.name=i.name/\args.length=i.s.length-1)):=by
      grind
     refine dL nK N @vO dY ?_;grind
    .have e9:decide (¬ (name=i.name/\args.length=i.s.length-1))=true:=zg;refine dL nK N @vO (zA dY F) ?_;grind
   .rintro s w2 ⟨rfl,YE⟩ d2;clear d2;by_cases hc:name=i.name/\args.length=i.s.length-1
    .have e9:decide (¬ (name=i.name/\args.length=i.s.length-1))=false:=zg;rw[e9] at YE;refine cM YE ?_;omega
    .have e9:decide (¬ (name=i.name/\args.length=i.s.length-1))=true:=zg;rw[e9] at YE;refine cM YE ?_;have hr:r = .ok (ae,m):=by
      grind [P.YB]
     subst hr;exact hR _ _ ⟨yF,J,ρ,eC.refl _ _,_,_,_,_,_,h.ext ap7⟩
  .rintro s w2 ⟨rfl,hc⟩ d2;clear d2;have hr:r = .ok (A,(i.s.tail.zip args).foldl (fun m p=>m.set p.1 (.term p.2)) m):=by
    grind [P.YB]
   rw[P.ap5 _ hx] at hr;obtain⟨jH,sw⟩:=hc;obtain⟨L,Lk⟩:=ck (i.s.length-1);have afB:(1:Int)<=(i.s.length:Int):=zo;have ze:sliced (O ⟨nb,0,V⟩) 1 i.s.length xp.size 1 = .slice (O ⟨nb,1,V⟩) L (xp.size-1):=by
    unfold sliced;rw[bO zo,Lk];simp [Addr.add]
   obtain⟨⟨CZ,jb,-,-⟩,-,qI,mG,FF,FG⟩:=h.fs _ _ hx;have hold:∀ {c:Z} {b:Nat} {cs:Array Y} {T:Nat},bD (fun b _=>b=e.ψ m.f) w c->T≠20->w.heap[b]?=aP cs T->c.heap[b]?=aP cs T:=(by grind [bD.block]);have hzl:(i.s.tail.zip args).length=L:=zg;refine jt N dY ze ?_;refine⟨fun n z c=>∃ (j:Nat) (row:Array Y),z 99=zi (j:Nat)/\j<=L/\n=L-j/\bD (fun b _=>b=e.ψ m.f) w c/\c.heap[e.ψ m.f]?=aP row 20/\row.size=x.slots.length /\
     CT ρ m.n w row (((i.s.tail.zip args).take j).foldl (fun s p=>s.set p.1 (.term p.2)) x.slots),⟨_,0,qI,J,Nat.zero_le _,J,yF,yH,FF,FG⟩,?_⟩
   intro n z dz c hI;clear dz;refine toPr ?_;obtain⟨j,row,vG,hj,rfl,B,I,I5,Q⟩:=hI;have iV:∀ (l:List (Nat×Tm)),(l.foldl (fun s p=>s.set p.1 (Sl.term p.2)) x.slots).length=x.slots.length:=fun l=>by
    suffices ∀ (l:List (Nat×Tm)) (s:List Sl),(l.foldl (fun s p=>s.set p.1 (Sl.term p.2)) s).length=s.length from this l _;intro l;induction l with
    | nil=>grind
    | cons a l ih=>grind
   by_cases hlt:j<L
   .have yf:(j:Int)<(L:Int):=zo;have j8:(j:Int).toNat=j:=zo;obtain⟨nb',aNy,S,Uk,aNz,-⟩:=Ld mB (j:=j+1) zo;simp only[a0S,Option.some.injEq,Addr.mk.injEq,and_true,true_and] at S;obtain⟨rfl,S⟩:=S;rw[oZ] at Uk;cases Uk;obtain⟨ab,acs,AQ,-,nk,hac⟩:=iW.at' (j:=j) zo;rw[NO] at AQ;simp only[a0S,true_and] at AQ;obtain⟨rfl,rfl⟩:=AQ;obtain⟨va,hva,Lc⟩:=kQ.at j zo;rw[hva] at hac;have N4:=hold B zd oZ;have Ll:=hold B zd h.cell;have N5:=hold B zd jb;have YF:=hold B zd q;have aNB:=hold B zd nk;have ap8:=bn I;have yp:i.s[j+1]<x.slots.length:=hk _ (a03 _);have pw:((i.s[j+1]:Nat):Int).toNat=i.s[j+1]:=zo;have vX:((i.s[j+1]:Nat):Int)<(x.slots.length:Int):=zo;have X9:(j:Int)<(args.length:Int):=zo;obtain⟨KP,xv1,rfl⟩:=Lc.iface;have U:xp[1+j]?=O (zi ((i.s[j+1]:Nat):Int)):=zg;refine dL vG yf ze (zA N4 (zA U (zA @j8 (zA Ll (zA N5 (zA YF (zA aNB (zA hac (zA I @pw))))))))) ?_;refine⟨L-(j+1),zo,j+1,_,zs,zo,J,yF,J,zg,?_⟩;have X8:(i.s.tail.zip args)[j]' zo=(i.s[j+1],args[j]):=zg;rw[a1Z zo,List.foldl_append,X8];refine Q.set zg _ ?_;exact dK.bJ Lc (fun _ _ _ _ _ h=>h)
   .have fD:j=L:=zo;subst fD;refine cM vG ?_;rw[a2R zo] at Q;obtain⟨r1,r2⟩:=h.setRow B hx (sl':=(i.s.tail.zip args).foldl (fun s p=>s.set p.1 (.term p.2)) x.slots) I (iV _) I5 (fun E y G=>by
     obtain⟨u,g1,g2⟩:=Q E y G;exact⟨u,g1,g2.bJ (fun b cs T hT q=>hold B (fun e=>hT (by rw[e];exact .inl (.inr zg))) q) (eC.refl _ _)⟩)
    subst hr;exact hR _ _ ⟨r2,J,ρ,eC.refl _ _,_,_,_,_,_,r1⟩
 | var v=>
  unfold dN dK at hu;obtain⟨Qd,rfl⟩:=hu;have hr:r = .ok (A,{ (i.s.tail.zipIdx.foldl (fun m p=>m.set p.1 (.term (.var (m.n+p.2)))) m) with n:=m.n+i.s.tail.length,sr:=m.sr.bind v (.comp i.name ((a1m m.n i.s.tail.length).map .var)) }):=(a0G hr).symm;rw[P.afI (fun n k=>.term (.var (n+k))) _ hx] at hr;obtain⟨L,Lk⟩:=ck (i.s.length-1);have tF:i.s.tail.length=L:=zg;have afB:(1:Int)<=(i.s.length:Int):=zo;have ze:sliced (O ⟨nb,0,V⟩) 1 i.s.length xp.size 1 = .slice (O ⟨nb,1,V⟩) L (xp.size-1):=by
   unfold sliced;rw[bO zo,Lk];simp [Addr.add]
  obtain⟨⟨CZ,jb,-,-⟩,-,qI,mG,FF,FG⟩:=h.fs _ _ hx;have hold:∀ {c:Z} {b:Nat} {cs:Array Y} {T:Nat},bD (fun b _=>b=e.ψ m.f) w c->T≠20->w.heap[b]?=aP cs T->c.heap[b]?=aP cs T:=(by grind [bD.block]);refine dL oU @vO dY ze ?_;obtain⟨wc,YG⟩:=ck (w.drew.alloc (ah #[aW i.name,b9] 180));have hEc:Ext w wc:=yF;have sc:wc.heap.size=w.heap.size+1:=yH;have qx:wc.heap[w.heap.size]?=aP #[aW i.name,b9] 180:=yH;rw[<- YG];try rw[BU]
  have aXF:i.s.tail.zipIdx.length=L:=by grind [List.length_zipIdx]
  refine⟨fun n z c=>∃ (j:Nat) (row:Array Y) (C:List Nat) (rM:Y),z 32=zi (j:Nat)/\j<=L/\n=L-j/\bD (fun b _=>b=e.ψ m.f) w c/\w.heap.size<c.heap.size/\C.length=j /\
    c.heap[w.heap.size]?=aP #[aW i.name,rM] 180/\c.ownsRow (w.heap.size+1) 89 1 rM j (C.map fun b=>ak 87 (pp b)) /\
    (∀ b∈C,w.heap.size<b/\c.heap[b]?=aP #[aj] 91)/\C.Nodup /\
    c.heap[e.ψ m.f]?=aP row 20/\row.size=x.slots.length /\
    ∀ (E:Nat) (y:Sl),((i.s.tail.zipIdx.take j).foldl (fun s p=>s.set p.1 (.term (.var (m.n+p.2)))) x.slots)[E]?=O y->∃ u,row[E]?=O u/\(zm ρ m.n w u y\/∃ a b,C[a]?=O b/\y = .term (.var (m.n+a))/\u = ak 87 (pp b)),
   ⟨_,0,qI,[],b9,J,Nat.zero_le _,J,yF,zo,J,qx,World.ownsRow_nil _ _ _ _,yH,List.nodup_nil,yH,FF,fun E y hj=>(by obtain⟨u,g1,g2⟩:=FG E y hj;grind)⟩,?_⟩
  intro n z dz c hI;clear dz;refine toPr ?_;obtain⟨j,row,C,rM,CF,hj,rfl,B,jr,o9,gX,rU,zf,Di,I,I5,Q⟩:=hI;have iV:∀ (l:List (Nat×Nat)),(l.foldl (fun s p=>s.set p.1 (Sl.term (.var (m.n+p.2)))) x.slots).length=x.slots.length:=fun l=>by
   suffices ∀ (l:List (Nat×Nat)) (s:List Sl),(l.foldl (fun s p=>s.set p.1 (Sl.term (.var (m.n+p.2)))) s).length=s.length from this l _;intro l;induction l with
   | nil=>grind
   | cons a l ih=>grind
  by_cases hlt:j<L
  .have yf:(j:Int)<(L:Int):=zo;have j8:(j:Int).toNat=j:=zo;obtain⟨nb',aNy,S,Uk,aNz,-⟩:=Ld mB (j:=j+1) zo;simp only[a0S,Option.some.injEq,Addr.mk.injEq,and_true,true_and] at S;obtain⟨rfl,S⟩:=S;rw[oZ] at Uk;cases Uk;have N4:=hold B zd oZ;have Ll:=hold B zd h.cell;have N5:=hold B zd jb;have lc:=bn Ll;have lf:=bn N5;have ap8:=bn I;have X5:=bn gX;have yp:i.s[j+1]<x.slots.length:=hk _ (a03 _);have pw:((i.s[j+1]:Nat):Int).toNat=i.s[j+1]:=zo;have vX:((i.s[j+1]:Nat):Int)<(x.slots.length:Int):=zo;have U:xp[1+j]?=O (zi ((i.s[j+1]:Nat):Int)):=zg;obtain⟨pa,pc,FI⟩:=ij rU;subst FI;have apW:e.ψ m.f≠w.heap.size:=zg;refine dL CF yf ze (zA N4 (zA U (zA @j8 (zA Ll (zA N5 (zA I (zA @pw gX))))))) ?_;obtain⟨vv,wX⟩:∃ vv:Y,vv = ak 87 (pp c.heap.size):=⟨_,J⟩;obtain⟨wV,hwV⟩:=ck (c.alloc (ah #[aj] 91));obtain⟨wR,hwR⟩:=ck (bT wV (e.ψ m.f) (ah (row.setIfInBounds i.s[j+1] vv) 20 (0,0)));obtain⟨K,qZ⟩:=ck (wR.alloc (ah #[vv] 89));rw[<- wX,<- hwV,<- hwR,<- qZ];have sV:wV.heap.size=c.heap.size+1:=yH;have sR:wR.heap.size=c.heap.size+1:=yH;have sA:K.heap.size=c.heap.size+2:=yH;have hvV:wV.heap[c.heap.size]?=aP #[aj] 91:=yH;have aNC:bD (fun b _=>b=e.ψ m.f) c K:=by
    rw[qZ,hwR,hwV];exact(((bD.refl _ _).alloc _).bT (.inl fun _=>rfl)).alloc _
   have hvA:K.heap[c.heap.size]?=aP #[aj] 91:=by
    exact yH
   have hrA:K.heap[e.ψ m.f]?=aP (row.setIfInBounds i.s[j+1] vv) 20:=by
    exact yH
   have hnA:K.heap[c.heap.size+1]?=aP #[vv] 89:=yH;have hcA:K.heap[w.heap.size]?=aP #[aW i.name,.slice pa j pc] 180:=(by grind [bD.block]);have C0:K.ownsRow (w.heap.size+1) 89 1 (.slice pa j pc) j (C.map fun b=>ak 87 (pp b)):=by
    refine⟨rU.1,?_⟩;rcases rU.2 with F | ⟨b,cap,cur,W,g2,g3,g4⟩
    .grind
    .exact .inr ⟨b,cap,cur,W,g2,(by grind [bD.block]),g4⟩
   refine PZ C0 hnA (by rw[wX];rfl) zo zo ?_;intro v' w' tL jI DR;obtain⟨C2,pc',I7⟩:=ij tL;subst I7;have Mv:∀ {b:Nat} {cs:Array Y} {T:Nat},T≠89->K.heap[b]?=aP cs T->w'.heap[b]?=aP cs T:=fun{b cs T} hT q=>by
    rw[jI.block b (bn q) (fun he=>?_)]
    .omega
    .rcases C0.2 with⟨F,-⟩| ⟨b',cap,cur,W,g2,g3,g4⟩
     .rw[F] at he;cases he
     .rw[W] at he;injection he with he;grind
   have oc:=Mv zd hcA;have lc':=bn oc;have sw':=jI.size;refine dB CF oc ?_;obtain⟨wE,N7⟩:=ck (bT w' w.heap.size (ah #[aW i.name,.slice C2 (j+1) pc'] 180));have afO:bT w' w.heap.size (ah (oV #[aW i.name,.slice pa j pc] 1 (Value.slice C2 (j+1) pc').cells.toList) 180 (0,0))=wE:=N7.symm;first | rw[<- N7] | rw[afO] | skip
   have hbE:∀ {b:Nat} {cs:Array Y} {T:Nat},T≠180->w'.heap[b]?=aP cs T->wE.heap[b]?=aP cs T:=yH;have hrt:∀ {b:Nat},(∃ cs,c.heap[b]?=aP cs 91)->b≠e.ψ m.f:=yH;refine⟨L-(j+1),zo,j+1,row.setIfInBounds i.s[j+1] vv,C++[c.heap.size],.slice C2 (j+1) pc',zs,zo,J,?_,zo,zg,J,?_,?_,?_,yH,zg,?_⟩
   .have I8:=B.trans aNC;rw[N7];refine⟨jI.os.trans I8.os,jI.tape.trans I8.tape,jI.output.trans I8.output,yH,fun b o q hm=>?_⟩;have lb:=bn q;have hbA:=I8.block _ _ q hm;rw[jh zo,jI.block b zo (fun he=>?_)]
    .omega
    .rcases C0.2 with⟨F,-⟩| ⟨b',cap,cur,W,g2,g3,g4⟩
     .rw[F] at he;cases he
     .rw[W] at he;injection he with he;grind
   .refine⟨by simpa [o9] using tL.1,?_⟩;rw[List.map_append,List.map_singleton];rw[wX] at tL;rcases tL.2 with F | ⟨b,cap,cur,W,g2,g3,g4⟩
    .omega
    .exact .inr ⟨b,cap,cur,W,g2,yH,g4⟩
   .intro b q;rcases List.mem_append.1 q with q | q
    .obtain⟨g1,g2⟩:=zf b q;exact⟨g1,hbE zo (Mv zo (by grind [bD.block]))⟩
    grind [List.mem_singleton]
   .rw[List.nodup_append];refine⟨Di,zs,fun a M b q=>?_⟩;grind [List.mem_singleton,bn]
   .intro E y G;have X8:i.s.tail.zipIdx[j]' zo=(i.s[j+1],j):=zg;rw[a1Z zo,List.foldl_append,X8] at G;simp only[a1A,List.foldl_nil,List.getElem?_set] at G;by_cases BQ:i.s[j+1]=E
    .rw[zip BQ,zip (by rw[iV];omega)] at G;refine⟨vv,zg,.inr ⟨j,c.heap.size,?_,zg,wX⟩⟩;grind
    .rw[bO BQ] at G;obtain⟨u,g1,g2⟩:=Q E y G;refine⟨u,zg,?_⟩;rcases g2 with g2 | ⟨a,b,g3,g4⟩<;>grind
  .have fD:j=L:=zo;subst fD;refine cM CF ?_;rw[a2R zo] at Q;obtain⟨wg,hwg⟩:=ck (bT c (e.ψ m.f) (ah qI 20 (0,0)));have ap8:=bn I;have hEg:Ext w wg:=by
    rw[hwg];refine⟨B.os,B.tape,B.output,yH,fun b o q _=>?_⟩;by_cases he:b=e.ψ m.f
    .exact yH
    grind [jh,bD.block]
   have hrt:∀ {b:Nat},(∃ cs,c.heap[b]?=aP cs 91)->b≠e.ψ m.f:=yH;obtain⟨bl,aXL⟩:∃ bl:Nat->Nat,∀ a b,C[a]?=O b->bl a=b:=⟨fun a=>C.getD a 0,zg⟩;have aNH:∀ a,a<j->∃ b,C[a]?=O b:=fun a M=>⟨_,a0F zo⟩;obtain⟨eO,hu,aXM,F⟩:=h.aNt hD hEg (k:=j) (bl:=bl) (by grind [List.mem_of_getElem?,jh]) (fun a b M q he=>by
    obtain⟨c1,g1⟩:=aNH a M;grind [a08,List.pairwise_iff_getElem,Nat.lt_trichotomy,absurd])
   have hfg:bD (fun b _=>b=e.ψ m.f) wg c:=by
    rw[hwg];refine⟨J,J,J,yH,fun b o q hm=>?_⟩;exact yH
   have hI:eM w c:=fun b cs T hT q=>hold B (fun e=>hT (by rw[e];exact .inl (.inr zg))) q;obtain⟨h2,dT⟩:=F.setRow hfg hx (sl':=i.s.tail.zipIdx.foldl (fun s p=>s.set p.1 (.term (.var (m.n+p.2)))) x.slots) I (iV _) I5 (fun E y G=>by
    obtain⟨u,g1,g2⟩:=Q E y G;refine⟨u,g1,?_⟩;rcases g2 with g2 | ⟨a,b,g3,rfl,rfl⟩
    .exact g2.bJ hI hu
    .have M:a<j:=zg;show dN eO (m.n+j) c _ (.var (m.n+a));unfold dN dK;grind)
   have xg:P.look v m.sr.tr=none:=IC hw;have Ym:=B.size;have hDj:∀ b,c.heap.size<=b->D b:=yH;have aXN:(C.map fun b=>Value.iface 87 (pp b))=mY eO (a1m m.n j):=by
    apply a2k;grind
   have aNK:pU eO (m.n+j) c (mY eO (a1m m.n j)) ((a1m m.n j).map .var):=(by grind [afp,List.mem_range']);have afP:dN eO (m.n+j) c (ak 175 (pp w.heap.size)) (.comp i.name ((a1m m.n j).map .var)):=by
    unfold dN dK;exact⟨w.heap.size,rM,mY eO (a1m m.n j),J,trivial,gX,by grind [T7],aNK⟩
   have dj:er (.comp i.name ((a1m m.n j).map .var)):=by
    unfold er;exact⟨my,by simp;omega,P.afq _⟩
   have q:=aog h2.less CU (h2.dn hDj) (i:=v) zg xg zg afP dj Fa;rw[hu.2 v Qd] at q;refine a0C q ?_;rintro X w3 ⟨rfl,eK,tv3,gQ⟩;obtain⟨h3,aXO⟩:=h2.store gQ eK;refine bF ?_;rw[tF] at hr;subst hr;exact hR _ _ ⟨(di.ed hEg).trans yF,J,eO,hu,_,_,_,_,_,h3⟩
end
open Go.Proofs.YtoegidfbnkaabaaGreatDoor.Sx
section
variable{p0 p1 p2 p3 p4 p5 p6 p7:Y}{w:Z}{R:Ending->Z->Prop}
def aNL:=cz w R [p0,p1] (gc [] [] []) func71
def aNM:=cz w R [p0,p1,p2] (gc [(2,[13])] [] [14]) func108
def ox(p0 p1:Y)(w:Z)(R:Ending->Z->Prop):Prop:=
 NC p0 fun t=>
 RD baD (a1q 196 t 1) w (fun u=>
 RD baD (a0Q 194 u) w (fun XB=>
 RD baD (a2f #[194] 3 #[XB]) w (fun x=>
 OB (fun rec s d w1=>
  RD baD (bo .lss 3 (.tmp 18) (.tmp 17) (s 18) x) w1 (fun y=>
  BS y (RD baD (a2e 194 XB (s 18)) w1 (fun z=>
  RD baD (a0Q 198 z) w1 (fun B=>
  WR baD (Instr.alloc 198 A (aq #[])) w1 (fun e C=>
  WU baD (a1X 198 e B) C (fun Tg=>
  HD fun S=>S Tg.drew /\
  uU baD (a1q 198 e 0) S (fun D=>
  uU baD (a0Q 9 D) S (fun E=>
  CA baD 101 #[] Tg.drew (fun F r=>
  S r /\
  RD baD (Instr.lookup 240 F E ae) r (fun g=>
  RD baD (a2f #[98] 3 #[g]) r (fun G=>
  OB (fun rec_1 a d_1 c=>
   RD baD (bo .lss 3 (.tmp 27) (.tmp 26) (a 27) G) c (fun H=>
   BS H (RD baD (a2e 98 g (a 27)) c (fun I=>
   RD baD (a0Q 5 I) c (fun h=>
   JS (fun j=>
    RD baD (bo .eql 5 (.tmp 31) (.const (.int .u8 115)) h (.int .u8 115)) c (fun i=>
    BS i (j (jk [(32,i)]) c) (RD baD (bo .eql 5 (.tmp 31) (.const (.int .u8 112)) h (.int .u8 112)) c (fun K=>
    j (jk [(32,K)]) c) (PX R))) (PX R))
    (fun L d_2 b=>
    BS (L 32) (RD baD (a1q 198 e 3) b (fun M=>
    RD baD (a0Q 45 M) b (fun N=>
    RD baD (a2e 45 N (a 7)) b (fun P=>
    RD baD (a0Q 3 P) b (fun Q=>
    CA baD 64 #[Q] b (fun T U=>
    WR baD (a1x 39 1 #[(0,T)]) U (fun W X=>
    WR baD (a07 #[39,39] 39 #[(a 6),W]) X (fun x43 N8=>
    RD baD (bo .add 3 (.tmp 44) (.const (.int .i64 1)) (a 7) (.int .i64 1)) N8 (fun x45=>
    RD baD (bo .add 3 (.tmp 27) (.const (.int .i64 1)) (a 27) (.int .i64 1)) N8 (fun x83=>
   rec_1 (jk [(6,x43),(7,x45),(27,x83)]) N8) (PX R)) (PX R)) (PX R)) (PX R)) (PC R)) (PX R)) (PX R)) (PX R)) (PX R)) (RD baD (bo .eql 5 (.tmp 31) (.const (.int .u8 99)) h (.int .u8 99)) b (fun x47=>
    BS x47 (RD baD (Instr.build 96 #[(1,(.int .i64 9))]) b (fun x48=>
    WR baD (Instr.box 96 x48) b (fun x49 Lm=>
    RD baD (Instr.build 103 #[(1,x49)]) Lm (fun x50=>
    WR baD (Instr.alloc 103 A (aq #[])) Lm (fun Tf Nr=>
    WU baD (a1X 103 Tf x50) Nr (fun Ns=>
    RD baD (a1q 198 e 2) Ns (fun x51=>
    RD baD (a0Q 89 x51) Ns (fun x52=>
    CA baD 31 #[Tf,x52,(.int .i64 0)] Ns (fun x53 k=>
    RD baD (a1q 103 Tf 0) k (fun x55=>
    CA baD 33 #[x55] k (fun x56 aOg=>
    WR baD (a1x 39 1 #[(0,x56)]) aOg (fun x57 aOi=>
    WR baD (a07 #[39,39] 39 #[(a 6),x57]) aOi (fun x58 l=>
    RD baD (bo .add 3 (.tmp 27) (.const (.int .i64 1)) (a 27) (.int .i64 1)) l (fun aOk=>
   rec_1 (jk [(6,x58),(7,(a 7)),(27,aOk)]) l) (PX R)) (PX R)) (PX R)) (PC R)) (PX R)) (PC R)) (PX R)) (PX R)) (PX R)) (PX R)) (PX R)) (PX R)) (PX R)) (RD baD (bo .eql 5 (.tmp 31) (.const (.int .u8 110)) h (.int .u8 110)) b (fun x60=>
    BS x60 (RD baD (a1q 198 e 1) b (fun x62=>
    RD baD (a0Q 9 x62) b (fun x63=>
    WR baD (a1x 39 1 #[(0,x63)]) b (fun x64 aOm=>
    WR baD (a07 #[39,39] 39 #[(a 6),x64]) aOm (fun x65 m=>
    RD baD (bo .add 3 (.tmp 27) (.const (.int .i64 1)) (a 27) (.int .i64 1)) m (fun aOn=>
   rec_1 (jk [(6,x65),(7,(a 7)),(27,aOn)]) m) (PX R)) (PX R)) (PX R)) (PX R)) (PX R)) (RD baD (bo .eql 5 (.tmp 31) (.const (.int .u8 42)) h (.int .u8 42)) b (fun x67=>
    BS x67 (RD baD (a1q 198 e 3) b (fun x68=>
    RD baD (a0Q 45 x68) b (fun x69=>
    RD baD (Instr.sliceAt 45 x69 (O (a 7)) V V) b (fun n=>
    RD baD (a2f #[45] 3 #[n]) b (fun x72=>
    OB (fun rec_2 o d_3 f=>
     RD baD (bo .lss 3 (.tmp 73) (.tmp 72) (o 73) x72) f (fun x74=>
     BS x74 (RD baD (a2e 45 n (o 73)) f (fun Tt=>
     RD baD (a0Q 3 Tt) f (fun x76=>
     CA baD 64 #[x76] f (fun x79 aOp=>
     WR baD (a1x 39 1 #[(0,x79)]) aOp (fun x80 aOr=>
     WR baD (a07 #[39,39] 39 #[(o 6),x80]) aOr (fun x81 p=>
     RD baD (bo .add 3 (.tmp 73) (.const (.int .i64 1)) (o 73) (.int .i64 1)) p (fun x82=>
     rec_2 (jk [(6,x81),(73,x82)]) p) (PX R)) (PX R)) (PX R)) (PC R)) (PX R)) (PX R)) (RD baD (bo .add 3 (.tmp 27) (.const (.int .i64 1)) (a 27) (.int .i64 1)) f (fun aOu=>
   rec_1 (jk [(6,(o 6)),(7,(a 7)),(27,aOu)]) f) (PX R))) (PX R))
     (jk [(6,(a 6)),(73,(.int .i64 0))]) b) (PX R)) (PX R)) (PX R)) (PX R)) (RD baD (bo .add 3 (.tmp 27) (.const (.int .i64 1)) (a 27) (.int .i64 1)) b (fun aOv=>
   rec_1 (jk [(6,(a 6)),(7,(a 7)),(27,aOv)]) b) (PX R))) (PX R))) (PX R))) (PX R)))) (PX R)) (PX R)) (RD baD (a1q 198 e 0) c (fun x85=>
  RD baD (a0Q 9 x85) c (fun x86=>
  CA baD 108 #[p1,x86,(a 6)] c (fun x88 q=>
  RD baD (bo .add 3 (.tmp 18) (.const (.int .i64 1)) (s 18) (.int .i64 1)) q (fun x89=>
  rec (jk [(18,x89)]) q) (PX R)) (PC R)) (PX R)) (PX R))) (PX R))
   (jk [(6,b9),(7,(.int .i64 0)),(27,(.int .i64 0))]) r) NX) NX) (LQ R)))) (PX R)) (PX R)) (PX R)) (PX R)) (R (ai (aq #[])) w1)) (PX R))
  (jk [(18,(.int .i64 0))]) w) (PX R)) (PX R)) (PX R)
def aOz(h:ox p0 p1 w R):Calls baD 109 #[p0,p1] w R:=
 cq (args:=[p0,p1]) (yB (zL [(1,[18]),(6,[6,7,27]),(21,[6,73])]) (zO [(10001,[32])]) (fun _=>0) (zO [(5,[0,1,2,5,0,3,4])]) (zL [(1,[]),(6,[]),(21,[])]) (zL [(10001,[])]) (zT [10001]) (zT [19,28,32,33,34,46,47,59,60,66,67,74])) func109 J zk zk h
def aOA:=cz w R [p0,p1,p2] (gd [(3,[14]),(7,[34])] [] [] [(5,[10,0,1,2,3,4,5,6,7,8,9,10])] [] [] [15,35]) func81
def aOB:=cz w R [p0] (gc [] [] []) func70
def aOC:=cz w R [p0,p1,p2] (gc [] [(2000,[30]),(3001,[])] [29,30]) func73
def aOD:=cz w R [p0,p1] (gc [] [(1000,[36]),(2001,[])] [34,35,36]) func72
def aOE:=cz w R [p0,p1] (gc [] [(2000,[19]),(3002,[])] [18,19]) func102
def aOF:=cz w R [] (gc [] [] []) func101
end
