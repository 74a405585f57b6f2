/- A part of one proof (KV6, KV7, KV8, KV9, ShX4). -/
import Derived.Test.YtoegidfbnkaabaaGreatDoorPkLAV
set_option linter.all false
set_option maxRecDepth 100000
set_option maxHeartbeats 8000000
open Option renaming some → O, none → V
open Go renaming Value → Y, World → Z
open Bool renaming true → A, false → G
open Go.Obj renaming cells → ae
open Go.Ending renaming returned → ah
open Go.Value renaming nilIface → ai, iface → aj, tuple → ak
open Go.Calls renaming mono → a1r
open List renaming getElem?_eq_getElem → a1u, getElem_mem → a1S, replicate → a2a, getElem?_eq_some_iff → a2g, range' → a2j, foldl_cons → a2v, take_succ_eq_append_getElem → a2V, ext_getElem? → a3e, getElem?_replicate → a3J, take_of_length_le → a3L
open Option.some renaming inj → a1w
open Go.Instr renaming loadAt → a1G, fieldAt → a2m, buildSlice → a2s, storeAt → a2U, indexAt → a27
open Go.Value.slice renaming injEq → a1I
open Go.Builtin renaming append_ → a1Y, len_ → a29
open Go.Proofs.Tryz renaming prog → bbE
open Go.Proofs.Tryz
namespace Go.Proofs.YtoegidfbnkaabaaGreatDoor
open P
open Go.RowKit Sx
variable{d f g k n o pb pc:Nat}{o4 v vv:Y}{r:Except jE (Bool×Vm)}{ud:Nat->Nat}{iB:Array Y}{xs:List Y}
def BT(D:Nat->Prop)(ρ:Nat->Nat)(vb cb fk:Nat)(w:Z)(m:Vm):Prop:=∃ φ ψ av tv di,gi D ρ ⟨φ,ψ,vb,cb,fk⟩ av tv di w m
def P.UG(m:Vm)(rest:List Co)(args:List Sl)(f pc:Nat):List Ga:=match rest with | []=>[] | _=>[⟨m.sr.tr.length,f,pc,rest,args⟩]
section
variable{D:Nat->Prop}{ρ:Nat->Nat}{e:AX}{av tv:Y}{di:List Y}{w w':Z}{m:Vm}
theorem yp.sl{l:List Sl}(h:yp D ρ n ud pb w v l):∃ a c,v = .slice a l.length c:=by
 rcases h with⟨rfl,rfl⟩| ⟨b,cap,row,rfl,-⟩<;>exact⟨_,_,J⟩
def apZ(h:gi D ρ e av tv di w m)(hD:∀ b,w.heap.size<=b->D b){l:List Co}{args:List Sl}{m':Vm}(hl:oK w 185 vv xs)(hc:BQ w xs l)
  (ha:yp D ρ m.n e.ψ m.fs.length w o4 args) (hf:f<m.fs.length) (hn:n<=m.bw.length) (lV:m.bw.length<=900000000) (iQ:∀ c∈l,c.slots<=64) (GV:args.length<=60) (hr:m.enter l args f pc n=O m') :
  Calls bbE 209 #[pp e.vb,vv,o4,pp (e.φ f),zi (pc:Nat),zi (n:Nat)] w fun en w'=>en = ah (ak #[])/\dc D w w'/\BT D ρ e.vb e.cb e.fk w' m':=by
 cases l with
 | nil=>cases hr
 | cons c rest=>
 have hr:({ m with bw:=m.bw.take n++P.UG m rest args f pc,fs:=m.fs++[⟨c,args++a2a (max c.slots args.length-args.length) .nil,n,O f,pc,G⟩],f:=m.fs.length,pc:=0 }:Vm)=m':=a1w hr;subst hr;obtain⟨C,P2,vC⟩:=hc.2 0 c J;have uF:xs.length=rest.length+1:=by have:=hc.1;omega
 obtain⟨lb,lo,Uh,lcs,rfl,WS,rf,aKT⟩:=hl.at (j:=0) zo;rw[Nat.add_zero,P2] at rf;obtain⟨E,ac,gx⟩:=gV h.ar;have c0:=h.cell;have lv0:=bg c0;obtain⟨Qh,UH⟩:=Qy (by rw[gx] at h;exact h.ar:w.ownsRow 0 342 5 (.slice E m.bw.length ac) m.bw.length di);obtain⟨ga,gc,N⟩:=ha.sl;have uZ:(n:Int)<=(ac:Nat):=zo;suffices H:∀ R:Ending->Z->Prop,(∀ w',dc D w w'->BT D ρ e.vb e.cb e.fk w' ({ m with bw:=m.bw.take n++P.UG m rest args f pc,fs:=m.fs++[⟨c,args++a2a (max c.slots args.length-args.length) .nil,n,O f,pc,G⟩],f:=m.fs.length,pc:=0 }:Vm)->R (ah (ak #[])) w') ->
   Calls bbE 209 #[pp e.vb,.slice (O ⟨lb,lo,V⟩) xs.length Uh,o4,pp (e.φ f),zi (pc:Nat),zi (n:Nat)] w R from H _ yF
 intro R hR;refine aM6 ?_;refine jc @c0 gx UH ?_;have YY:(n:Int).toNat=n:=zo;try rw[YY]
 obtain⟨w1,jP⟩:=cg (bQ w e.vb (ae #[pp e.cb,tv,zi (m.sr.fuel:Nat),pp (e.φ m.f),zi (m.pc:Nat),.slice E n ac] 116));obtain⟨h1,dF,hJ1⟩:=h.forget hn gx jP;have YI:bQ w e.vb (ae (po #[pp e.cb,tv,zi (m.sr.fuel:Nat),pp (e.φ m.f),zi (m.pc:Nat),.slice E m.bw.length ac] 5 (Value.slice E n ac).cells.toList) 116 (0,0))=w1:=jP.symm;rw[YI];have c1:w1.heap[e.vb]?=aO #[pp e.cb,tv,zi (m.sr.fuel:Nat),pp (e.φ m.f),zi (m.pc:Nat),.slice E n ac] 116:=h1.cell;clear YI jP;have lv1:=bg c1;have s1:=dF.size;refine⟨fun _ w'=>∃ av' avs',gi D ρ e av' tv avs' w' { m with bw:=m.bw.take n++P.UG m rest args f pc }/\dc D w w'/\qi w w',?_,?_⟩
 .cases rest with
  | nil=>
   have Eu:¬ (xs.length:Int) > 1:=zg;refine cJ Eu ?_;grind [P.UG]
  | cons c2 rest=>
   have Eu:(xs.length:Int) > 1:=zg;refine cJ Eu ?_;have dD:Ext w1 w1.drew:=yF;refine⟨fun w'=>w'.heap[e.vb]?=w1.heap[e.vb]?,J,?_⟩;rw[jx];refine cQ (pq e.vb 5) (fun w' g=>eT) ?_;refine cQ (.slice E n ac) (fun w' g=>by rw[c1] at g;have:=bg g;exact fh g) ?_;rw[jx];refine cQ (pq e.vb 1) (fun w' g=>eT) ?_;obtain⟨v2,i,rfl⟩:∃ v2 i,xs=v2::i:=by cases xs with | nil=>grind | cons a b=>grind
   have aXU:i.length=rest.length+1:=zg;have Qz:oK w 185 (sliced (O ⟨lb,lo,V⟩) 1 (i.length+1) Uh 1) i:=hl.tail zg;obtain⟨S,T,zp⟩:∃ S T,sliced (O ⟨lb,lo,V⟩) 1 (i.length+1) Uh 1 = .slice S i.length T:=⟨_,_,J⟩;rw[zp] at Qz;have afR:(1:Int)<=(((v2::i).length:Nat):Int):=zo;refine cQ (.slice S i.length T) (fun w' g=>fh zp) ?_;refine a1r (TR (h1.ext dD).st Da) ?_;rintro en w2 ⟨rfl,rfl⟩;refine⟨J,?_⟩;rw[N];refine bH ?_;obtain⟨l0,U⟩:∃ l0:List Y,l0=[zi (m.sr.tr.length:Nat),pp (e.φ f),zi (pc:Nat),.slice S i.length T,o4]:=⟨_,J⟩;obtain⟨w2,jZ⟩:=cg (w1.drew.alloc (ae l0.toArray 342 (0,0)));have W:Ext w1 w2:=yF;have g2:w2.heap[w1.heap.size]?=aO l0.toArray 342:=yH;have s2:w2.heap.size=w1.heap.size+1:=yH;rw[U,N] at jZ;rw[<- jZ];have z:=h1.ext W;have q2:w2.heap[e.vb]?=aO #[pp e.cb,tv,zi (m.sr.fuel:Nat),pp (e.φ m.f),zi (m.pc:Nat),.slice E n ac] 116:=z.cell;have zm:(m.bw.take n).length=n:=zg;have t:qi w w2:=hJ1.trans (qi.ed W);refine apY z.ar g2 zg (by rw[U,N];intro u hu;simp only[List.mem_cons,List.not_mem_nil,or_false] at hu;rcases hu with rfl | rfl | rfl | rfl | rfl<;>rfl) zg zo ?_;intro v' w3 K5 Bz El;obtain⟨p3,d3,e3⟩:=gV K5;subst e3;have LC:nF D ρ m.n e.φ e.ψ m.fs.length w2 l0 [⟨m.sr.tr.length,f,pc,c2::rest,args⟩]:=by
    refine⟨.slice S i.length T,o4,i,[],zg,hf,Qz.bJ fun b cs hb=>t.1 b cs _ (yM) hb,?_,ha.bJ t.1 t.toR (eu.refl _ _) (yo.refl e.φ _ _) yH,J⟩;exact BQ.bJ t.1 (BQ.tail hc)
   obtain⟨k,F⟩:=cg (bQ w3 e.vb (ae #[pp e.cb,tv,zi (m.sr.fuel:Nat),pp (e.φ m.f),zi (m.pc:Nat),.slice p3 ((m.bw.take n).length+1) d3] 116));obtain⟨r1,r2,r3,r4⟩:=z.Ll (l:=m.bw.take n++[⟨m.sr.tr.length,f,pc,c2::rest,args⟩]) zg Bz yH (z.ag.snoc LC) F;have c3:=r4.trans q2;refine⟨yH,?_⟩;refine cJ @c3 ?_;have Lx:bQ w3 e.vb (ae (po #[pp e.cb,tv,zi (m.sr.fuel:Nat),pp (e.φ m.f),zi (m.pc:Nat),.slice E n ac] 5 (Value.slice p3 ((m.bw.take n).length+1) d3).cells.toList) 116 (0,0))=k:=F.symm;first | rw[Lx] | rw[<- F]
   exact⟨_,_,r1,dF.trans ((dc.ed W).trans r2),t.trans r3⟩
 .rintro s w2 ⟨B,QA,z,W,t⟩ d;clear d;have s2:=W.size;have I:=t.1 _ _ _ (yM) WS;obtain⟨insv,gS,xy⟩:=id vC;have K6:=t.1 _ _ _ (yM) gS;have c2:w2.heap[e.vb]?=aO #[pp e.cb,tv,zi (m.sr.fuel:Nat),pp (e.φ m.f),zi (m.pc:Nat),B] 116:=z.cell;obtain⟨ba,bc,mV⟩:∃ a c,B = .slice a (m.bw.take n++P.UG m rest args f pc).length c:=gV z.ar;have hlp:(0:Int)<(xs.length:Int):=zo;have hsc:c.slots<=64:=zg;obtain⟨M,hM⟩:=cg (max c.slots args.length);have Of:args.length<=M:=zo;have hMb:M<=1000000:=zo;have hmx:(if (args.length:Int) > (c.slots:Int) then(args.length:Int) else(c.slots:Int))=(M:Int):=zo;rw[N];refine⟨fun w'=>w'.heap[lb]?=w2.heap[lb]?/\w'.heap[C]?=w2.heap[C]?,yH,?_⟩;refine cQ (pq lb lo) (fun w' g=>eT) ?_;refine cQ (pp C) (fun w' g=>by have x:=g.1;rw[I] at x;have:=bg x;exact lM x rf) ?_;refine cQ (pq lb lo) (fun w' g=>eT) ?_;refine cQ (pp C) (fun w' g=>by have x:=g.1;rw[I] at x;have:=bg x;exact lM x rf) ?_;rw[jx];refine cQ (pp C) (fun w' g=>eT) ?_;refine cQ (zi (c.slots:Nat)) (fun w' g=>by have x:=g.2;rw[K6] at x;have:=bg x;exact fh x) ?_;refine cQ (zi (args.length:Nat)) (fun w' g=>eT) ?_;refine cQ (zi (M:Nat)) (fun w' g=>by rw[axi,hmx]) ?_;refine bH ?_;have l2:=bg c2;have llb:=bg I;have Yt:=bg K6;obtain⟨wr,Om⟩:=cg (w2.drew.alloc (ae (madeCells #[ai] M) 20 (0,0)));obtain⟨w3,sW⟩:=cg (wr.alloc (ae #[pp C,cS w2.heap.size M M,zi (n:Nat),pp (e.φ f),zi (pc:Nat)] 203));have aXY:Ext w2 wr:=yF;have Us:Ext w2 w3:=yF;have sr:wr.heap.size=w2.heap.size+1:=yH;have s3:w3.heap.size=w2.heap.size+2:=yH;have Ui:(madeCells #[Value.nilIface] M).size=M:=size_madeCells ..;obtain⟨Q,mN⟩:=cg (madeCells #[Value.nilIface] M);have YF:w3.heap[w2.heap.size]?=aO Q 20:=yH;have dU:w3.heap[w2.heap.size+1]?=aO #[pp C,cS w2.heap.size M M,zi (n:Nat),pp (e.φ f),zi (pc:Nat)] 203:=yH;have c3:=Us.ext _ _ c2;have l3:=bg c3;rw[<- Om,<- sW];rw[<- mN] at Ui;refine⟨yH,yH,?_⟩;clear Om sW;replace c3:=c3.trans c2.symm;refine dj @c2 dU ?_;obtain⟨k,F⟩:=cg (bQ w3 e.vb (ae #[pp e.cb,tv,zi (m.sr.fuel:Nat),pp (w2.heap.size+1),zi (m.pc:Nat),B] 116));have Lx:bQ w3 e.vb (ae (po #[pp e.cb,tv,zi (m.sr.fuel:Nat),pp (e.φ m.f),zi (m.pc:Nat),B] 3 (Value.pointer (O ⟨w2.heap.size+1,0,V⟩)).cells.toList) 116 (0,0))=k:=F.symm;first | rw[Lx] | rw[<- F]
  have ap1:w2.heap.size≠e.vb:=zo;have X:w2.heap.size+1≠e.vb:=zo;have Ev:k.heap[w2.heap.size]?=aO Q 20:=yH;have c4:k.heap[e.vb]?=aO #[pp e.cb,tv,zi (m.sr.fuel:Nat),pp (w2.heap.size+1),zi (m.pc:Nat),B] 116:=yH;have ap3:bB (fun b _=>b=e.vb) w2 k:=yF;have ez:k.heap[w2.heap.size+1]?=_:=(by rw[F,jb X]:k.heap[w2.heap.size+1]?=w3.heap[w2.heap.size+1]?).trans dU;have s4:k.heap.size=w2.heap.size+2:=yH;clear Lx F;have Iw:∀ (p:Z) (row:Array Y),bB (fun b _=>b=w2.heap.size) k p->p.heap[w2.heap.size]?=aO row 20->row.size=M->(∀ (ww:Z),qi w2 ww->C9 ρ m.n ww row (args++a2a (M-args.length) .nil)) ->
    NC (pp e.vb) fun x74=>RD bbE (a2m 116 x74 3) p (fun TX=>WU bbE (a2U 3 TX (zi 0)) p (fun q=>R (ah (ak #[])) q) (PX R)) (PX R):=by
   intro p row Yi Q3 Jl aNm;have c5:p.heap[e.vb]?=_:=Yi.block _ _ c4 (fun e=>ap1 e.symm);have l5:=bg c5;refine cJ @c5 ?_;obtain⟨q,pH⟩:=cg (bQ p e.vb (ae #[pp e.cb,tv,zi (m.sr.fuel:Nat),pp (w2.heap.size+1),zi ((0:Nat):Int),B] 116));have aNn:bQ p e.vb (ae (po #[pp e.cb,tv,zi (m.sr.fuel:Nat),pp (w2.heap.size+1),zi (m.pc:Nat),B] 4 (Value.int .i64 0).cells.toList) 116 (0,0))=q:=pH.symm;first | rw[aNn] | skip
   have c6:q.heap[e.vb]?=aO #[pp e.cb,tv,zi (m.sr.fuel:Nat),pp (w2.heap.size+1),zi ((0:Nat):Int),B] 116:=yH;have r6:q.heap[w2.heap.size]?=aO row 20:=yH;have f6:q.heap[w2.heap.size+1]?=_:=(by rw[pH,jb X]:q.heap[w2.heap.size+1]?=p.heap[w2.heap.size+1]?).trans (Yi.block _ _ ez zo);have ap4:bB (fun b _=>b=e.vb) w2 q:=by
    have DT:bB (fun b _=>b=e.vb\/w2.heap.size<=b) w2 p:=(bB.mono ap3 fun _ _ _ h=>Or.inl h).trans (by grind [bB.mono]);rw[pH];refine bB.mono (DT.bQ (.inl fun _=>.inl J)) fun b o hb h=>?_;grind
   have aNo:dc D w2 q:=bB.mono ap4 fun b o ho e=>by
    subst e;rw[c2] at ho;exact⟨z.st.ds,_,_,_,(a1w ho).symm,.inr (.inr (.inr (.inr (.inl J))))⟩
   have ap5:qi w2 q:=⟨aNo.toI,(by grind [bB.block])⟩;have hlen:(args++a2a (M-args.length) Sl.nil).length=M:=zg;obtain⟨uT,se,g1,g2⟩:=z.aNh yH ap4 (fb:=w2.heap.size+1) (rb:=w2.heap.size) (cb:=C) (c:=c) (slots:=args++a2a (M-args.length) .nil) (row:=row) (n:=n) (f:=f) (pc:=pc) zo zo
    (by rw[hlen];exact f6) (vC.bJ (t.1.trans ap5.1)) r6 (by rw[hlen];exact Jl) (aNm q ap5) hf c6
   rw[hM] at g1;have kY:=hR q yF ⟨uT,se,B,tv,QA,g1⟩;exact yH
  have YZ:∀ (j:Nat) (y:Sl),(a2a M Sl.nil)[j]?=O y->Q[j]?=O ai/\y = .nil:=fun j y r=>by
   have UI:j<M:=zg;rw[a3J,zip UI] at r;refine⟨?_,zg⟩;have:=apv ai M j UI;grind
  rcases ha with⟨rfl,UJ⟩| ⟨ab,aXZ,K,UJ,hac,nu,aX0,ap6,-⟩
  .rw[N] at UJ;cases UJ;rw[show(([]:List Sl).length)=0 from J,aNf];refine Iw k Q yF Ev Ui fun ww _ j y r=>?_;obtain⟨h5,rfl⟩:=YZ j y (by simpa using r);exact⟨_,h5,J⟩
  .rw[N] at UJ;cases UJ;have L:=t.2 _ _ nu;have aNp:=ap3.block _ _ L (fun e=>by
    rw[e,c2] at L;injection L with L;injection L with _ L _;cases L)
   rw[aNg Ev aNp zo Of zo (fun v hv=>?_)]
   rotate_left
   .obtain⟨j,r,rfl⟩:=List.getElem_of_mem hv;rw[List.length_take] at r;have GG:j<args.length:=zo;obtain⟨u,uQ,FJ⟩:=ap6 j _ (a1u GG);have:(K.toList.take args.length)[j]=u:=by
     grind
    rw[this];rcases FJ.one with rfl | ⟨_,_,rfl⟩<;>rfl
   .obtain⟨p,nE⟩:=cg (bQ k w2.heap.size (ae (K.toList.take args.length++Q.toList.drop args.length).toArray 20 (0,0)));rw[<- nE];refine Iw p (K.toList.take args.length++Q.toList.drop args.length).toArray (yF) (yH) zg fun ww hJw j y r=>?_;by_cases fp:j<args.length
    .rw[List.getElem?_append_left fp] at r;obtain⟨u,uQ,FJ⟩:=ap6 j y r;refine⟨u,?_,FJ.bJ (t.1.trans hJw.1) (eu.refl _ _)⟩;grind
    .rw[List.getElem?_append_right zo] at r;obtain⟨h5,rfl⟩:=YZ j y (by
      have:j-args.length<M-args.length:=by
       have:=(a2g.1 r).1;simpa using this
      rw[a3J,zip this] at r;rw[a3J,zip zo];exact r)
     refine⟨_,?_,J⟩;grind
end
def afX{w:Z}{x y:Operand}{K:Y->Prop}{X:Y->Z->Prop}(a:Option Addr)(n c:Nat):RD bbE (bo .eql 192 x y (.slice a n c) bW) w K X=K (.bool a.isNone):=
 gQ (by cases a<;>kernel_rfl)
section
variable{D:Nat->Prop}{ρ:Nat->Nat}{e:AX}{av tv:Y}{di:List Y}{w w':Z}{m:Vm}
def gi.place(h:gi D ρ e av tv di w m)(hm:k<m.bw.length):∃ g ac cur a b fV,av = cS g m.bw.length ac/\m.bw.length<=ac/\w.heap[g]?=aO cur 342/\cur.size=ac*5 /\
  cur[k*5]?=O (zi ((m.bw[k]).mark:Nat))/\cur[k*5+1]?=O (pp (e.φ (m.bw[k]).f))/\cur[k*5+2]?=O (zi ((m.bw[k]).pc:Nat))/\cur[k*5+3]?=O a/\cur[k*5+4]?=O b /\
  (m.bw[k]).f<m.fs.length/\oK w 185 a fV/\BQ w fV (m.bw[k]).others/\yp D ρ m.n e.ψ m.fs.length w b (m.bw[k]).args:=by
 obtain⟨a,b,fV,q,g2,g3,g4,g5⟩:=h.ag.at k hm;rcases h.ar.2 with⟨-,c⟩| ⟨g,cap,cur,d,c,i,l,r,o,s⟩
 .exact yH
 .have p:∀ j,j<5->cur[k*5+j]?=[Value.int .i64 ((m.bw[k]).mark:Nat),pp (e.φ (m.bw[k]).f),zi ((m.bw[k]).pc:Nat),a,b][j]?:=zg;exact⟨g,cap,cur,a,b,fV,d,l,i,o,p 0 zo,zg,zg,zg,zg,g2,g3,g4,g5⟩
def ap7(h:gi D ρ e av tv di w m)(hD:∀ b,w.heap.size<=b->D b)(xe:∀ a∈m.bw,a.mark<=m.sr.tr.length/\(∀ c∈a.others,c.slots<=64)/\a.args.length<=60)(Fl:m.sr.tr.length<=900000000)(lV:m.bw.length<=900000000)
  {p:Bool×Vm} (hr:m.back=O p) :
  Calls bbE 206 #[pp e.vb] w fun E w'=>dc D w w'/\E = ah (.bool p.1)/\BT D ρ e.vb e.cb e.fk w' p.2:=by
 suffices H:∀ R:Ending->Z->Prop,(∀ w',dc D w w'->BT D ρ e.vb e.cb e.fk w' p.2->R (ah (.bool p.1)) w')->Calls bbE 206 #[pp e.vb] w R from
  H _ yF
 intro R q;have r:=h.cell;have l1:=bg r;obtain⟨aa,ac,d⟩:=gV h.ar;refine aM5 ?_;unfold Vm.back at hr;by_cases hle:m.bw.length=0
 .have hlt:(m.bw.length:Int)-1<0:=zo;rw[List.eq_nil_of_length_eq_zero hle] at hr;cases hr;refine jc @r d hlt ?_;exact q _ yF ⟨_,_,_,_,_,h⟩
 have hlt:¬ (m.bw.length:Int)-1<0:=zo;obtain⟨k,hm⟩:∃ k,m.bw.length=k+1:=⟨m.bw.length-1,zo⟩;have i:k<m.bw.length:=zo;have QJ:m.bw.getLast?=O m.bw[k]:=zg;rw[QJ] at hr;simp only at hr;obtain⟨g,ac',cur,Q,xw,fV,F,e2,I,jr,q0,q1,q2,q3,q4,i1,i2,i3,i4⟩:=h.place i;rw[d] at F;simp only[a1I,true_and] at F;obtain⟨rfl,rfl⟩:=F;have lg:=bg I;have K:(m.bw.length:Int)-1=(k:Nat):=zo;have j:((k:Nat):Int).toNat=k:=zo;refine dj @r d ?_;rw[K] at hlt ⊢;obtain⟨u3,u4,u5⟩:=xe m.bw[k] (a1S i);have s:Ext w w.drew:=yF;refine dB hlt @r d (zA @j (zA I @q0)) ?_;refine a1r (aer (h.ext s).less Da u3 Fl) ?_;rintro E w2 ⟨rfl,L,M,mG⟩;have Dc:qi w w2:=(qi.ed s).trans (Dn.apT L);have t:w2.heap[g]?=aO cur 342:=L.block _ _ I (by rintro ⟨⟨-,u,-⟩,-⟩;rw[d] at u;exact u J);obtain⟨x,T6⟩:=(h.ext s).store mG L;have S:dc D w w2:=(dc.ed s).trans T6;have c2:w2.heap[e.vb]?=aO #[pp e.cb,M,zi (m.sr.fuel:Nat),pp (e.φ m.f),zi (m.pc:Nat),av] 116:=x.cell;rw[d] at c2;have l2:=bg c2;have s2:=S.size;obtain⟨ga,gc,T⟩:=i4.sl;obtain⟨Ys,cvn,Uj,y⟩:∃ a n c,Q = .slice a n c:=by
  rcases i2 with⟨-,rfl⟩| ⟨b,o,cap,cs,rfl,-⟩<;>exact zg
 have N:=q3;have U:=q4;rw[y] at N;rw[T] at U;refine jc t @N @afX ?_;have z:Ext w2 w2.drew:=yF;have hsr:(⟨m.n,m.sr.iE (m.bw[k]).mark,m.fs,m.f,m.pc,m.bw⟩:Vm)={ m with sr:=m.sr.iE (m.bw[k]).mark }:=rfl;by_cases xP:(m.bw[k]).others=[]
 .have:fV=[]:=by have:=i3.1;grind
  subst this;have W:Q = bW:=by
   rcases i2 with⟨-,h⟩| ⟨b,o,cap,cs,-,-,-,-,h⟩<;>grind
  rw[y] at W;cases W;simp only[xP] at hr;cases hr;refine bH ?_;refine⟨fun w'=>w'.heap[g]?=w2.heap[g]?,J,?_⟩;rw[jx];refine cQ (pq g (k*5+1)) (fun w' B=>fh @j) ?_;refine cQ (pp (e.φ (m.bw[k]).f)) (fun w' B=>by rw[t] at B;have:=bg B;exact J5 B @q1 @j) ?_;have Q4:((k:Nat):Int)<=(ac:Nat):=zo;obtain⟨Qh,UH⟩:=Qy (by have:=x.ar;grind:w2.ownsRow 0 342 5 (cS g m.bw.length ac) m.bw.length di);refine dB t @q2 @c2 (zA @j UH) ?_;have aX2:g≠e.vb:=zg;obtain⟨w3,X⟩:=cg (bQ w2.drew e.vb (ae #[pp e.cb,M,zi (m.sr.fuel:Nat),pp (e.φ (m.bw[k]).f),zi ((m.bw[k]).pc:Nat),av] 116 (0,0)));obtain⟨P,eH⟩:=(x.ext z).own (w':=w3) (f':=(m.bw[k]).f) (pc':=(m.bw[k]).pc) (yF) (by rw[X];exact qz J l2) i1;obtain⟨w4,jo⟩:=cg (bQ w2.drew e.vb (ae #[pp e.cb,M,zi (m.sr.fuel:Nat),pp (e.φ (m.bw[k]).f),zi ((m.bw[k]).pc:Nat),cS g k ac] 116 (0,0)));obtain⟨h4,gW,-⟩:=P.forget (k:=k) (w1:=w4) zg d (by rw[X,Sj,jo];rfl);have Mx:m.bw.dropLast=m.bw.take k:=by grind [List.dropLast_eq_take,Nat.add_sub_cancel]
  rw[Mx] at q;rw[<- jo];refine⟨yH,?_⟩;exact q w4 yF ⟨_,_,_,_,_,h4⟩
 .have jK:fV≠[]:=by
   rintro rfl;have:=i3.1;grind
  obtain⟨cb,co,aLt,ccs,Ls,gS,-,-,-⟩:=i2.resolve_left zg;rw[y] at Ls;cases Ls;obtain⟨m',pV,rfl⟩:∃ m',({ m with sr:=m.sr.iE (m.bw[k]).mark }:Vm).enter (m.bw[k]).others (m.bw[k]).args (m.bw[k]).f (m.bw[k]).pc k=O m'/\p=(A,m'):=by
   grind
  refine dB @Option.isNone_some.{0} t @q1 (zA @q2 (zA @N (zA @U @j))) ?_;have C:qi w w2.drew:=Dc.trans (qi.ed z);rw[y] at i2;rw[T] at i4;refine a1r (apZ (x.ext z) yH (l:=(m.bw[k]).others) (args:=(m.bw[k]).args) (f:=(m.bw[k]).f) (pc:=(m.bw[k]).pc) (n:=k) (m':=m') (i2.bJ fun b cs u=>C.1 _ _ _ (yM) u) (i3.bJ C.1)
   (i4.bJ C.1 C.toR (eu.refl _ _) (yo.refl e.φ _ _) yH) i1 zg lV u4 u5 pV) ?_
  rintro E w3 ⟨rfl,eH,P⟩;refine bH ?_;exact q w3 (S.trans ((dc.ed z).trans eH)) P
end
def P.ap9{m:Vm}{x:Fm}(hx:m.fs[m.f]?=O x)(k:Nat)(y:Sl):m.set k y={ m with fs:=m.fs.set m.f { x with slots:=x.slots.set k y } }:=by
 unfold Vm.set
 congr 1
 apply a3e;grind
def P.afY(g:Nat->Nat->Sl):∀ (L:List (Nat×Nat)) {m:Vm} {x:Fm},m.fs[m.f]?=O x->L.foldl (fun m p=>m.set p.1 (g m.n p.2)) m={ m with fs:=m.fs.set m.f { x with slots:=L.foldl (fun s p=>s.set p.1 (g m.n p.2)) x.slots } }
 | [],m,x,hx=>by
  simp only[List.foldl_nil];have:m.fs.set m.f { x with slots:=x.slots }=m.fs:=by
   apply a3e;grind
  rw[this]
 | p::L,m,x,hx=>by
  have a:m.f<m.fs.length:=zg;rw[a2v,P.ap9 hx,P.afY g L (x:={ x with slots:=x.slots.set p.1 (g m.n p.2) }) zg];grind [List.set_set]
def P.aqa:∀ (L:List (Nat×Tm)) {m:Vm} {x:Fm},m.fs[m.f]?=O x->L.foldl (fun m p=>m.set p.1 (.term p.2)) m={ m with fs:=m.fs.set m.f { x with slots:=L.foldl (fun s p=>s.set p.1 (.term p.2)) x.slots } }
 | [],m,x,hx=>by
  have:=P.afY (fun _ _=>.nil) [] hx;grind
 | p::L,m,x,hx=>by
  have a:m.f<m.fs.length:=zg;rw[a2v,P.ap9 hx,P.aqa L (x:={ x with slots:=x.slots.set p.1 (.term p.2) }) zg];grind [List.set_set]
section
variable{D:Nat->Prop}{ρ:Nat->Nat}{e:AX}{av tv:Y}{di:List Y}{w w':Z}{m:Vm}
def gi.setRow(h:gi D ρ e av tv di w m)(g:bB (fun b _=>b=e.ψ m.f) w w'){x:Fm}(hx:m.fs[m.f]?=O x){sl':List Sl}(q:w'.heap[e.ψ m.f]?=aO iB 20)
  (hlen:sl'.length=x.slots.length) (I:iB.size=x.slots.length) (r:C9 ρ m.n w' iB sl'):gi D ρ e av tv di w' { m with fs:=m.fs.set m.f { x with slots:=sl' } }/\dc D w w':=by
 obtain⟨⟨cb,s,t,u⟩,y,row,B,K,L⟩:=h.fs _ _ hx;have C:Q1 20 w w':=fun b cs T M c=>(by grind [bB.block]);have d:dc D w w':=bB.mono g fun b o k he=>by
  subst he;rw[B] at k;exact⟨h.dp _ h.fl,_,_,_,(a1w k).symm,.inr (.inr (.inr (.inr (.inr (.inr J)))))⟩
 have E:UE e.ψ m.fs.length w w':=fun b cs c hx=>(by grind [bB.block,fl]);have F:(m.fs.set m.f { x with slots:=sl' }).length=m.fs.length:=List.length_set ..;have l:∀ (i:Nat) (z:Fm),(m.fs.set m.f { x with slots:=sl' })[i]?=O z->(i=m.f/\z={ x with slots:=sl' })\/(i≠m.f/\m.fs[i]?=O z):=zg;refine⟨⟨h.st.afN C zo,zg,fun i z a=>?_,fun i z b a c=>?_,(by grind [dp]),fun i j hi N=>h.inj i j zg zg,(by grind [afM,ar]),?_,h.da⟩,d⟩
 .rcases l i z a with⟨rfl,rfl⟩| ⟨hi,a⟩
  .refine⟨⟨cb,?_,t.bJ d.toI,u⟩,y,iB,q,zg,r⟩;have:=d.toI _ _ _ (yM) s;exact yH
  .have p:i<m.fs.length:=zg;exact(h.fs i z a).bJ d.toI (eu.refl _ _) (yo.refl _ _ _) p (fun b c=>h.bk i _ b a c) fun cs H=>g.block _ _ H fun he=>hi (h.inj _ _ p h.fl he)
 .show b<(m.fs.set _ _).length;rw[F];rcases l i z a with⟨rfl,rfl⟩| ⟨hi,a⟩
  .exact h.bk _ x b hx c
  .exact h.bk i z b a c
 .have:=h.ag.bJ d.toI E (eu.refl _ _) (yo.refl e.φ _ _) yH;grind
def gi.aNr(h:gi D ρ e av tv di w m)(hD:∀ b,w.heap.size<=b->D b)(g:Ext w w'){bl:Nat->Nat}(hv:∀ j,j<k->w.heap.size<=bl j/\w'.heap[bl j]?=aO #[ai] 91)
  (s:∀ i j,i<k->j<k->bl i=bl j->i=j) :
  ∃ eM,eu ρ m.n eM (m.n+k)/\(∀ j,j<k->eM (m.n+j)=bl j)/\gi D eM e av tv di w' { m with n:=m.n+k }:=by
 obtain⟨eM,x⟩:∃ eM:Nat->Nat,eM=fun i=>if i<m.n then ρ i else bl (i-m.n):=⟨_,J⟩
 have hu:eu ρ m.n eM (m.n+k):=⟨zo,zg⟩;have y:∀ j,eM (m.n+j)=bl j:=zg;have hold:∀ i,i<m.n->ρ i<w.heap.size:=fun i hi=>by
  obtain⟨r,c,-⟩:=h.st.sv.var i hi;exact yH
 have l:=h.st.ext g;have f:∀ i,i<m.n+k->i<m.n\/∃ j,j<k/\i=m.n+j:=fun i hi=>by
  by_cases h:i<m.n
  .omega
  .exact .inr ⟨i-m.n,zo,zo⟩
 refine⟨eM,hu,zg,h.rest (qi.ed g) hu (jL g.ext h.ar) ?_ h.fl⟩;refine⟨⟨fun i j hi u he=>?_,fun i hi=>?_⟩,fun i hi=>?_,l.cell,?_,h.st.dr,h.st.ds,h.st.nd,fun p d=>Nat.lt_of_lt_of_le (h.st.lt p d) hu.1,h.st.ok⟩
 .rcases f i hi with c | ⟨a,c,rfl⟩<;>rcases f j u with o | ⟨b,o,rfl⟩
  .rw[hu.2 i c,hu.2 j o] at he;exact h.st.sv.inj i j c o he
  .grind
  .grind
  grind
 .rcases f i hi with c | ⟨a,c,rfl⟩
  .obtain⟨r,g1,g2⟩:=l.sv.var i c;refine⟨r,yH,?_⟩;cases q:P.look i m.sr.tr with
   | none=>grind
   | some t=>rw[q] at g2;exact dI.mono zg hu.1 hu.2 (fun _ _ _ _ _ h=>h) t r g2
  .have q:P.look (m.n+a) m.sr.tr=none:=P.Qg fun hm=>by
    obtain⟨p,d,z⟩:=List.mem_map.1 hm;have:=h.st.lt p d;omega
   exact yH
 .rcases f i hi with c | ⟨a,c,rfl⟩
  .rw[hu.2 i c];exact h.st.dv i c
  grind
 .have e:rz eM m.sr.tr=rz ρ m.sr.tr:=by
   unfold rz;refine List.map_congr_left fun p d=>?_;rw[hu.2 p.1 (h.st.lt p (List.mem_reverse.1 d))]
  rw[e];exact l.row
end
abbrev si(D:Nat->Prop)(ρ:Nat->Nat)(n vb cb fk:Nat)(p:Bool×Vm)(e:Ending)(w':Z):Prop:=
 e = ah (.bool p.1)/\∃ eM,eu ρ n eM p.2.n/\BT D eM vb cb fk w' p.2
def P.Y1(i:P.In)(m:Vm):Option Tm->P.Out (Bool×Vm)
 | none=>V
 | some (.var v)=>let m1:=i.s.tail.zipIdx.foldl (fun m p=>m.set p.1 (.term (.var (m.n+p.2)))) m;O (.ok (A,{ m1 with n:=m.n+i.s.tail.length,sr:=m.sr.bind v (.comp i.name ((a2j m.n i.s.tail.length).map .var)) }))
 | some (.comp name args)=>if name=i.name/\args.length=i.s.length-1 then O (.ok (A,(i.s.tail.zip args).foldl (fun m p=>m.set p.1 (.term p.2)) m)) else O (.ok (G,m))
 | some _=>O (.ok (G,m))
def P.aqb(d:Nat)(i:P.In)(m:Vm):P.Out (Bool×Vm):=IS (m.at i 0) fun t=>P.Y1 i m (fF m.sr.tr d t)
def C9.set{ρ:Nat->Nat}{n:Nat}{w:Z}{row:Array Y}{l:List Sl}(h:C9 ρ n w row l)(d:row.size=l.length)(k:Nat){v:Y}{y:Sl}(e:zx ρ n w v y):C9 ρ n w (row.setIfInBounds k v) (l.set k y):=by
 intro j b a;rw[List.getElem?_set] at a;by_cases c:k=j
 .grind
 .rw[bM c] at a;obtain⟨u,g1,g2⟩:=h j b a;grind
section
variable{D:Nat->Prop}{ρ:Nat->Nat}{e:AX}{av tv:Y}{di:List Y}{w w':Z}{m:Vm}
def aNs(h:gi D ρ e av tv di w m)(hD:∀ b,w.heap.size<=b->D b){x:Fm}(hx:m.fs[m.f]?=O x){i:P.In}(hi:A2 w g o i)(h2:2<=i.s.length)(hk:∀ k∈i.s,k<x.slots.length)(xl:i.s.length<=60)(mT:i.name.length<=20)
  (K0:∀ v,P.look v m.sr.tr=V->v ∉ m.sr.tr.map (·.1)) (Fl:m.sr.tr.length<=900000000)
 (hr:P.aqb d i m=O r) :
  Calls bbE 212 #[pp e.vb,pq g o] w (EPost D w (si D ρ m.n e.vb e.cb e.fk) r):=by
 suffices H:∀ R:Ending->Z->Prop,(∀ en w',EPost D w (si D ρ m.n e.vb e.cb e.fk) r en w'->R en w')->Calls bbE 212 #[pp e.vb,pq g o] w R from H _ fun _ _ h=>h;intro R hR;refine aM7 ?_;unfold P.aqb at hr;refine a1r (YX h hx hi (k:=0) zo (by grind [a1S]) zo) ?_;rintro en w1 ⟨rfl,hp⟩;have dD:Ext w w.drew:=yF;cases N:m.at i 0 with
 | error t=>
  rw[N] at hr hp;have hr:=(a1w hr);subst hr;have hp:en=gP t:=hp;subst hp;cases t<;>exact hR _ _ ⟨yF,J⟩
 | ok t=>
 rw[N] at hr hp;obtain⟨v,rfl,hv⟩:=hp;have hr:P.Y1 i m (fF m.sr.tr d t)=O r:=hr;have hd:=h.ext dD;cases hw:fF m.sr.tr d t with
 | none=>rw[hw] at hr;cases hr
 | some t'=>
 rw[hw] at hr;refine a1r (G6 hd.st.sv hv hw) ?_;rintro en w1 ⟨rfl,u,rfl,hu⟩;have aX4:r = .ok (G,m)->R (ah (.bool G)) w.drew:=fun hr=>by
  subst hr;exact hR _ _ ⟨yF,J,ρ,eu.refl _ _,_,_,_,_,_,hd⟩
 obtain⟨cur,hg,ho,iw,vM,aNt,sv,dX,mG⟩:=hi;have rH:=dD.ext _ _ hg;have lgd:=bg rH;obtain⟨nb,xx,rfl,px,-,xQ⟩:=Lz mG (j:=0) zo;cases t' with
 | atom s=>
  unfold dK dI at hu;subst hu;have hr:r = .ok (G,m):=(a1w hr).symm;refine bH ?_;grind
 | int s=>
  unfold dK dI at hu;subst hu;have hr:r = .ok (G,m):=(a1w hr).symm;refine bH ?_;grind
 | comp name args=>
  unfold dK dI at hu;obtain⟨b,av1,vs1,rfl,-,q,iQ,kU⟩:=hu;have aqd:Ext w w.drew.drew:=yF;have nW:=bB.drew (bB.refl (fun _ _=>False) w.drew) |>.ext _ _ q;have Q:=aqd.ext _ _ hg;obtain⟨aa,ac,Y2⟩:=iQ.sl;have Ob:vs1.length=args.length:=kU.length;rw[Ob] at Y2;subst Y2;have hL:i.s.length-1<=i.s.length:=zo;have Y3:(i.s.length:Int)-1=((i.s.length-1:Nat):Int):=zo;refine bH ?_;refine⟨fun _ w2=>w2=w.drew.drew/\(name=i.name/\args.length=i.s.length-1),?_,?_⟩
  .refine⟨fun s w2=>w2=w.drew.drew/\s 92 = .bool (decide (¬ (name=i.name/\args.length=i.s.length-1))),?_,?_⟩
   .by_cases F:name=i.name
    .subst F;have e9:decide (¬ (args.length:Int)=(i.s.length:Int)-1)=decide (¬ (i.name=i.name/\args.length=i.s.length-1)):=by
      grind
     refine dB nW Q @vM dX ?_;grind
    .have e9:decide (¬ (name=i.name/\args.length=i.s.length-1))=true:=zg;refine dB nW Q @vM (zA dX F) ?_;grind
   .rintro s w2 ⟨rfl,Y4⟩ d2;clear d2;by_cases hc:name=i.name/\args.length=i.s.length-1
    .have e9:decide (¬ (name=i.name/\args.length=i.s.length-1))=false:=zg;rw[e9] at Y4;refine cJ Y4 ?_;omega
    .have e9:decide (¬ (name=i.name/\args.length=i.s.length-1))=true:=zg;rw[e9] at Y4;refine cJ Y4 ?_;have hr:r = .ok (G,m):=by
      grind [P.Y1]
     subst hr;exact hR _ _ ⟨yF,J,ρ,eu.refl _ _,_,_,_,_,_,h.ext aqd⟩
  .rintro s w2 ⟨rfl,hc⟩ d2;clear d2;have hr:r = .ok (A,(i.s.tail.zip args).foldl (fun m p=>m.set p.1 (.term p.2)) m):=by
    grind [P.Y1]
   rw[P.aqa _ hx] at hr;obtain⟨jz,sQ⟩:=hc;obtain⟨L,LG⟩:=cg (i.s.length-1);have afR:(1:Int)<=(i.s.length:Int):=zo;have zp:sliced (O ⟨nb,0,V⟩) 1 i.s.length xx.size 1 = .slice (O ⟨nb,1,V⟩) L (xx.size-1):=by
    unfold sliced;rw[bM zo,LG];simp [Addr.add]
   obtain⟨⟨Dd,iT,-,-⟩,-,qR,mN,FR,FT⟩:=h.fs _ _ hx;have hold:∀ {c:Z} {b:Nat} {cs:Array Y} {T:Nat},bB (fun b _=>b=e.ψ m.f) w c->T≠20->w.heap[b]?=aO cs T->c.heap[b]?=aO cs T:=(by grind [bB.block]);have hzl:(i.s.tail.zip args).length=L:=zg;refine jc Q dX zp ?_;refine⟨fun n z c=>∃ (j:Nat) (row:Array Y),z 99=zi (j:Nat)/\j<=L/\n=L-j/\bB (fun b _=>b=e.ψ m.f) w c/\c.heap[e.ψ m.f]?=aO row 20/\row.size=x.slots.length /\
     C9 ρ m.n w row (((i.s.tail.zip args).take j).foldl (fun s p=>s.set p.1 (.term p.2)) x.slots),⟨_,0,qR,J,Nat.zero_le _,J,yF,yH,FR,FT⟩,?_⟩
   intro n z dz c hI;clear dz;refine toPr ?_;obtain⟨j,row,vE,hj,rfl,B,K,Jl,S⟩:=hI;have je:∀ (l:List (Nat×Tm)),(l.foldl (fun s p=>s.set p.1 (Sl.term p.2)) x.slots).length=x.slots.length:=fun l=>by
    suffices ∀ (l:List (Nat×Tm)) (s:List Sl),(l.foldl (fun s p=>s.set p.1 (Sl.term p.2)) s).length=s.length from this l _;intro l;induction l with
    | nil=>grind
    | cons a l ih=>grind
   by_cases hlt:j<L
   .have C4:(j:Int)<(L:Int):=zo;have j6:(j:Int).toNat=j:=zo;obtain⟨nb',aNv,U,UK,aNw,-⟩:=Lz mG (j:=j+1) zo;simp only[a1I,Option.some.injEq,Addr.mk.injEq,and_true,true_and] at U;obtain⟨rfl,U⟩:=U;rw[px] at UK;cases UK;obtain⟨ab,acs,Be,-,nu,hac⟩:=iQ.at' (j:=j) zo;rw[Ob] at Be;simp only[a1I,true_and] at Be;obtain⟨rfl,rfl⟩:=Be;obtain⟨va,hva,Ly⟩:=kU.at j zo;rw[hva] at hac;have Oq:=hold B zd px;have LH:=hold B zd h.cell;have Ot:=hold B zd iT;have Y5:=hold B zd q;have aNy:=hold B zd nu;have Y6:=bg K;have yq:i.s[j+1]<x.slots.length:=hk _ (a1S _);have pJ:((i.s[j+1]:Nat):Int).toNat=i.s[j+1]:=zo;have vW:((i.s[j+1]:Nat):Int)<(x.slots.length:Int):=zo;have Yx:(j:Int)<(args.length:Int):=zo;obtain⟨Lb,xv1,rfl⟩:=Ly.iface;have W:xx[1+j]?=O (zi ((i.s[j+1]:Nat):Int)):=zg;refine dB vE C4 zp (zA Oq (zA W (zA @j6 (zA LH (zA Ot (zA Y5 (zA aNy (zA hac (zA K @pJ))))))))) ?_;refine⟨L-(j+1),zo,j+1,_,zs,zo,J,yF,J,zg,?_⟩;have Yw:(i.s.tail.zip args)[j]' zo=(i.s[j+1],args[j]):=zg;rw[a2V zo,List.foldl_append,Yw];refine S.set zg _ ?_;exact dI.bJ Ly (fun _ _ _ _ _ h=>h)
   .have fp:j=L:=zo;subst fp;refine cJ vE ?_;rw[a3L zo] at S;obtain⟨r1,r2⟩:=h.setRow B hx (sl':=(i.s.tail.zip args).foldl (fun s p=>s.set p.1 (.term p.2)) x.slots) K (je _) Jl (fun E y I=>by
     obtain⟨u,g1,g2⟩:=S E y I;exact⟨u,g1,g2.bJ (fun b cs T hT q=>hold B (fun e=>hT (by rw[e];exact .inl (.inr zg))) q) (eu.refl _ _)⟩)
    subst hr;exact hR _ _ ⟨r2,J,ρ,eu.refl _ _,_,_,_,_,_,r1⟩
 | var v=>
  unfold dK dI at hu;obtain⟨QD,rfl⟩:=hu;have hr:r = .ok (A,{ (i.s.tail.zipIdx.foldl (fun m p=>m.set p.1 (.term (.var (m.n+p.2)))) m) with n:=m.n+i.s.tail.length,sr:=m.sr.bind v (.comp i.name ((a2j m.n i.s.tail.length).map .var)) }):=(a1w hr).symm;rw[P.afY (fun n k=>.term (.var (n+k))) _ hx] at hr;obtain⟨L,LG⟩:=cg (i.s.length-1);have tM:i.s.tail.length=L:=zg;have afR:(1:Int)<=(i.s.length:Int):=zo;have zp:sliced (O ⟨nb,0,V⟩) 1 i.s.length xx.size 1 = .slice (O ⟨nb,1,V⟩) L (xx.size-1):=by
   unfold sliced;rw[bM zo,LG];simp [Addr.add]
  obtain⟨⟨Dd,iT,-,-⟩,-,qR,mN,FR,FT⟩:=h.fs _ _ hx;have hold:∀ {c:Z} {b:Nat} {cs:Array Y} {T:Nat},bB (fun b _=>b=e.ψ m.f) w c->T≠20->w.heap[b]?=aO cs T->c.heap[b]?=aO cs T:=(by grind [bB.block]);refine dB rH @vM dX zp ?_;obtain⟨wc,Y7⟩:=cg (w.drew.alloc (ae #[aT i.name,bW] 180));have hEc:Ext w wc:=yF;have sc:wc.heap.size=w.heap.size+1:=yH;have qH:wc.heap[w.heap.size]?=aO #[aT i.name,bW] 180:=yH;rw[<- Y7];try rw[Ca]
  have aX9:i.s.tail.zipIdx.length=L:=by grind [List.length_zipIdx]
  refine⟨fun n z c=>∃ (j:Nat) (row:Array Y) (C:List Nat) (rX:Y),z 32=zi (j:Nat)/\j<=L/\n=L-j/\bB (fun b _=>b=e.ψ m.f) w c/\w.heap.size<c.heap.size/\C.length=j /\
    c.heap[w.heap.size]?=aO #[aT i.name,rX] 180/\c.ownsRow (w.heap.size+1) 89 1 rX j (C.map fun b=>aj 87 (pp b)) /\
    (∀ b∈C,w.heap.size<b/\c.heap[b]?=aO #[ai] 91)/\C.Nodup /\
    c.heap[e.ψ m.f]?=aO row 20/\row.size=x.slots.length /\
    ∀ (E:Nat) (y:Sl),((i.s.tail.zipIdx.take j).foldl (fun s p=>s.set p.1 (.term (.var (m.n+p.2)))) x.slots)[E]?=O y->∃ u,row[E]?=O u/\(zx ρ m.n w u y\/∃ a b,C[a]?=O b/\y = .term (.var (m.n+a))/\u = aj 87 (pp b)),
   ⟨_,0,qR,[],bW,J,Nat.zero_le _,J,yF,zo,J,qH,World.ownsRow_nil _ _ _ _,yH,List.nodup_nil,yH,FR,fun E y hj=>(by obtain⟨u,g1,g2⟩:=FT E y hj;grind)⟩,?_⟩
  intro n z dz c hI;clear dz;refine toPr ?_;obtain⟨j,row,C,rX,CX,hj,rfl,B,jr,py,gS,how,zt,Dw,K,Jl,S⟩:=hI;have je:∀ (l:List (Nat×Nat)),(l.foldl (fun s p=>s.set p.1 (Sl.term (.var (m.n+p.2)))) x.slots).length=x.slots.length:=fun l=>by
   suffices ∀ (l:List (Nat×Nat)) (s:List Sl),(l.foldl (fun s p=>s.set p.1 (Sl.term (.var (m.n+p.2)))) s).length=s.length from this l _;intro l;induction l with
   | nil=>grind
   | cons a l ih=>grind
  by_cases hlt:j<L
  .have C4:(j:Int)<(L:Int):=zo;have j6:(j:Int).toNat=j:=zo;obtain⟨nb',aNv,U,UK,aNw,-⟩:=Lz mG (j:=j+1) zo;simp only[a1I,Option.some.injEq,Addr.mk.injEq,and_true,true_and] at U;obtain⟨rfl,U⟩:=U;rw[px] at UK;cases UK;have Oq:=hold B zd px;have LH:=hold B zd h.cell;have Ot:=hold B zd iT;have lc:=bg LH;have lf:=bg Ot;have Y6:=bg K;have Yt:=bg gS;have yq:i.s[j+1]<x.slots.length:=hk _ (a1S _);have pJ:((i.s[j+1]:Nat):Int).toNat=i.s[j+1]:=zo;have vW:((i.s[j+1]:Nat):Int)<(x.slots.length:Int):=zo;have W:xx[1+j]?=O (zi ((i.s[j+1]:Nat):Int)):=zg;obtain⟨pa,pc,FW⟩:=gV how;subst FW;have ap1:e.ψ m.f≠w.heap.size:=zg;refine dB CX C4 zp (zA Oq (zA W (zA @j6 (zA LH (zA Ot (zA K (zA @pJ gS))))))) ?_;obtain⟨vv,wX⟩:∃ vv:Y,vv = aj 87 (pp c.heap.size):=⟨_,J⟩;obtain⟨wV,hwV⟩:=cg (c.alloc (ae #[ai] 91));obtain⟨wR,hwR⟩:=cg (bQ wV (e.ψ m.f) (ae (row.setIfInBounds i.s[j+1] vv) 20 (0,0)));obtain⟨M,rk⟩:=cg (wR.alloc (ae #[vv] 89));rw[<- wX,<- hwV,<- hwR,<- rk];have sV:wV.heap.size=c.heap.size+1:=yH;have sR:wR.heap.size=c.heap.size+1:=yH;have sA:M.heap.size=c.heap.size+2:=yH;have hvV:wV.heap[c.heap.size]?=aO #[ai] 91:=yH;have aNz:bB (fun b _=>b=e.ψ m.f) c M:=by
    rw[rk,hwR,hwV];exact(((bB.refl _ _).alloc _).bQ (.inl fun _=>rfl)).alloc _
   have hvA:M.heap[c.heap.size]?=aO #[ai] 91:=by
    exact yH
   have hrA:M.heap[e.ψ m.f]?=aO (row.setIfInBounds i.s[j+1] vv) 20:=by
    exact yH
   have hnA:M.heap[c.heap.size+1]?=aO #[vv] 89:=yH;have hcA:M.heap[w.heap.size]?=aO #[aT i.name,.slice pa j pc] 180:=(by grind [bB.block]);have De:M.ownsRow (w.heap.size+1) 89 1 (.slice pa j pc) j (C.map fun b=>aj 87 (pp b)):=by
    refine⟨how.1,?_⟩;rcases how.2 with F | ⟨b,cap,cur,X,g2,g3,g4⟩
    .grind
    .exact .inr ⟨b,cap,cur,X,g2,(by grind [bB.block]),g4⟩
   refine Qm De hnA (by rw[wX];rfl) zo zo ?_;intro v' w' tT jA D2;obtain⟨Df,pc',Jn⟩:=gV tT;subst Jn;have MP:∀ {b:Nat} {cs:Array Y} {T:Nat},T≠89->M.heap[b]?=aO cs T->w'.heap[b]?=aO cs T:=fun{b cs T} hT q=>by
    rw[jA.block b (bg q) (fun he=>?_)]
    .omega
    .rcases De.2 with⟨F,-⟩| ⟨b',cap,cur,X,g2,g3,g4⟩
     .rw[F] at he;cases he
     .rw[X] at he;injection he with he;grind
   have oy:=MP zd hcA;have lc':=bg oy;have sw':=jA.size;refine dj CX oy ?_;obtain⟨wE,Ov⟩:=cg (bQ w' w.heap.size (ae #[aT i.name,.slice Df (j+1) pc'] 180));have af4:bQ w' w.heap.size (ae (po #[aT i.name,.slice pa j pc] 1 (Value.slice Df (j+1) pc').cells.toList) 180 (0,0))=wE:=Ov.symm;first | rw[<- Ov] | rw[af4] | skip
   have hbE:∀ {b:Nat} {cs:Array Y} {T:Nat},T≠180->w'.heap[b]?=aO cs T->wE.heap[b]?=aO cs T:=yH;have hrt:∀ {b:Nat},(∃ cs,c.heap[b]?=aO cs 91)->b≠e.ψ m.f:=yH;refine⟨L-(j+1),zo,j+1,row.setIfInBounds i.s[j+1] vv,C++[c.heap.size],.slice Df (j+1) pc',zs,zo,J,?_,zo,zg,J,?_,?_,?_,yH,zg,?_⟩
   .have Jo:=B.trans aNz;rw[Ov];refine⟨jA.os.trans Jo.os,jA.tape.trans Jo.tape,jA.output.trans Jo.output,yH,fun b o q hm=>?_⟩;have lb:=bg q;have hbA:=Jo.block _ _ q hm;rw[jb zo,jA.block b zo (fun he=>?_)]
    .omega
    .rcases De.2 with⟨F,-⟩| ⟨b',cap,cur,X,g2,g3,g4⟩
     .rw[F] at he;cases he
     .rw[X] at he;injection he with he;grind
   .refine⟨by simpa [py] using tT.1,?_⟩;rw[List.map_append,List.map_singleton];rw[wX] at tT;rcases tT.2 with F | ⟨b,cap,cur,X,g2,g3,g4⟩
    .omega
    .exact .inr ⟨b,cap,cur,X,g2,yH,g4⟩
   .intro b q;rcases List.mem_append.1 q with q | q
    .obtain⟨g1,g2⟩:=zt b q;exact⟨g1,hbE zo (MP zo (by grind [bB.block]))⟩
    grind [List.mem_singleton]
   .rw[List.nodup_append];refine⟨Dw,zs,fun a N b q=>?_⟩;grind [List.mem_singleton,bg]
   .intro E y I;have Yw:i.s.tail.zipIdx[j]' zo=(i.s[j+1],j):=zg;rw[a2V zo,List.foldl_append,Yw] at I;simp only[a2v,List.foldl_nil,List.getElem?_set] at I;by_cases B7:i.s[j+1]=E
    .rw[zip B7,zip (by rw[je];omega)] at I;refine⟨vv,zg,.inr ⟨j,c.heap.size,?_,zg,wX⟩⟩;grind
    .rw[bM B7] at I;obtain⟨u,g1,g2⟩:=S E y I;refine⟨u,zg,?_⟩;rcases g2 with g2 | ⟨a,b,g3,g4⟩<;>grind
  .have fp:j=L:=zo;subst fp;refine cJ CX ?_;rw[a3L zo] at S;obtain⟨wg,hwg⟩:=cg (bQ c (e.ψ m.f) (ae qR 20 (0,0)));have Y6:=bg K;have hEg:Ext w wg:=by
    rw[hwg];refine⟨B.os,B.tape,B.output,yH,fun b o q _=>?_⟩;by_cases he:b=e.ψ m.f
    .exact yH
    grind [jb,bB.block]
   have hrt:∀ {b:Nat},(∃ cs,c.heap[b]?=aO cs 91)->b≠e.ψ m.f:=yH;obtain⟨bl,aYf⟩:∃ bl:Nat->Nat,∀ a b,C[a]?=O b->bl a=b:=⟨fun a=>C.getD a 0,zg⟩;have aNE:∀ a,a<j->∃ b,C[a]?=O b:=fun a N=>⟨_,a1u zo⟩;obtain⟨eM,hu,aYg,F⟩:=h.aNr hD hEg (k:=j) (bl:=bl) (by grind [List.mem_of_getElem?,jb]) (fun a b N q he=>by
    obtain⟨c1,g1⟩:=aNE a N;grind [a2g,List.pairwise_iff_getElem,Nat.lt_trichotomy,absurd])
   have hfg:bB (fun b _=>b=e.ψ m.f) wg c:=by
    rw[hwg];refine⟨J,J,J,yH,fun b o q hm=>?_⟩;exact yH
   have hI:eO w c:=fun b cs T hT q=>hold B (fun e=>hT (by rw[e];exact .inl (.inr zg))) q;obtain⟨h2,dT⟩:=F.setRow hfg hx (sl':=i.s.tail.zipIdx.foldl (fun s p=>s.set p.1 (.term (.var (m.n+p.2)))) x.slots) K (je _) Jl (fun E y I=>by
    obtain⟨u,g1,g2⟩:=S E y I;refine⟨u,g1,?_⟩;rcases g2 with g2 | ⟨a,b,g3,rfl,rfl⟩
    .exact g2.bJ hI hu
    .have N:a<j:=zg;show dK eM (m.n+j) c _ (.var (m.n+a));unfold dK dI;grind)
   have xm:P.look v m.sr.tr=none:=IQ hw;have YL:=B.size;have hDj:∀ b,c.heap.size<=b->D b:=yH;have aYh:(C.map fun b=>Value.iface 87 (pp b))=ni eM (a2j m.n j):=by
    apply a3e;grind
   have aNH:qe eM (m.n+j) c (ni eM (a2j m.n j)) ((a2j m.n j).map .var):=(by grind [afF,List.mem_range']);have af5:dK eM (m.n+j) c (aj 175 (pp w.heap.size)) (.comp i.name ((a2j m.n j).map .var)):=by
    unfold dK dI;exact⟨w.heap.size,rX,ni eM (a2j m.n j),J,trivial,gS,by grind [Uy],aNH⟩
   have dA:eA (.comp i.name ((a2j m.n j).map .var)):=by
    unfold eA;exact⟨mT,by simp;omega,P.afG _⟩
   have q:=aop h2.less Da (h2.dn hDj) (i:=v) zg xm zg af5 dA Fl;rw[hu.2 v QD] at q;refine a1r q ?_;rintro en w3 ⟨rfl,eH,tv3,gJ⟩;obtain⟨h3,aYi⟩:=h2.store gJ eH;refine bH ?_;rw[tM] at hr;subst hr;exact hR _ _ ⟨(dc.ed hEg).trans yF,J,eM,hu,_,_,_,_,_,h3⟩
end
open Go.Proofs.YtoegidfbnkaabaaGreatDoor.Sx
section
variable{p0 p1 p2 p3 p4 p5 p6 p7:Y}{w:Z}{R:Ending->Z->Prop}
def aNI:=cz w R [p0,p1] (gc [] [] []) func71
def aNJ:=cz w R [p0,p1,p2] (gc [(2,[13])] [] [14]) func108
def oL(p0 p1:Y)(w:Z)(R:Ending->Z->Prop):Prop:=
 NC p0 fun t=>
 RD bbE (a2m 196 t 1) w (fun u=>
 RD bbE (a1G 194 u) w (fun X0=>
 RD bbE (a29 #[194] 3 #[X0]) w (fun x=>
 O0 (fun rec s d w1=>
  RD bbE (bo .lss 3 (.tmp 18) (.tmp 17) (s 18) x) w1 (fun y=>
  BS y (RD bbE (a27 194 X0 (s 18)) w1 (fun z=>
  RD bbE (a1G 198 z) w1 (fun B=>
  WR bbE (Instr.alloc 198 A (ak #[])) w1 (fun e C=>
  WU bbE (a2U 198 e B) C (fun TM=>
  HD fun S=>S TM.drew /\
  uY bbE (a2m 198 e 0) S (fun D=>
  uY bbE (a1G 9 D) S (fun E=>
  CA bbE 101 #[] TM.drew (fun F r=>
  S r /\
  RD bbE (Instr.lookup 240 F E G) r (fun g=>
  RD bbE (a29 #[98] 3 #[g]) r (fun H=>
  O0 (fun rec_1 a d_1 c=>
   RD bbE (bo .lss 3 (.tmp 27) (.tmp 26) (a 27) H) c (fun I=>
   BS I (RD bbE (a27 98 g (a 27)) c (fun K=>
   RD bbE (a1G 5 K) c (fun h=>
   JS (fun j=>
    RD bbE (bo .eql 5 (.tmp 31) (.const (.int .u8 115)) h (.int .u8 115)) c (fun i=>
    BS i (j (jg [(32,i)]) c) (RD bbE (bo .eql 5 (.tmp 31) (.const (.int .u8 112)) h (.int .u8 112)) c (fun L=>
    j (jg [(32,L)]) c) (PX R))) (PX R))
    (fun M d_2 b=>
    BS (M 32) (RD bbE (a2m 198 e 3) b (fun N=>
    RD bbE (a1G 45 N) b (fun P=>
    RD bbE (a27 45 P (a 7)) b (fun Q=>
    RD bbE (a1G 3 Q) b (fun T=>
    CA bbE 64 #[T] b (fun U W=>
    WR bbE (a2s 39 1 #[(0,U)]) W (fun X aN3=>
    WR bbE (a1Y #[39,39] 39 #[(a 6),X]) aN3 (fun x43 Ow=>
    RD bbE (bo .add 3 (.tmp 44) (.const (.int .i64 1)) (a 7) (.int .i64 1)) Ow (fun x45=>
    RD bbE (bo .add 3 (.tmp 27) (.const (.int .i64 1)) (a 27) (.int .i64 1)) Ow (fun x83=>
   rec_1 (jg [(6,x43),(7,x45),(27,x83)]) Ow) (PX R)) (PX R)) (PX R)) (PX R)) (PC R)) (PX R)) (PX R)) (PX R)) (PX R)) (RD bbE (bo .eql 5 (.tmp 31) (.const (.int .u8 99)) h (.int .u8 99)) b (fun x47=>
    BS x47 (RD bbE (Instr.build 96 #[(1,(.int .i64 9))]) b (fun x48=>
    WR bbE (Instr.box 96 x48) b (fun x49 LK=>
    RD bbE (Instr.build 103 #[(1,x49)]) LK (fun x50=>
    WR bbE (Instr.alloc 103 A (ak #[])) LK (fun TL NR=>
    WU bbE (a2U 103 TL x50) NR (fun NS=>
    RD bbE (a2m 198 e 2) NS (fun x51=>
    RD bbE (a1G 89 x51) NS (fun x52=>
    CA bbE 31 #[TL,x52,(.int .i64 0)] NS (fun x53 k=>
    RD bbE (a2m 103 TL 0) k (fun x55=>
    CA bbE 33 #[x55] k (fun x56 aOd=>
    WR bbE (a2s 39 1 #[(0,x56)]) aOd (fun x57 aOf=>
    WR bbE (a1Y #[39,39] 39 #[(a 6),x57]) aOf (fun x58 l=>
    RD bbE (bo .add 3 (.tmp 27) (.const (.int .i64 1)) (a 27) (.int .i64 1)) l (fun aOh=>
   rec_1 (jg [(6,x58),(7,(a 7)),(27,aOh)]) l) (PX R)) (PX R)) (PX R)) (PC R)) (PX R)) (PC R)) (PX R)) (PX R)) (PX R)) (PX R)) (PX R)) (PX R)) (PX R)) (RD bbE (bo .eql 5 (.tmp 31) (.const (.int .u8 110)) h (.int .u8 110)) b (fun x60=>
    BS x60 (RD bbE (a2m 198 e 1) b (fun x62=>
    RD bbE (a1G 9 x62) b (fun x63=>
    WR bbE (a2s 39 1 #[(0,x63)]) b (fun x64 aOj=>
    WR bbE (a1Y #[39,39] 39 #[(a 6),x64]) aOj (fun x65 m=>
    RD bbE (bo .add 3 (.tmp 27) (.const (.int .i64 1)) (a 27) (.int .i64 1)) m (fun aOk=>
   rec_1 (jg [(6,x65),(7,(a 7)),(27,aOk)]) m) (PX R)) (PX R)) (PX R)) (PX R)) (PX R)) (RD bbE (bo .eql 5 (.tmp 31) (.const (.int .u8 42)) h (.int .u8 42)) b (fun x67=>
    BS x67 (RD bbE (a2m 198 e 3) b (fun x68=>
    RD bbE (a1G 45 x68) b (fun x69=>
    RD bbE (Instr.sliceAt 45 x69 (O (a 7)) V V) b (fun n=>
    RD bbE (a29 #[45] 3 #[n]) b (fun x72=>
    O0 (fun rec_2 o d_3 f=>
     RD bbE (bo .lss 3 (.tmp 73) (.tmp 72) (o 73) x72) f (fun x74=>
     BS x74 (RD bbE (a27 45 n (o 73)) f (fun TX=>
     RD bbE (a1G 3 TX) f (fun x76=>
     CA bbE 64 #[x76] f (fun x79 aOm=>
     WR bbE (a2s 39 1 #[(0,x79)]) aOm (fun x80 aOo=>
     WR bbE (a1Y #[39,39] 39 #[(o 6),x80]) aOo (fun x81 p=>
     RD bbE (bo .add 3 (.tmp 73) (.const (.int .i64 1)) (o 73) (.int .i64 1)) p (fun x82=>
     rec_2 (jg [(6,x81),(73,x82)]) p) (PX R)) (PX R)) (PX R)) (PC R)) (PX R)) (PX R)) (RD bbE (bo .add 3 (.tmp 27) (.const (.int .i64 1)) (a 27) (.int .i64 1)) f (fun aOr=>
   rec_1 (jg [(6,(o 6)),(7,(a 7)),(27,aOr)]) f) (PX R))) (PX R))
     (jg [(6,(a 6)),(73,(.int .i64 0))]) b) (PX R)) (PX R)) (PX R)) (PX R)) (RD bbE (bo .add 3 (.tmp 27) (.const (.int .i64 1)) (a 27) (.int .i64 1)) b (fun aOs=>
   rec_1 (jg [(6,(a 6)),(7,(a 7)),(27,aOs)]) b) (PX R))) (PX R))) (PX R))) (PX R)))) (PX R)) (PX R)) (RD bbE (a2m 198 e 0) c (fun x85=>
  RD bbE (a1G 9 x85) c (fun x86=>
  CA bbE 108 #[p1,x86,(a 6)] c (fun x88 q=>
  RD bbE (bo .add 3 (.tmp 18) (.const (.int .i64 1)) (s 18) (.int .i64 1)) q (fun x89=>
  rec (jg [(18,x89)]) q) (PX R)) (PC R)) (PX R)) (PX R))) (PX R))
   (jg [(6,bW),(7,(.int .i64 0)),(27,(.int .i64 0))]) r) NX) NX) (Mm R)))) (PX R)) (PX R)) (PX R)) (PX R)) (R (ah (ak #[])) w1)) (PX R))
  (jg [(18,(.int .i64 0))]) w) (PX R)) (PX R)) (PX R)
def aOw(h:oL p0 p1 w R):Calls bbE 109 #[p0,p1] w R:=
 cq (args:=[p0,p1]) (EV (zL [(1,[18]),(6,[6,7,27]),(21,[6,73])]) (zO [(10001,[32])]) (fun _=>0) (zO [(5,[0,1,2,5,0,3,4])]) (zL [(1,[]),(6,[]),(21,[])]) (zL [(10001,[])]) (zT [10001]) (zT [19,28,32,33,34,46,47,59,60,66,67,74])) func109 J zk zk h
def aOx:=cz w R [p0,p1,p2] (gd [(3,[14]),(7,[34])] [] [] [(5,[10,0,1,2,3,4,5,6,7,8,9,10])] [] [] [15,35]) func81
def aOy:=cz w R [p0] (gc [] [] []) func70
def aOz:=cz w R [p0,p1,p2] (gc [] [(2000,[30]),(3001,[])] [29,30]) func73
def aOA:=cz w R [p0,p1] (gc [] [(1000,[36]),(2001,[])] [34,35,36]) func72
def aOB:=cz w R [p0,p1] (gc [] [(2000,[19]),(3002,[])] [18,19]) func102
def aOC:=cz w R [] (gc [] [] []) func101
end
