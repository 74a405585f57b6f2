/- A part of one proof (KV6, KV7, KV8, KV9, ShX4). -/
import Derived.Test.YtoegidfbnkaabaaGreatDoorPkIAW
set_option linter.all false
set_option maxRecDepth 100000
set_option maxHeartbeats 8000000
open Option renaming some → O, none → V
open Go renaming Value → Y, World → Z
open Bool renaming true → A, false → G
open Go.Obj renaming cells → ae
open Go.Ending renaming returned → ah
open Go.Value renaming nilIface → ai, iface → aj, tuple → ak
open Go.Calls renaming mono → a1a
open Option.some renaming inj → a1b
open List renaming getElem?_eq_getElem → a1e, getElem_mem → a1D, replicate → a1N, getElem?_eq_some_iff → a1S, range' → a1W, foldl_cons → a2d, take_succ_eq_append_getElem → a2C, ext_getElem? → a2F, getElem?_replicate → a3s, take_of_length_le → a3w
open Go.Instr renaming loadAt → a1p, fieldAt → a1Y, buildSlice → a2a, storeAt → a2A, indexAt → a2N
open Go.Value.slice renaming injEq → a1r
open Go.Builtin renaming append_ → a1H, len_ → a2O
open Go.Proofs.Tryz renaming prog → bbr
open Go.Proofs.Tryz
namespace Go.Proofs.YtoegidfbnkaabaaGreatDoor
open P
open Go.RowKit Sx
variable{d f g k n o pb pc:Nat}{o4 v vv:Y}{r:Except jQ (Bool×Vm)}{ug:Nat->Nat}{iL:Array Y}{xs:List Y}
def B6(D:Nat->Prop)(ρ:Nat->Nat)(vb cb fx:Nat)(w:Z)(m:Vm):Prop:=∃ φ ψ av tv dw,gr D ρ ⟨φ,ψ,vb,cb,fx⟩ av tv dw w m
def P.UO(m:Vm)(rest:List Co)(args:List Sl)(f pc:Nat):List Ga:=match rest with | []=>[] | _=>[⟨m.sr.tr.length,f,pc,rest,args⟩]
section
variable{D:Nat->Prop}{ρ:Nat->Nat}{e:A9}{av tv:Y}{dw:List Y}{w w':Z}{m:Vm}
theorem yG.sl{l:List Sl}(h:yG D ρ n ug pb w v l):∃ a c,v = .slice a l.length c:=by
 rcases h with⟨rfl,rfl⟩| ⟨b,cap,row,rfl,-⟩<;>exact⟨_,_,J⟩
def aqf(h:gr D ρ e av tv dw w m)(hD:∀ b,w.heap.size<=b->D b){l:List Co}{args:List Sl}{m':Vm}(hl:oM w 185 vv xs)(hc:B4 w xs l)
  (ha:yG D ρ m.n e.ψ m.fs.length w o4 args) (hf:f<m.fs.length) (hn:n<=m.bz.length) (lZ:m.bz.length<=900000000) (jd:∀ c∈l,c.slots<=64) (Hf:args.length<=60) (hr:m.enter l args f pc n=O m') :
  Calls bbr 209 #[pp e.vb,vv,o4,pp (e.φ f),zi (pc:Nat),zi (n:Nat)] w fun en w'=>en = ah (ak #[])/\di D w w'/\B6 D ρ e.vb e.cb e.fx w' m':=by
 cases l with
 | nil=>cases hr
 | cons c rest=>
 have hr:({ m with bz:=m.bz.take n++P.UO m rest args f pc,fs:=m.fs++[⟨c,args++a1N (max c.slots args.length-args.length) .nil,n,O f,pc,G⟩],f:=m.fs.length,pc:=0 }:Vm)=m':=a1b hr;subst hr;obtain⟨C,Qh,vO⟩:=hc.2 0 c J;have uJ:xs.length=rest.length+1:=by have:=hc.1;omega
 obtain⟨lb,lo,Up,lcs,rfl,WV,rp,aLd⟩:=hl.at (j:=0) zo;rw[Nat.add_zero,Qh] at rp;obtain⟨E,ac,gx⟩:=il h.ar;have c0:=h.cell;have lv0:=bh c0;obtain⟨QB,UP⟩:=QP (by rw[gx] at h;exact h.ar:w.ownsRow 0 342 5 (.slice E m.bz.length ac) m.bz.length dw);obtain⟨ga,gc,N⟩:=ha.sl;have vk:(n:Int)<=(ac:Nat):=zo;suffices H:∀ R:Ending->Z->Prop,(∀ w',di D w w'->B6 D ρ e.vb e.cb e.fx w' ({ m with bz:=m.bz.take n++P.UO m rest args f pc,fs:=m.fs++[⟨c,args++a1N (max c.slots args.length-args.length) .nil,n,O f,pc,G⟩],f:=m.fs.length,pc:=0 }:Vm)->R (ah (ak #[])) w') ->
   Calls bbr 209 #[pp e.vb,.slice (O ⟨lb,lo,V⟩) xs.length Up,o4,pp (e.φ f),zi (pc:Nat),zi (n:Nat)] w R from H _ yF
 intro R hR;refine aNz ?_;refine jk @c0 gx UP ?_;have Y9:(n:Int).toNat=n:=zo;try rw[Y9]
 obtain⟨w1,j3⟩:=cg (bS w e.vb (ae #[pp e.cb,tv,zi (m.sr.fuel:Nat),pp (e.φ m.f),zi (m.pc:Nat),.slice E n ac] 116));obtain⟨h1,dE,hJ1⟩:=h.forget hn gx j3;have YS:bS w e.vb (ae (pD #[pp e.cb,tv,zi (m.sr.fuel:Nat),pp (e.φ m.f),zi (m.pc:Nat),.slice E m.bz.length ac] 5 (Value.slice E n ac).cells.toList) 116 (0,0))=w1:=j3.symm;rw[YS];have c1:w1.heap[e.vb]?=aN #[pp e.cb,tv,zi (m.sr.fuel:Nat),pp (e.φ m.f),zi (m.pc:Nat),.slice E n ac] 116:=h1.cell;clear YS j3;have lv1:=bh c1;have s1:=dE.size;refine⟨fun _ w'=>∃ av' avs',gr D ρ e av' tv avs' w' { m with bz:=m.bz.take n++P.UO m rest args f pc }/\di D w w'/\qu w w',?_,?_⟩
 .cases rest with
  | nil=>
   have EI:¬ (xs.length:Int) > 1:=zg;refine cO EI ?_;grind [P.UO]
  | cons c2 rest=>
   have EI:(xs.length:Int) > 1:=zg;refine cO EI ?_;have dK:Ext w1 w1.drew:=yF;refine⟨fun w'=>w'.heap[e.vb]?=w1.heap[e.vb]?,J,?_⟩;rw[jI];refine cS (pq e.vb 5) (fun w' g=>eV) ?_;refine cS (.slice E n ac) (fun w' g=>by rw[c1] at g;have:=bh g;exact fm g) ?_;rw[jI];refine cS (pq e.vb 1) (fun w' g=>eV) ?_;obtain⟨v2,i,rfl⟩:∃ v2 i,xs=v2::i:=by cases xs with | nil=>grind | cons a b=>grind
   have aX4:i.length=rest.length+1:=zg;have QQ:oM w 185 (sliced (O ⟨lb,lo,V⟩) 1 (i.length+1) Up 1) i:=hl.tail zg;obtain⟨S,T,zM⟩:∃ S T,sliced (O ⟨lb,lo,V⟩) 1 (i.length+1) Up 1 = .slice S i.length T:=⟨_,_,J⟩;rw[zM] at QQ;have af6:(1:Int)<=(((v2::i).length:Nat):Int):=zo;refine cS (.slice S i.length T) (fun w' g=>fm zM) ?_;refine a1a (TY (h1.ext dK).st Dp) ?_;rintro en w2 ⟨rfl,rfl⟩;refine⟨J,?_⟩;rw[N];refine bG ?_;obtain⟨l0,U⟩:∃ l0:List Y,l0=[zi (m.sr.tr.length:Nat),pp (e.φ f),zi (pc:Nat),.slice S i.length T,o4]:=⟨_,J⟩;obtain⟨w2,jx⟩:=cg (w1.drew.alloc (ae l0.toArray 342 (0,0)));have W:Ext w1 w2:=yF;have g2:w2.heap[w1.heap.size]?=aN l0.toArray 342:=yH;have s2:w2.heap.size=w1.heap.size+1:=yH;rw[U,N] at jx;rw[<- jx];have z:=h1.ext W;have q2:w2.heap[e.vb]?=aN #[pp e.cb,tv,zi (m.sr.fuel:Nat),pp (e.φ m.f),zi (m.pc:Nat),.slice E n ac] 116:=z.cell;have yw:(m.bz.take n).length=n:=zg;have t:qu w w2:=hJ1.trans (qu.eo W);refine aqe z.ar g2 zg (by rw[U,N];intro u hu;simp only[List.mem_cons,List.not_mem_nil,or_false] at hu;rcases hu with rfl | rfl | rfl | rfl | rfl<;>rfl) zg zo ?_;intro v' w3 Lx BI EE;obtain⟨p3,d3,e3⟩:=il Lx;subst e3;have Mi:nF D ρ m.n e.φ e.ψ m.fs.length w2 l0 [⟨m.sr.tr.length,f,pc,c2::rest,args⟩]:=by
    refine⟨.slice S i.length T,o4,i,[],zg,hf,QQ.bK fun b cs hb=>t.1 b cs _ (yM) hb,?_,ha.bK t.1 t.toR (eD.refl _ _) (yE.refl e.φ _ _) yH,J⟩;exact B4.bK t.1 (B4.tail hc)
   obtain⟨k,F⟩:=cg (bS w3 e.vb (ae #[pp e.cb,tv,zi (m.sr.fuel:Nat),pp (e.φ m.f),zi (m.pc:Nat),.slice p3 ((m.bz.take n).length+1) d3] 116));obtain⟨r1,r2,r3,r4⟩:=z.LP (l:=m.bz.take n++[⟨m.sr.tr.length,f,pc,c2::rest,args⟩]) zg BI yH (z.ag.snoc Mi) F;have c3:=r4.trans q2;refine⟨yH,?_⟩;refine cO @c3 ?_;have Md:bS w3 e.vb (ae (pD #[pp e.cb,tv,zi (m.sr.fuel:Nat),pp (e.φ m.f),zi (m.pc:Nat),.slice E n ac] 5 (Value.slice p3 ((m.bz.take n).length+1) d3).cells.toList) 116 (0,0))=k:=F.symm;first | rw[Md] | rw[<- F]
   exact⟨_,_,r1,dE.trans ((di.eo W).trans r2),t.trans r3⟩
 .rintro s w2 ⟨B,QR,z,W,t⟩ d;clear d;have s2:=W.size;have I:=t.1 _ _ _ (yM) WV;obtain⟨insv,gN,xL⟩:=id vO;have FP:=t.1 _ _ _ (yM) gN;have c2:w2.heap[e.vb]?=aN #[pp e.cb,tv,zi (m.sr.fuel:Nat),pp (e.φ m.f),zi (m.pc:Nat),B] 116:=z.cell;obtain⟨ba,bc,mW⟩:∃ a c,B = .slice a (m.bz.take n++P.UO m rest args f pc).length c:=il z.ar;have hlp:(0:Int)<(xs.length:Int):=zo;have hsc:c.slots<=64:=zg;obtain⟨M,hM⟩:=cg (max c.slots args.length);have OF:args.length<=M:=zo;have hMb:M<=1000000:=zo;have hmx:(if (args.length:Int) > (c.slots:Int) then(args.length:Int) else(c.slots:Int))=(M:Int):=zo;rw[N];refine⟨fun w'=>w'.heap[lb]?=w2.heap[lb]?/\w'.heap[C]?=w2.heap[C]?,yH,?_⟩;refine cS (pq lb lo) (fun w' g=>eV) ?_;refine cS (pp C) (fun w' g=>by have x:=g.1;rw[I] at x;have:=bh x;exact mn x rp) ?_;refine cS (pq lb lo) (fun w' g=>eV) ?_;refine cS (pp C) (fun w' g=>by have x:=g.1;rw[I] at x;have:=bh x;exact mn x rp) ?_;rw[jI];refine cS (pp C) (fun w' g=>eV) ?_;refine cS (zi (c.slots:Nat)) (fun w' g=>by have x:=g.2;rw[FP] at x;have:=bh x;exact fm x) ?_;refine cS (zi (args.length:Nat)) (fun w' g=>eV) ?_;refine cS (zi (M:Nat)) (fun w' g=>by rw[axr,hmx]) ?_;refine bG ?_;have l2:=bh c2;have llb:=bh I;have YE:=bh FP;obtain⟨wr,OM⟩:=cg (w2.drew.alloc (ae (madeCells #[ai] M) 20 (0,0)));obtain⟨w3,th⟩:=cg (wr.alloc (ae #[pp C,cV w2.heap.size M M,zi (n:Nat),pp (e.φ f),zi (pc:Nat)] 203));have aX8:Ext w2 wr:=yF;have UA:Ext w2 w3:=yF;have sr:wr.heap.size=w2.heap.size+1:=yH;have s3:w3.heap.size=w2.heap.size+2:=yH;have Uq:(madeCells #[Value.nilIface] M).size=M:=size_madeCells ..;obtain⟨Q,mN⟩:=cg (madeCells #[Value.nilIface] M);have hr3:w3.heap[w2.heap.size]?=aN Q 20:=yH;have ea:w3.heap[w2.heap.size+1]?=aN #[pp C,cV w2.heap.size M M,zi (n:Nat),pp (e.φ f),zi (pc:Nat)] 203:=yH;have c3:=UA.ext _ _ c2;have l3:=bh c3;rw[<- OM,<- th];rw[<- mN] at Uq;refine⟨yH,yH,?_⟩;clear OM th;replace c3:=c3.trans c2.symm;refine dF @c2 ea ?_;obtain⟨k,F⟩:=cg (bS w3 e.vb (ae #[pp e.cb,tv,zi (m.sr.fuel:Nat),pp (w2.heap.size+1),zi (m.pc:Nat),B] 116));have Md:bS w3 e.vb (ae (pD #[pp e.cb,tv,zi (m.sr.fuel:Nat),pp (e.φ m.f),zi (m.pc:Nat),B] 3 (Value.pointer (O ⟨w2.heap.size+1,0,V⟩)).cells.toList) 116 (0,0))=k:=F.symm;first | rw[Md] | rw[<- F]
  have aqh:w2.heap.size≠e.vb:=zo;have X:w2.heap.size+1≠e.vb:=zo;have H7:k.heap[w2.heap.size]?=aN Q 20:=yH;have c4:k.heap[e.vb]?=aN #[pp e.cb,tv,zi (m.sr.fuel:Nat),pp (w2.heap.size+1),zi (m.pc:Nat),B] 116:=yH;have aqj:bB (fun b _=>b=e.vb) w2 k:=yF;have eF:k.heap[w2.heap.size+1]?=_:=(by rw[F,jr X]:k.heap[w2.heap.size+1]?=w3.heap[w2.heap.size+1]?).trans ea;have s4:k.heap.size=w2.heap.size+2:=yH;clear Md F;have IV:∀ (p:Z) (row:Array Y),bB (fun b _=>b=w2.heap.size) k p->p.heap[w2.heap.size]?=aN row 20->row.size=M->(∀ (ww:Z),qu w2 ww->Dl ρ m.n ww row (args++a1N (M-args.length) .nil)) ->
    NC (pp e.vb) fun x74=>RD bbr (a1Y 116 x74 3) p (fun T6=>WU bbr (a2A 3 T6 (zi 0)) p (fun q=>R (ah (ak #[])) q) (PX R)) (PX R):=by
   intro p row Ys Rm F0 aNP;have c5:p.heap[e.vb]?=_:=Ys.block _ _ c4 (fun e=>aqh e.symm);have l5:=bh c5;refine cO @c5 ?_;obtain⟨q,pQ⟩:=cg (bS p e.vb (ae #[pp e.cb,tv,zi (m.sr.fuel:Nat),pp (w2.heap.size+1),zi ((0:Nat):Int),B] 116));have aNQ:bS p e.vb (ae (pD #[pp e.cb,tv,zi (m.sr.fuel:Nat),pp (w2.heap.size+1),zi (m.pc:Nat),B] 4 (Value.int .i64 0).cells.toList) 116 (0,0))=q:=pQ.symm;first | rw[aNQ] | skip
   have c6:q.heap[e.vb]?=aN #[pp e.cb,tv,zi (m.sr.fuel:Nat),pp (w2.heap.size+1),zi ((0:Nat):Int),B] 116:=yH;have r6:q.heap[w2.heap.size]?=aN row 20:=yH;have f6:q.heap[w2.heap.size+1]?=_:=(by rw[pQ,jr X]:q.heap[w2.heap.size+1]?=p.heap[w2.heap.size+1]?).trans (Ys.block _ _ eF zo);have aqk:bB (fun b _=>b=e.vb) w2 q:=by
    have BH:bB (fun b _=>b=e.vb\/w2.heap.size<=b) w2 p:=(bB.mono aqj fun _ _ _ h=>Or.inl h).trans (by grind [bB.mono]);rw[pQ];refine bB.mono (BH.bS (.inl fun _=>.inl J)) fun b o hb h=>?_;grind
   have aNR:di D w2 q:=bB.mono aqk fun b o ho e=>by
    subst e;rw[c2] at ho;exact⟨z.st.ds,_,_,_,(a1b ho).symm,.inr (.inr (.inr (.inr (.inl J))))⟩
   have aql:qu w2 q:=⟨aNR.toI,(by grind [bB.block])⟩;have hlen:(args++a1N (M-args.length) Sl.nil).length=M:=zg;obtain⟨uZ,sI,g1,g2⟩:=z.aNK yH aqk (fb:=w2.heap.size+1) (rb:=w2.heap.size) (cb:=C) (c:=c) (slots:=args++a1N (M-args.length) .nil) (row:=row) (n:=n) (f:=f) (pc:=pc) zo zo
    (by rw[hlen];exact f6) (vO.bK (t.1.trans aql.1)) r6 (by rw[hlen];exact F0) (aNP q aql) hf c6
   rw[hM] at g1;have ll:=hR q yF ⟨uZ,sI,B,tv,QR,g1⟩;exact yH
  have UQ:∀ (j:Nat) (y:Sl),(a1N M Sl.nil)[j]?=O y->Q[j]?=O ai/\y = .nil:=fun j y r=>by
   have UR:j<M:=zg;rw[a3s,zip UR] at r;refine⟨?_,zg⟩;have:=apH ai M j UR;grind
  rcases ha with⟨rfl,US⟩| ⟨ab,aX9,K,US,hac,nz,aYa,aqm,-⟩
  .rw[N] at US;cases US;rw[show(([]:List Sl).length)=0 from J,aNI];refine IV k Q yF H7 Uq fun ww _ j y r=>?_;obtain⟨h5,rfl⟩:=UQ j y (by simpa using r);exact⟨_,h5,J⟩
  .rw[N] at US;cases US;have L:=t.2 _ _ nz;have aNS:=aqj.block _ _ L (fun e=>by
    rw[e,c2] at L;injection L with L;injection L with _ L _;cases L)
   rw[aNJ H7 aNS zo OF zo (fun v hv=>?_)]
   rotate_left
   .obtain⟨j,r,rfl⟩:=List.getElem_of_mem hv;rw[List.length_take] at r;have D5:j<args.length:=zo;obtain⟨u,uW,FZ⟩:=aqm j _ (a1e D5);have:(K.toList.take args.length)[j]=u:=by
     grind
    rw[this];rcases FZ.one with rfl | ⟨_,_,rfl⟩<;>rfl
   .obtain⟨p,oN⟩:=cg (bS k w2.heap.size (ae (K.toList.take args.length++Q.toList.drop args.length).toArray 20 (0,0)));rw[<- oN];refine IV p (K.toList.take args.length++Q.toList.drop args.length).toArray (yF) (yH) zg fun ww hJw j y r=>?_;by_cases fD:j<args.length
    .rw[List.getElem?_append_left fD] at r;obtain⟨u,uW,FZ⟩:=aqm j y r;refine⟨u,?_,FZ.bK (t.1.trans hJw.1) (eD.refl _ _)⟩;grind
    .rw[List.getElem?_append_right zo] at r;obtain⟨h5,rfl⟩:=UQ j y (by
      have:j-args.length<M-args.length:=by
       have:=(a1S.1 r).1;simpa using this
      rw[a3s,zip this] at r;rw[a3s,zip zo];exact r)
     refine⟨_,?_,J⟩;grind
end
def agc{w:Z}{x y:Operand}{K:Y->Prop}{X:Y->Z->Prop}(a:Option Addr)(n c:Nat):RD bbr (bo .eql 192 x y (.slice a n c) bX) w K X=K (.bool a.isNone):=
 ij (by cases a<;>kernel_rfl)
section
variable{D:Nat->Prop}{ρ:Nat->Nat}{e:A9}{av tv:Y}{dw:List Y}{w w':Z}{m:Vm}
def gr.place(h:gr D ρ e av tv dw w m)(hm:k<m.bz.length):∃ g ac cur a b fZ,av = cV g m.bz.length ac/\m.bz.length<=ac/\w.heap[g]?=aN cur 342/\cur.size=ac*5 /\
  cur[k*5]?=O (zi ((m.bz[k]).mark:Nat))/\cur[k*5+1]?=O (pp (e.φ (m.bz[k]).f))/\cur[k*5+2]?=O (zi ((m.bz[k]).pc:Nat))/\cur[k*5+3]?=O a/\cur[k*5+4]?=O b /\
  (m.bz[k]).f<m.fs.length/\oM w 185 a fZ/\B4 w fZ (m.bz[k]).others/\yG D ρ m.n e.ψ m.fs.length w b (m.bz[k]).args:=by
 obtain⟨a,b,fZ,q,g2,g3,g4,g5⟩:=h.ag.at k hm;rcases h.ar.2 with⟨-,c⟩| ⟨g,cap,cur,d,c,i,l,r,o,s⟩
 .exact yH
 .have p:∀ j,j<5->cur[k*5+j]?=[Value.int .i64 ((m.bz[k]).mark:Nat),pp (e.φ (m.bz[k]).f),zi ((m.bz[k]).pc:Nat),a,b][j]?:=zg;exact⟨g,cap,cur,a,b,fZ,d,l,i,o,p 0 zo,zg,zg,zg,zg,g2,g3,g4,g5⟩
def aqn(h:gr D ρ e av tv dw w m)(hD:∀ b,w.heap.size<=b->D b)(xt:∀ a∈m.bz,a.mark<=m.sr.tr.length/\(∀ c∈a.others,c.slots<=64)/\a.args.length<=60)(FE:m.sr.tr.length<=900000000)(lZ:m.bz.length<=900000000)
  {p:Bool×Vm} (hr:m.back=O p) :
  Calls bbr 206 #[pp e.vb] w fun E w'=>di D w w'/\E = ah (.bool p.1)/\B6 D ρ e.vb e.cb e.fx w' p.2:=by
 suffices H:∀ R:Ending->Z->Prop,(∀ w',di D w w'->B6 D ρ e.vb e.cb e.fx w' p.2->R (ah (.bool p.1)) w')->Calls bbr 206 #[pp e.vb] w R from
  H _ yF
 intro R q;have r:=h.cell;have l1:=bh r;obtain⟨aa,ac,d⟩:=il h.ar;refine aNy ?_;unfold Vm.back at hr;by_cases hle:m.bz.length=0
 .have hlt:(m.bz.length:Int)-1<0:=zo;rw[List.eq_nil_of_length_eq_zero hle] at hr;cases hr;refine jk @r d hlt ?_;exact q _ yF ⟨_,_,_,_,_,h⟩
 have hlt:¬ (m.bz.length:Int)-1<0:=zo;obtain⟨k,hm⟩:∃ k,m.bz.length=k+1:=⟨m.bz.length-1,zo⟩;have i:k<m.bz.length:=zo;have Q0:m.bz.getLast?=O m.bz[k]:=zg;rw[Q0] at hr;simp only at hr;obtain⟨g,ac',cur,Q,xJ,fZ,F,e2,I,jh,q0,q1,q2,q3,q4,i1,i2,i3,i4⟩:=h.place i;rw[d] at F;simp only[a1r,true_and] at F;obtain⟨rfl,rfl⟩:=F;have lg:=bh I;have K:(m.bz.length:Int)-1=(k:Nat):=zo;have j:((k:Nat):Int).toNat=k:=zo;refine dF @r d ?_;rw[K] at hlt ⊢;obtain⟨u3,u4,u5⟩:=xt m.bz[k] (a1D i);have s:Ext w w.drew:=yF;refine dM hlt @r d (zA @j (zA I @q0)) ?_;refine a1a (aeG (h.ext s).less Dp u3 FE) ?_;rintro E w2 ⟨rfl,L,M,mG⟩;have Dr:qu w w2:=(qu.eo s).trans (Dn.ap9 L);have t:w2.heap[g]?=aN cur 342:=L.block _ _ I (by rintro ⟨⟨-,u,-⟩,-⟩;rw[d] at u;exact u J);obtain⟨x,Ud⟩:=(h.ext s).store mG L;have S:di D w w2:=(di.eo s).trans Ud;have c2:w2.heap[e.vb]?=aN #[pp e.cb,M,zi (m.sr.fuel:Nat),pp (e.φ m.f),zi (m.pc:Nat),av] 116:=x.cell;rw[d] at c2;have l2:=bh c2;have s2:=S.size;obtain⟨ga,gc,T⟩:=i4.sl;obtain⟨YD,cvn,Ur,y⟩:∃ a n c,Q = .slice a n c:=by
  rcases i2 with⟨-,rfl⟩| ⟨b,o,cap,cs,rfl,-⟩<;>exact zg
 have N:=q3;have U:=q4;rw[y] at N;rw[T] at U;refine jk t @N @agc ?_;have z:Ext w2 w2.drew:=yF;have hsr:(⟨m.n,m.sr.iS (m.bz[k]).mark,m.fs,m.f,m.pc,m.bz⟩:Vm)={ m with sr:=m.sr.iS (m.bz[k]).mark }:=rfl;by_cases yf:(m.bz[k]).others=[]
 .have:fZ=[]:=by have:=i3.1;grind
  subst this;have W:Q = bX:=by
   rcases i2 with⟨-,h⟩| ⟨b,o,cap,cs,-,-,-,-,h⟩<;>grind
  rw[y] at W;cases W;simp only[yf] at hr;cases hr;refine bG ?_;refine⟨fun w'=>w'.heap[g]?=w2.heap[g]?,J,?_⟩;rw[jI];refine cS (pq g (k*5+1)) (fun w' B=>fm @j) ?_;refine cS (pp (e.φ (m.bz[k]).f)) (fun w' B=>by rw[t] at B;have:=bh B;exact Kw B @q1 @j) ?_;have Ro:((k:Nat):Int)<=(ac:Nat):=zo;obtain⟨QB,UP⟩:=QP (by have:=x.ar;grind:w2.ownsRow 0 342 5 (cV g m.bz.length ac) m.bz.length dw);refine dM t @q2 @c2 (zA @j UP) ?_;have aYc:g≠e.vb:=zg;obtain⟨w3,X⟩:=cg (bS w2.drew e.vb (ae #[pp e.cb,M,zi (m.sr.fuel:Nat),pp (e.φ (m.bz[k]).f),zi ((m.bz[k]).pc:Nat),av] 116 (0,0)));obtain⟨P,eK⟩:=(x.ext z).own (w':=w3) (f':=(m.bz[k]).f) (pc':=(m.bz[k]).pc) (yF) (by rw[X];exact qJ J l2) i1;obtain⟨w4,jB⟩:=cg (bS w2.drew e.vb (ae #[pp e.cb,M,zi (m.sr.fuel:Nat),pp (e.φ (m.bz[k]).f),zi ((m.bz[k]).pc:Nat),cV g k ac] 116 (0,0)));obtain⟨h4,gJ,-⟩:=P.forget (k:=k) (w1:=w4) zg d (by rw[X,Sw,jB];rfl);have M1:m.bz.dropLast=m.bz.take k:=by grind [List.dropLast_eq_take,Nat.add_sub_cancel]
  rw[M1] at q;rw[<- jB];refine⟨yH,?_⟩;exact q w4 yF ⟨_,_,_,_,_,h4⟩
 .have jC:fZ≠[]:=by
   rintro rfl;have:=i3.1;grind
  obtain⟨cb,co,aLN,ccs,LY,gN,-,-,-⟩:=i2.resolve_left zg;rw[y] at LY;cases LY;obtain⟨m',qf,rfl⟩:∃ m',({ m with sr:=m.sr.iS (m.bz[k]).mark }:Vm).enter (m.bz[k]).others (m.bz[k]).args (m.bz[k]).f (m.bz[k]).pc k=O m'/\p=(A,m'):=by
   grind
  refine dM @Option.isNone_some.{0} t @q1 (zA @q2 (zA @N (zA @U @j))) ?_;have C:qu w w2.drew:=Dr.trans (qu.eo z);rw[y] at i2;rw[T] at i4;refine a1a (aqf (x.ext z) yH (l:=(m.bz[k]).others) (args:=(m.bz[k]).args) (f:=(m.bz[k]).f) (pc:=(m.bz[k]).pc) (n:=k) (m':=m') (i2.bK fun b cs u=>C.1 _ _ _ (yM) u) (i3.bK C.1)
   (i4.bK C.1 C.toR (eD.refl _ _) (yE.refl e.φ _ _) yH) i1 zg lZ u4 u5 qf) ?_
  rintro E w3 ⟨rfl,eK,P⟩;refine bG ?_;exact q w3 (S.trans ((di.eo z).trans eK)) P
end
def P.aqp{m:Vm}{x:Fm}(hx:m.fs[m.f]?=O x)(k:Nat)(y:Sl):m.set k y={ m with fs:=m.fs.set m.f { x with slots:=x.slots.set k y } }:=by
 unfold Vm.set
 congr 1
 apply a2F;grind
def P.agd(g:Nat->Nat->Sl):∀ (L:List (Nat×Nat)) {m:Vm} {x:Fm},m.fs[m.f]?=O x->L.foldl (fun m p=>m.set p.1 (g m.n p.2)) m={ m with fs:=m.fs.set m.f { x with slots:=L.foldl (fun s p=>s.set p.1 (g m.n p.2)) x.slots } }
 | [],m,x,hx=>by
  simp only[List.foldl_nil];have:m.fs.set m.f { x with slots:=x.slots }=m.fs:=by
   apply a2F;grind
  rw[this]
 | p::L,m,x,hx=>by
  have a:m.f<m.fs.length:=zg;rw[a2d,P.aqp hx,P.agd g L (x:={ x with slots:=x.slots.set p.1 (g m.n p.2) }) zg];grind [List.set_set]
def P.aqq:∀ (L:List (Nat×Tm)) {m:Vm} {x:Fm},m.fs[m.f]?=O x->L.foldl (fun m p=>m.set p.1 (.term p.2)) m={ m with fs:=m.fs.set m.f { x with slots:=L.foldl (fun s p=>s.set p.1 (.term p.2)) x.slots } }
 | [],m,x,hx=>by
  have:=P.agd (fun _ _=>.nil) [] hx;grind
 | p::L,m,x,hx=>by
  have a:m.f<m.fs.length:=zg;rw[a2d,P.aqp hx,P.aqq L (x:={ x with slots:=x.slots.set p.1 (.term p.2) }) zg];grind [List.set_set]
section
variable{D:Nat->Prop}{ρ:Nat->Nat}{e:A9}{av tv:Y}{dw:List Y}{w w':Z}{m:Vm}
def gr.setRow(h:gr D ρ e av tv dw w m)(k:bB (fun b _=>b=e.ψ m.f) w w'){x:Fm}(hx:m.fs[m.f]?=O x){sl':List Sl}(r:w'.heap[e.ψ m.f]?=aN iL 20)
  (hlen:sl'.length=x.slots.length) (K:iL.size=x.slots.length) (s:Dl ρ m.n w' iL sl'):gr D ρ e av tv dw w' { m with fs:=m.fs.set m.f { x with slots:=sl' } }/\di D w w':=by
 obtain⟨⟨cb,t,u,y⟩,B,row,C,L,M⟩:=h.fs _ _ hx;have E:Rk 20 w w':=fun b cs T N c=>(by grind [bB.block]);have d:di D w w':=bB.mono k fun b o l he=>by
  subst he;rw[C] at l;exact⟨h.dp _ h.fl,_,_,_,(a1b l).symm,.inr (.inr (.inr (.inr (.inr (.inr J)))))⟩
 have F:UM e.ψ m.fs.length w w':=fun b cs c hx=>(by grind [bB.block,fl]);have H:(m.fs.set m.f { x with slots:=sl' }).length=m.fs.length:=List.length_set ..;have p:∀ (i:Nat) (z:Fm),(m.fs.set m.f { x with slots:=sl' })[i]?=O z->(i=m.f/\z={ x with slots:=sl' })\/(i≠m.f/\m.fs[i]?=O z):=zg;refine⟨⟨h.st.af2 E zo,zg,fun i z a=>?_,fun i z b a c=>?_,(by grind [dp]),fun i j g P=>h.inj i j zg zg,(by grind [af1,ar]),?_,h.da⟩,d⟩
 .rcases p i z a with⟨rfl,rfl⟩| ⟨g,a⟩
  .refine⟨⟨cb,?_,u.bK d.toI,y⟩,B,iL,r,zg,s⟩;have:=d.toI _ _ _ (yM) t;exact yH
  .have q:i<m.fs.length:=zg;exact(h.fs i z a).bK d.toI (eD.refl _ _) (yE.refl _ _ _) q (fun b c=>h.bk i _ b a c) fun cs I=>k.block _ _ I fun he=>g (h.inj _ _ q h.fl he)
 .show b<(m.fs.set _ _).length;rw[H];rcases p i z a with⟨rfl,rfl⟩| ⟨g,a⟩
  .exact h.bk _ x b hx c
  .exact h.bk i z b a c
 .have:=h.ag.bK d.toI F (eD.refl _ _) (yE.refl e.φ _ _) yH;grind
def gr.aNU(h:gr D ρ e av tv dw w m)(hD:∀ b,w.heap.size<=b->D b)(l:Ext w w'){bl:Nat->Nat}(hv:∀ j,j<k->w.heap.size<=bl j/\w'.heap[bl j]?=aN #[ai] 91)
  (u:∀ i j,i<k->j<k->bl i=bl j->i=j) :
  ∃ eQ,eD ρ m.n eQ (m.n+k)/\(∀ j,j<k->eQ (m.n+j)=bl j)/\gr D eQ e av tv dw w' { m with n:=m.n+k }:=by
 obtain⟨eQ,y⟩:∃ eQ:Nat->Nat,eQ=fun i=>if i<m.n then ρ i else bl (i-m.n):=⟨_,J⟩
 have hu:eD ρ m.n eQ (m.n+k):=⟨zo,zg⟩;have z:∀ j,eQ (m.n+j)=bl j:=zg;have hold:∀ i,i<m.n->ρ i<w.heap.size:=fun i d=>by
  obtain⟨r,c,-⟩:=h.st.sv.var i d;exact yH
 have o:=h.st.ext l;have g:∀ i,i<m.n+k->i<m.n\/∃ j,j<k/\i=m.n+j:=fun i d=>by
  by_cases h:i<m.n
  .omega
  .exact .inr ⟨i-m.n,zo,zo⟩
 refine⟨eQ,hu,zg,h.rest (qu.eo l) hu (jY l.ext h.ar) ?_ h.fl⟩;refine⟨⟨fun i j d x he=>?_,fun i d=>?_⟩,fun i d=>?_,o.cell,?_,h.st.dr,h.st.ds,h.st.nd,fun p f=>Nat.lt_of_lt_of_le (h.st.lt p f) hu.1,h.st.ok⟩
 .rcases g i d with c | ⟨a,c,rfl⟩<;>rcases g j x with q | ⟨b,q,rfl⟩
  .rw[hu.2 i c,hu.2 j q] at he;exact h.st.sv.inj i j c q he
  .grind
  .grind
  grind
 .rcases g i d with c | ⟨a,c,rfl⟩
  .obtain⟨r,g1,g2⟩:=o.sv.var i c;refine⟨r,yH,?_⟩;cases s:P.look i m.sr.tr with
   | none=>grind
   | some t=>rw[s] at g2;exact dL.mono zg hu.1 hu.2 (fun _ _ _ _ _ h=>h) t r g2
  .have s:P.look (m.n+a) m.sr.tr=none:=P.QA fun hm=>by
    obtain⟨p,f,B⟩:=List.mem_map.1 hm;have:=h.st.lt p f;omega
   exact yH
 .rcases g i d with c | ⟨a,c,rfl⟩
  .rw[hu.2 i c];exact h.st.dv i c
  grind
 .have e:rI eQ m.sr.tr=rI ρ m.sr.tr:=by
   unfold rI;refine List.map_congr_left fun p f=>?_;rw[hu.2 p.1 (h.st.lt p (List.mem_reverse.1 f))]
  rw[e];exact o.row
end
abbrev sJ(D:Nat->Prop)(ρ:Nat->Nat)(n vb cb fx:Nat)(p:Bool×Vm)(e:Ending)(w':Z):Prop:=
 e = ah (.bool p.1)/\∃ eQ,eD ρ n eQ p.2.n/\B6 D eQ vb cb fx w' p.2
def P.Zb(i:P.In)(m:Vm):Option Tm->P.Out (Bool×Vm)
 | none=>V
 | some (.var v)=>let m1:=i.s.tail.zipIdx.foldl (fun m p=>m.set p.1 (.term (.var (m.n+p.2)))) m;O (.ok (A,{ m1 with n:=m.n+i.s.tail.length,sr:=m.sr.bind v (.comp i.name ((a1W m.n i.s.tail.length).map .var)) }))
 | some (.comp name args)=>if name=i.name/\args.length=i.s.length-1 then O (.ok (A,(i.s.tail.zip args).foldl (fun m p=>m.set p.1 (.term p.2)) m)) else O (.ok (G,m))
 | some _=>O (.ok (G,m))
def P.aqr(d:Nat)(i:P.In)(m:Vm):P.Out (Bool×Vm):=Jf (m.at i 0) fun t=>P.Zb i m (fE m.sr.tr d t)
def Dl.set{ρ:Nat->Nat}{n:Nat}{w:Z}{row:Array Y}{l:List Sl}(h:Dl ρ n w row l)(d:row.size=l.length)(k:Nat){v:Y}{y:Sl}(e:zV ρ n w v y):Dl ρ n w (row.setIfInBounds k v) (l.set k y):=by
 intro j b a;rw[List.getElem?_set] at a;by_cases c:k=j
 .grind
 .rw[bI c] at a;obtain⟨u,g1,g2⟩:=h j b a;grind
section
variable{D:Nat->Prop}{ρ:Nat->Nat}{e:A9}{av tv:Y}{dw:List Y}{w w':Z}{m:Vm}
def aNV(h:gr D ρ e av tv dw w m)(hD:∀ b,w.heap.size<=b->D b){x:Fm}(hx:m.fs[m.f]?=O x){i:P.In}(hi:Bc w g o i)(h2:2<=i.s.length)(hk:∀ k∈i.s,k<x.slots.length)(xA:i.s.length<=60)(mU:i.name.length<=20)
  (Lt:∀ v,P.look v m.sr.tr=V->v ∉ m.sr.tr.map (·.1)) (FE:m.sr.tr.length<=900000000)
 (hr:P.aqr d i m=O r) :
  Calls bbr 212 #[pp e.vb,pq g o] w (EPost D w (sJ D ρ m.n e.vb e.cb e.fx) r):=by
 suffices H:∀ R:Ending->Z->Prop,(∀ en w',EPost D w (sJ D ρ m.n e.vb e.cb e.fx) r en w'->R en w')->Calls bbr 212 #[pp e.vb,pq g o] w R from H _ fun _ _ h=>h;intro R hR;refine aNA ?_;unfold P.aqr at hr;refine a1a (Y8 h hx hi (k:=0) zo (by grind [a1D]) zo) ?_;rintro en w1 ⟨rfl,hp⟩;have dK:Ext w w.drew:=yF;cases N:m.at i 0 with
 | error t=>
  rw[N] at hr hp;have hr:=(a1b hr);subst hr;have hp:en=ig t:=hp;subst hp;cases t<;>exact hR _ _ ⟨yF,J⟩
 | ok t=>
 rw[N] at hr hp;obtain⟨v,rfl,hv⟩:=hp;have hr:P.Zb i m (fE m.sr.tr d t)=O r:=hr;have hd:=h.ext dK;cases hw:fE m.sr.tr d t with
 | none=>rw[hw] at hr;cases hr
 | some t'=>
 rw[hw] at hr;refine a1a (Hs hd.st.sv hv hw) ?_;rintro en w1 ⟨rfl,u,rfl,hu⟩;have aYe:r = .ok (G,m)->R (ah (.bool G)) w.drew:=fun hr=>by
  subst hr;exact hR _ _ ⟨yF,J,ρ,eD.refl _ _,_,_,_,_,_,hd⟩
 obtain⟨cur,hg,ho,iw,vZ,aNW,sv,eg,mG⟩:=hi;have rQ:=dK.ext _ _ hg;have lgd:=bh rQ;obtain⟨nb,xK,rfl,pJ,-,yg⟩:=Mf mG (j:=0) zo;cases t' with
 | atom s=>
  unfold dR dL at hu;subst hu;have hr:r = .ok (G,m):=(a1b hr).symm;refine bG ?_;grind
 | int s=>
  unfold dR dL at hu;subst hu;have hr:r = .ok (G,m):=(a1b hr).symm;refine bG ?_;grind
 | comp name args=>
  unfold dR dL at hu;obtain⟨b,av1,vs1,rfl,-,q,jd,ld⟩:=hu;have aqs:Ext w w.drew.drew:=yF;have nW:=bB.drew (bB.refl (fun _ _=>False) w.drew) |>.ext _ _ q;have Q:=aqs.ext _ _ hg;obtain⟨aa,ac,Zc⟩:=jd.sl;have JI:vs1.length=args.length:=ld.length;rw[JI] at Zc;subst Zc;have hL:i.s.length-1<=i.s.length:=zo;have Zd:(i.s.length:Int)-1=((i.s.length-1:Nat):Int):=zo;refine bG ?_;refine⟨fun _ w2=>w2=w.drew.drew/\(name=i.name/\args.length=i.s.length-1),?_,?_⟩
  .refine⟨fun s w2=>w2=w.drew.drew/\s 92 = .bool (decide (¬ (name=i.name/\args.length=i.s.length-1))),?_,?_⟩
   .by_cases F:name=i.name
    .subst F;have e9:decide (¬ (args.length:Int)=(i.s.length:Int)-1)=decide (¬ (i.name=i.name/\args.length=i.s.length-1)):=by
      grind
     refine dM nW Q @vZ eg ?_;grind
    .have e9:decide (¬ (name=i.name/\args.length=i.s.length-1))=true:=zg;refine dM nW Q @vZ (zA eg F) ?_;grind
   .rintro s w2 ⟨rfl,Ze⟩ d2;clear d2;by_cases hc:name=i.name/\args.length=i.s.length-1
    .have e9:decide (¬ (name=i.name/\args.length=i.s.length-1))=false:=zg;rw[e9] at Ze;refine cO Ze ?_;omega
    .have e9:decide (¬ (name=i.name/\args.length=i.s.length-1))=true:=zg;rw[e9] at Ze;refine cO Ze ?_;have hr:r = .ok (G,m):=by
      grind [P.Zb]
     subst hr;exact hR _ _ ⟨yF,J,ρ,eD.refl _ _,_,_,_,_,_,h.ext aqs⟩
  .rintro s w2 ⟨rfl,hc⟩ d2;clear d2;have hr:r = .ok (A,(i.s.tail.zip args).foldl (fun m p=>m.set p.1 (.term p.2)) m):=by
    grind [P.Zb]
   rw[P.aqq _ hx] at hr;obtain⟨jF,rT⟩:=hc;obtain⟨L,Mm⟩:=cg (i.s.length-1);have af6:(1:Int)<=(i.s.length:Int):=zo;have zM:sliced (O ⟨nb,0,V⟩) 1 i.s.length xK.size 1 = .slice (O ⟨nb,1,V⟩) L (xK.size-1):=by
    unfold sliced;rw[bI zo,Mm];simp [Addr.add]
   obtain⟨⟨Ds,jg,-,-⟩,-,q8,mN,F8,F9⟩:=h.fs _ _ hx;have hold:∀ {c:Z} {b:Nat} {cs:Array Y} {T:Nat},bB (fun b _=>b=e.ψ m.f) w c->T≠20->w.heap[b]?=aN cs T->c.heap[b]?=aN cs T:=(by grind [bB.block]);have hzl:(i.s.tail.zip args).length=L:=zg;refine jk Q eg zM ?_;refine⟨fun n z c=>∃ (j:Nat) (row:Array Y),z 99=zi (j:Nat)/\j<=L/\n=L-j/\bB (fun b _=>b=e.ψ m.f) w c/\c.heap[e.ψ m.f]?=aN row 20/\row.size=x.slots.length /\
     Dl ρ m.n w row (((i.s.tail.zip args).take j).foldl (fun s p=>s.set p.1 (.term p.2)) x.slots),⟨_,0,q8,J,Nat.zero_le _,J,yF,yH,F8,F9⟩,?_⟩
   intro n z dz c hI;clear dz;refine toPr ?_;obtain⟨j,row,vQ,hj,rfl,B,K,F0,S⟩:=hI;have iV:∀ (l:List (Nat×Tm)),(l.foldl (fun s p=>s.set p.1 (Sl.term p.2)) x.slots).length=x.slots.length:=fun l=>by
    suffices ∀ (l:List (Nat×Tm)) (s:List Sl),(l.foldl (fun s p=>s.set p.1 (Sl.term p.2)) s).length=s.length from this l _;intro l;induction l with
    | nil=>grind
    | cons a l ih=>grind
   by_cases hlt:j<L
   .have Df:(j:Int)<(L:Int):=zo;have jV:(j:Int).toNat=j:=zo;obtain⟨nb',aNZ,U,UT,aN0,-⟩:=Mf mG (j:=j+1) zo;simp only[a1r,Option.some.injEq,Addr.mk.injEq,and_true,true_and] at U;obtain⟨rfl,U⟩:=U;rw[pJ] at UT;cases UT;obtain⟨ab,acs,vn,-,nz,hac⟩:=jd.at' (j:=j) zo;rw[JI] at vn;simp only[a1r,true_and] at vn;obtain⟨rfl,rfl⟩:=vn;obtain⟨va,hva,Me⟩:=ld.at j zo;rw[hva] at hac;have OP:=hold B zd pJ;have Mn:=hold B zd h.cell;have OQ:=hold B zd jg;have Zf:=hold B zd q;have aN2:=hold B zd nz;have aqt:=bh K;have yI:i.s[j+1]<x.slots.length:=hk _ (a1D _);have pS:((i.s[j+1]:Nat):Int).toNat=i.s[j+1]:=zo;have wK:((i.s[j+1]:Nat):Int)<(x.slots.length:Int):=zo;have YI:(j:Int)<(args.length:Int):=zo;obtain⟨LC,xv1,rfl⟩:=Me.iface;have W:xK[1+j]?=O (zi ((i.s[j+1]:Nat):Int)):=zg;refine dM vQ Df zM (zA OP (zA W (zA @jV (zA Mn (zA OQ (zA Zf (zA aN2 (zA hac (zA K @pS))))))))) ?_;refine⟨L-(j+1),zo,j+1,_,zs,zo,J,yF,J,zg,?_⟩;have YH:(i.s.tail.zip args)[j]' zo=(i.s[j+1],args[j]):=zg;rw[a2C zo,List.foldl_append,YH];refine S.set zg _ ?_;exact dL.bK Me (fun _ _ _ _ _ h=>h)
   .have fD:j=L:=zo;subst fD;refine cO vQ ?_;rw[a3w zo] at S;obtain⟨r1,r2⟩:=h.setRow B hx (sl':=(i.s.tail.zip args).foldl (fun s p=>s.set p.1 (.term p.2)) x.slots) K (iV _) F0 (fun E y I=>by
     obtain⟨u,g1,g2⟩:=S E y I;exact⟨u,g1,g2.bK (fun b cs T hT q=>hold B (fun e=>hT (by rw[e];exact .inl (.inr zg))) q) (eD.refl _ _)⟩)
    subst hr;exact hR _ _ ⟨r2,J,ρ,eD.refl _ _,_,_,_,_,_,r1⟩
 | var v=>
  unfold dR dL at hu;obtain⟨QU,rfl⟩:=hu;have hr:r = .ok (A,{ (i.s.tail.zipIdx.foldl (fun m p=>m.set p.1 (.term (.var (m.n+p.2)))) m) with n:=m.n+i.s.tail.length,sr:=m.sr.bind v (.comp i.name ((a1W m.n i.s.tail.length).map .var)) }):=(a1b hr).symm;rw[P.agd (fun n k=>.term (.var (n+k))) _ hx] at hr;obtain⟨L,Mm⟩:=cg (i.s.length-1);have tP:i.s.tail.length=L:=zg;have af6:(1:Int)<=(i.s.length:Int):=zo;have zM:sliced (O ⟨nb,0,V⟩) 1 i.s.length xK.size 1 = .slice (O ⟨nb,1,V⟩) L (xK.size-1):=by
   unfold sliced;rw[bI zo,Mm];simp [Addr.add]
  obtain⟨⟨Ds,jg,-,-⟩,-,q8,mN,F8,F9⟩:=h.fs _ _ hx;have hold:∀ {c:Z} {b:Nat} {cs:Array Y} {T:Nat},bB (fun b _=>b=e.ψ m.f) w c->T≠20->w.heap[b]?=aN cs T->c.heap[b]?=aN cs T:=(by grind [bB.block]);refine dM rQ @vZ eg zM ?_;obtain⟨wc,Zg⟩:=cg (w.drew.alloc (ae #[aT i.name,bX] 180));have hEc:Ext w wc:=yF;have sc:wc.heap.size=w.heap.size+1:=yH;have qQ:wc.heap[w.heap.size]?=aN #[aT i.name,bX] 180:=yH;rw[<- Zg];try rw[Ck]
  have aYi:i.s.tail.zipIdx.length=L:=by grind [List.length_zipIdx]
  refine⟨fun n z c=>∃ (j:Nat) (row:Array Y) (C:List Nat) (sw:Y),z 32=zi (j:Nat)/\j<=L/\n=L-j/\bB (fun b _=>b=e.ψ m.f) w c/\w.heap.size<c.heap.size/\C.length=j /\
    c.heap[w.heap.size]?=aN #[aT i.name,sw] 180/\c.ownsRow (w.heap.size+1) 89 1 sw j (C.map fun b=>aj 87 (pp b)) /\
    (∀ b∈C,w.heap.size<b/\c.heap[b]?=aN #[ai] 91)/\C.Nodup /\
    c.heap[e.ψ m.f]?=aN row 20/\row.size=x.slots.length /\
    ∀ (E:Nat) (y:Sl),((i.s.tail.zipIdx.take j).foldl (fun s p=>s.set p.1 (.term (.var (m.n+p.2)))) x.slots)[E]?=O y->∃ u,row[E]?=O u/\(zV ρ m.n w u y\/∃ a b,C[a]?=O b/\y = .term (.var (m.n+a))/\u = aj 87 (pp b)),
   ⟨_,0,q8,[],bX,J,Nat.zero_le _,J,yF,zo,J,qQ,World.ownsRow_nil _ _ _ _,yH,List.nodup_nil,yH,F8,fun E y hj=>(by obtain⟨u,g1,g2⟩:=F9 E y hj;grind)⟩,?_⟩
  intro n z dz c hI;clear dz;refine toPr ?_;obtain⟨j,row,C,sw,C9,hj,rfl,B,jh,pK,gN,sK,zP,DK,K,F0,S⟩:=hI;have iV:∀ (l:List (Nat×Nat)),(l.foldl (fun s p=>s.set p.1 (Sl.term (.var (m.n+p.2)))) x.slots).length=x.slots.length:=fun l=>by
   suffices ∀ (l:List (Nat×Nat)) (s:List Sl),(l.foldl (fun s p=>s.set p.1 (Sl.term (.var (m.n+p.2)))) s).length=s.length from this l _;intro l;induction l with
   | nil=>grind
   | cons a l ih=>grind
  by_cases hlt:j<L
  .have Df:(j:Int)<(L:Int):=zo;have jV:(j:Int).toNat=j:=zo;obtain⟨nb',aNZ,U,UT,aN0,-⟩:=Mf mG (j:=j+1) zo;simp only[a1r,Option.some.injEq,Addr.mk.injEq,and_true,true_and] at U;obtain⟨rfl,U⟩:=U;rw[pJ] at UT;cases UT;have OP:=hold B zd pJ;have Mn:=hold B zd h.cell;have OQ:=hold B zd jg;have lc:=bh Mn;have lf:=bh OQ;have aqt:=bh K;have YE:=bh gN;have yI:i.s[j+1]<x.slots.length:=hk _ (a1D _);have pS:((i.s[j+1]:Nat):Int).toNat=i.s[j+1]:=zo;have wK:((i.s[j+1]:Nat):Int)<(x.slots.length:Int):=zo;have W:xK[1+j]?=O (zi ((i.s[j+1]:Nat):Int)):=zg;obtain⟨pa,pc,Gd⟩:=il sK;subst Gd;have aqh:e.ψ m.f≠w.heap.size:=zg;refine dM C9 Df zM (zA OP (zA W (zA @jV (zA Mn (zA OQ (zA K (zA @pS gN))))))) ?_;obtain⟨vv,xn⟩:∃ vv:Y,vv = aj 87 (pp c.heap.size):=⟨_,J⟩;obtain⟨wV,hwV⟩:=cg (c.alloc (ae #[ai] 91));obtain⟨wR,hwR⟩:=cg (bS wV (e.ψ m.f) (ae (row.setIfInBounds i.s[j+1] vv) 20 (0,0)));obtain⟨M,rA⟩:=cg (wR.alloc (ae #[vv] 89));rw[<- xn,<- hwV,<- hwR,<- rA];have sV:wV.heap.size=c.heap.size+1:=yH;have sR:wR.heap.size=c.heap.size+1:=yH;have sA:M.heap.size=c.heap.size+2:=yH;have hvV:wV.heap[c.heap.size]?=aN #[ai] 91:=yH;have aN3:bB (fun b _=>b=e.ψ m.f) c M:=by
    rw[rA,hwR,hwV];exact(((bB.refl _ _).alloc _).bS (.inl fun _=>rfl)).alloc _
   have hvA:M.heap[c.heap.size]?=aN #[ai] 91:=by
    exact yH
   have hrA:M.heap[e.ψ m.f]?=aN (row.setIfInBounds i.s[j+1] vv) 20:=by
    exact yH
   have hnA:M.heap[c.heap.size+1]?=aN #[vv] 89:=yH;have hcA:M.heap[w.heap.size]?=aN #[aT i.name,.slice pa j pc] 180:=(by grind [bB.block]);have Dt:M.ownsRow (w.heap.size+1) 89 1 (.slice pa j pc) j (C.map fun b=>aj 87 (pp b)):=by
    refine⟨sK.1,?_⟩;rcases sK.2 with F | ⟨b,cap,cur,X,g2,g3,g4⟩
    .grind
    .exact .inr ⟨b,cap,cur,X,g2,(by grind [bB.block]),g4⟩
   refine QG Dt hnA (by rw[xn];rfl) zo zo ?_;intro v' w' tW jK Ej;obtain⟨Du,pc',JP⟩:=il tW;subst JP;have Nt:∀ {b:Nat} {cs:Array Y} {T:Nat},T≠89->M.heap[b]?=aN cs T->w'.heap[b]?=aN cs T:=fun{b cs T} hT q=>by
    rw[jK.block b (bh q) (fun he=>?_)]
    .omega
    .rcases Dt.2 with⟨F,-⟩| ⟨b',cap,cur,X,g2,g3,g4⟩
     .rw[F] at he;cases he
     .rw[X] at he;injection he with he;grind
   have nB:=Nt zd hcA;have lc':=bh nB;have sw':=jK.size;refine dF C9 nB ?_;obtain⟨wE,OS⟩:=cg (bS w' w.heap.size (ae #[aT i.name,.slice Du (j+1) pc'] 180));have agk:bS w' w.heap.size (ae (pD #[aT i.name,.slice pa j pc] 1 (Value.slice Du (j+1) pc').cells.toList) 180 (0,0))=wE:=OS.symm;first | rw[<- OS] | rw[agk] | skip
   have hbE:∀ {b:Nat} {cs:Array Y} {T:Nat},T≠180->w'.heap[b]?=aN cs T->wE.heap[b]?=aN cs T:=yH;have hrt:∀ {b:Nat},(∃ cs,c.heap[b]?=aN cs 91)->b≠e.ψ m.f:=yH;refine⟨L-(j+1),zo,j+1,row.setIfInBounds i.s[j+1] vv,C++[c.heap.size],.slice Du (j+1) pc',zs,zo,J,?_,zo,zg,J,?_,?_,?_,yH,zg,?_⟩
   .have JQ:=B.trans aN3;rw[OS];refine⟨jK.os.trans JQ.os,jK.tape.trans JQ.tape,jK.output.trans JQ.output,yH,fun b o q hm=>?_⟩;have lb:=bh q;have hbA:=JQ.block _ _ q hm;rw[jr zo,jK.block b zo (fun he=>?_)]
    .omega
    .rcases Dt.2 with⟨F,-⟩| ⟨b',cap,cur,X,g2,g3,g4⟩
     .rw[F] at he;cases he
     .rw[X] at he;injection he with he;grind
   .refine⟨by simpa [pK] using tW.1,?_⟩;rw[List.map_append,List.map_singleton];rw[xn] at tW;rcases tW.2 with F | ⟨b,cap,cur,X,g2,g3,g4⟩
    .omega
    .exact .inr ⟨b,cap,cur,X,g2,yH,g4⟩
   .intro b q;rcases List.mem_append.1 q with q | q
    .obtain⟨g1,g2⟩:=zP b q;exact⟨g1,hbE zo (Nt zo (by grind [bB.block]))⟩
    grind [List.mem_singleton]
   .rw[List.nodup_append];refine⟨DK,zs,fun a N b q=>?_⟩;grind [List.mem_singleton,bh]
   .intro E y I;have YH:i.s.tail.zipIdx[j]' zo=(i.s[j+1],j):=zg;rw[a2C zo,List.foldl_append,YH] at I;simp only[a2d,List.foldl_nil,List.getElem?_set] at I;by_cases Ci:i.s[j+1]=E
    .rw[zip Ci,zip (by rw[iV];omega)] at I;refine⟨vv,zg,.inr ⟨j,c.heap.size,?_,zg,xn⟩⟩;grind
    .rw[bI Ci] at I;obtain⟨u,g1,g2⟩:=S E y I;refine⟨u,zg,?_⟩;rcases g2 with g2 | ⟨a,b,g3,g4⟩<;>grind
  .have fD:j=L:=zo;subst fD;refine cO C9 ?_;rw[a3w zo] at S;obtain⟨wg,hwg⟩:=cg (bS c (e.ψ m.f) (ae q8 20 (0,0)));have aqt:=bh K;have hEg:Ext w wg:=by
    rw[hwg];refine⟨B.os,B.tape,B.output,yH,fun b o q _=>?_⟩;by_cases he:b=e.ψ m.f
    .exact yH
    grind [jr,bB.block]
   have hrt:∀ {b:Nat},(∃ cs,c.heap[b]?=aN cs 91)->b≠e.ψ m.f:=yH;obtain⟨bl,aYo⟩:∃ bl:Nat->Nat,∀ a b,C[a]?=O b->bl a=b:=⟨fun a=>C.getD a 0,zg⟩;have aN8:∀ a,a<j->∃ b,C[a]?=O b:=fun a N=>⟨_,a1e zo⟩;obtain⟨eQ,hu,aYp,F⟩:=h.aNU hD hEg (k:=j) (bl:=bl) (by grind [List.mem_of_getElem?,jr]) (fun a b N q he=>by
    obtain⟨c1,g1⟩:=aN8 a N;grind [a1S,List.pairwise_iff_getElem,Nat.lt_trichotomy,absurd])
   have hfg:bB (fun b _=>b=e.ψ m.f) wg c:=by
    rw[hwg];refine⟨J,J,J,yH,fun b o q hm=>?_⟩;exact yH
   have hI:eR w c:=fun b cs T hT q=>hold B (fun e=>hT (by rw[e];exact .inl (.inr zg))) q;obtain⟨h2,dU⟩:=F.setRow hfg hx (sl':=i.s.tail.zipIdx.foldl (fun s p=>s.set p.1 (.term (.var (m.n+p.2)))) x.slots) K (iV _) F0 (fun E y I=>by
    obtain⟨u,g1,g2⟩:=S E y I;refine⟨u,g1,?_⟩;rcases g2 with g2 | ⟨a,b,g3,rfl,rfl⟩
    .exact g2.bK hI hu
    .have N:a<j:=zg;show dR eQ (m.n+j) c _ (.var (m.n+a));unfold dR dL;grind)
   have xB:P.look v m.sr.tr=none:=Je hw;have YW:=B.size;have hDj:∀ b,c.heap.size<=b->D b:=yH;have aYq:(C.map fun b=>Value.iface 87 (pp b))=mM eQ (a1W m.n j):=by
    apply a2F;grind
   have aOb:qp eQ (m.n+j) c (mM eQ (a1W m.n j)) ((a1W m.n j).map .var):=(by grind [afU,List.mem_range']);have agl:dR eQ (m.n+j) c (aj 175 (pp w.heap.size)) (.comp i.name ((a1W m.n j).map .var)):=by
    unfold dR dL;exact⟨w.heap.size,sw,mM eQ (a1W m.n j),J,trivial,gN,by grind [UF],aOb⟩
   have dj:eu (.comp i.name ((a1W m.n j).map .var)):=by
    unfold eu;exact⟨mU,by simp;omega,P.afV _⟩
   have q:=aoA h2.less Dp (h2.dn hDj) (i:=v) zg xB zg agl dj FE;rw[hu.2 v QU] at q;refine a1a q ?_;rintro en w3 ⟨rfl,eK,tv3,gT⟩;obtain⟨h3,aYr⟩:=h2.store gT eK;refine bG ?_;rw[tP] at hr;subst hr;exact hR _ _ ⟨(di.eo hEg).trans yF,J,eQ,hu,_,_,_,_,_,h3⟩
end
open Go.Proofs.YtoegidfbnkaabaaGreatDoor.Sx
section
variable{p0 p1 p2 p3 p4 p5 p6 p7:Y}{w:Z}{R:Ending->Z->Prop}
def aOc:=cz w R [p0,p1] (gc [] [] []) func71
def aOd:=cz w R [p0,p1,p2] (gc [(2,[13])] [] [14]) func108
def oP(p0 p1:Y)(w:Z)(R:Ending->Z->Prop):Prop:=
 NC p0 fun t=>
 RD bbr (a1Y 196 t 1) w (fun u=>
 RD bbr (a1p 194 u) w (fun X9=>
 RD bbr (a2O #[194] 3 #[X9]) w (fun x=>
 Pm (fun rec s d w1=>
  RD bbr (bo .lss 3 (.tmp 18) (.tmp 17) (s 18) x) w1 (fun y=>
  BS y (RD bbr (a2N 194 X9 (s 18)) w1 (fun z=>
  RD bbr (a1p 198 z) w1 (fun B=>
  WR bbr (Instr.alloc 198 A (ak #[])) w1 (fun e C=>
  WU bbr (a2A 198 e B) C (fun TR=>
  HD fun S=>S TR.drew /\
  vi bbr (a1Y 198 e 0) S (fun D=>
  vi bbr (a1p 9 D) S (fun E=>
  CA bbr 101 #[] TR.drew (fun F r=>
  S r /\
  RD bbr (Instr.lookup 240 F E G) r (fun g=>
  RD bbr (a2O #[98] 3 #[g]) r (fun H=>
  Pm (fun rec_1 a d_1 c=>
   RD bbr (bo .lss 3 (.tmp 27) (.tmp 26) (a 27) H) c (fun I=>
   BS I (RD bbr (a2N 98 g (a 27)) c (fun K=>
   RD bbr (a1p 5 K) c (fun h=>
   JS (fun j=>
    RD bbr (bo .eql 5 (.tmp 31) (.const (.int .u8 115)) h (.int .u8 115)) c (fun i=>
    BS i (j (jv [(32,i)]) c) (RD bbr (bo .eql 5 (.tmp 31) (.const (.int .u8 112)) h (.int .u8 112)) c (fun L=>
    j (jv [(32,L)]) c) (PX R))) (PX R))
    (fun M d_2 b=>
    BS (M 32) (RD bbr (a1Y 198 e 3) b (fun N=>
    RD bbr (a1p 45 N) b (fun P=>
    RD bbr (a2N 45 P (a 7)) b (fun Q=>
    RD bbr (a1p 3 Q) b (fun T=>
    CA bbr 64 #[T] b (fun U W=>
    WR bbr (a2a 39 1 #[(0,U)]) W (fun X aOx=>
    WR bbr (a1H #[39,39] 39 #[(a 6),X]) aOx (fun x43 OT=>
    RD bbr (bo .add 3 (.tmp 44) (.const (.int .i64 1)) (a 7) (.int .i64 1)) OT (fun x45=>
    RD bbr (bo .add 3 (.tmp 27) (.const (.int .i64 1)) (a 27) (.int .i64 1)) OT (fun x83=>
   rec_1 (jv [(6,x43),(7,x45),(27,x83)]) OT) (PX R)) (PX R)) (PX R)) (PX R)) (PC R)) (PX R)) (PX R)) (PX R)) (PX R)) (RD bbr (bo .eql 5 (.tmp 31) (.const (.int .u8 99)) h (.int .u8 99)) b (fun x47=>
    BS x47 (RD bbr (Instr.build 96 #[(1,(.int .i64 9))]) b (fun x48=>
    WR bbr (Instr.box 96 x48) b (fun x49 Mo=>
    RD bbr (Instr.build 103 #[(1,x49)]) Mo (fun x50=>
    WR bbr (Instr.alloc 103 A (ak #[])) Mo (fun TQ Oi=>
    WU bbr (a2A 103 TQ x50) Oi (fun Oj=>
    RD bbr (a1Y 198 e 2) Oj (fun x51=>
    RD bbr (a1p 89 x51) Oj (fun x52=>
    CA bbr 31 #[TQ,x52,(.int .i64 0)] Oj (fun x53 k=>
    RD bbr (a1Y 103 TQ 0) k (fun x55=>
    CA bbr 33 #[x55] k (fun x56 aOH=>
    WR bbr (a2a 39 1 #[(0,x56)]) aOH (fun x57 aOJ=>
    WR bbr (a1H #[39,39] 39 #[(a 6),x57]) aOJ (fun x58 l=>
    RD bbr (bo .add 3 (.tmp 27) (.const (.int .i64 1)) (a 27) (.int .i64 1)) l (fun aOL=>
   rec_1 (jv [(6,x58),(7,(a 7)),(27,aOL)]) l) (PX R)) (PX R)) (PX R)) (PC R)) (PX R)) (PC R)) (PX R)) (PX R)) (PX R)) (PX R)) (PX R)) (PX R)) (PX R)) (RD bbr (bo .eql 5 (.tmp 31) (.const (.int .u8 110)) h (.int .u8 110)) b (fun x60=>
    BS x60 (RD bbr (a1Y 198 e 1) b (fun x62=>
    RD bbr (a1p 9 x62) b (fun x63=>
    WR bbr (a2a 39 1 #[(0,x63)]) b (fun x64 aON=>
    WR bbr (a1H #[39,39] 39 #[(a 6),x64]) aON (fun x65 m=>
    RD bbr (bo .add 3 (.tmp 27) (.const (.int .i64 1)) (a 27) (.int .i64 1)) m (fun aOO=>
   rec_1 (jv [(6,x65),(7,(a 7)),(27,aOO)]) m) (PX R)) (PX R)) (PX R)) (PX R)) (PX R)) (RD bbr (bo .eql 5 (.tmp 31) (.const (.int .u8 42)) h (.int .u8 42)) b (fun x67=>
    BS x67 (RD bbr (a1Y 198 e 3) b (fun x68=>
    RD bbr (a1p 45 x68) b (fun x69=>
    RD bbr (Instr.sliceAt 45 x69 (O (a 7)) V V) b (fun n=>
    RD bbr (a2O #[45] 3 #[n]) b (fun x72=>
    Pm (fun rec_2 o d_3 f=>
     RD bbr (bo .lss 3 (.tmp 73) (.tmp 72) (o 73) x72) f (fun x74=>
     BS x74 (RD bbr (a2N 45 n (o 73)) f (fun T6=>
     RD bbr (a1p 3 T6) f (fun x76=>
     CA bbr 64 #[x76] f (fun x79 aOQ=>
     WR bbr (a2a 39 1 #[(0,x79)]) aOQ (fun x80 aOS=>
     WR bbr (a1H #[39,39] 39 #[(o 6),x80]) aOS (fun x81 p=>
     RD bbr (bo .add 3 (.tmp 73) (.const (.int .i64 1)) (o 73) (.int .i64 1)) p (fun x82=>
     rec_2 (jv [(6,x81),(73,x82)]) p) (PX R)) (PX R)) (PX R)) (PC R)) (PX R)) (PX R)) (RD bbr (bo .add 3 (.tmp 27) (.const (.int .i64 1)) (a 27) (.int .i64 1)) f (fun aOV=>
   rec_1 (jv [(6,(o 6)),(7,(a 7)),(27,aOV)]) f) (PX R))) (PX R))
     (jv [(6,(a 6)),(73,(.int .i64 0))]) b) (PX R)) (PX R)) (PX R)) (PX R)) (RD bbr (bo .add 3 (.tmp 27) (.const (.int .i64 1)) (a 27) (.int .i64 1)) b (fun aOW=>
   rec_1 (jv [(6,(a 6)),(7,(a 7)),(27,aOW)]) b) (PX R))) (PX R))) (PX R))) (PX R)))) (PX R)) (PX R)) (RD bbr (a1Y 198 e 0) c (fun x85=>
  RD bbr (a1p 9 x85) c (fun x86=>
  CA bbr 108 #[p1,x86,(a 6)] c (fun x88 q=>
  RD bbr (bo .add 3 (.tmp 18) (.const (.int .i64 1)) (s 18) (.int .i64 1)) q (fun x89=>
  rec (jv [(18,x89)]) q) (PX R)) (PC R)) (PX R)) (PX R))) (PX R))
   (jv [(6,bX),(7,(.int .i64 0)),(27,(.int .i64 0))]) r) NX) NX) (MN R)))) (PX R)) (PX R)) (PX R)) (PX R)) (R (ah (ak #[])) w1)) (PX R))
  (jv [(18,(.int .i64 0))]) w) (PX R)) (PX R)) (PX R)
def aO0(h:oP p0 p1 w R):Calls bbr 109 #[p0,p1] w R:=
 cq (args:=[p0,p1]) (Fe (zL [(1,[18]),(6,[6,7,27]),(21,[6,73])]) (zO [(10001,[32])]) (fun _=>0) (zO [(5,[0,1,2,5,0,3,4])]) (zL [(1,[]),(6,[]),(21,[])]) (zL [(10001,[])]) (zT [10001]) (zT [19,28,32,33,34,46,47,59,60,66,67,74])) func109 J zk zk h
def aO1:=cz w R [p0,p1,p2] (gd [(3,[14]),(7,[34])] [] [] [(5,[10,0,1,2,3,4,5,6,7,8,9,10])] [] [] [15,35]) func81
def aO2:=cz w R [p0] (gc [] [] []) func70
def aO3:=cz w R [p0,p1,p2] (gc [] [(2000,[30]),(3001,[])] [29,30]) func73
def aO4:=cz w R [p0,p1] (gc [] [(1000,[36]),(2001,[])] [34,35,36]) func72
def aO5:=cz w R [p0,p1] (gc [] [(2000,[19]),(3002,[])] [18,19]) func102
def aO6:=cz w R [] (gc [] [] []) func101
end
