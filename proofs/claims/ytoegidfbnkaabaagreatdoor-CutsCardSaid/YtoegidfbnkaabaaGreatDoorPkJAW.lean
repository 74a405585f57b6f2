/- A part of one proof (KV6, KV7, KV8, KV9, ShX4). -/
import Derived.Test.YtoegidfbnkaabaaGreatDoorPkJAV
set_option linter.all false
set_option maxRecDepth 100000
set_option maxHeartbeats 8000000
open Option renaming some → O, none → V
open Go renaming Value → Y, World → Z
open Bool renaming true → A, false → G
open Go.Obj renaming cells → ae
open Go.Ending renaming returned → ah
open Go.Value renaming nilIface → ai, iface → aj, tuple → ak
open Go.Calls renaming mono → aZJ
open List renaming getElem?_eq_getElem → aZM, getElem_mem → a0a, range' → a0j, replicate → a0m, getElem?_eq_some_iff → a0r, foldl_cons → a0G, take_succ_eq_append_getElem → a06, ext_getElem? → a1j, getElem?_replicate → a1L, take_of_length_le → a1P
open Option.some renaming inj → aZN
open Go.Instr renaming loadAt → aZX, fieldAt → a0w, buildSlice → a0D, storeAt → a05, indexAt → a1d
open Go.Value.slice renaming injEq → aZZ
open Go.Builtin renaming append_ → a0e, len_ → a1e
open Go.Proofs.Tryz renaming prog → a9H
open Go.Proofs.Tryz
namespace Go.Proofs.YtoegidfbnkaabaaGreatDoor
open P
open Go.RowKit Sx
variable{d f g k n o pb pc:Nat}{o4 v vv:Y}{r:Except jB (Bool×Vm)}{sX:Nat->Nat}{iB:Array Y}{xs:List Y}
def Bm(D:Nat->Prop)(ρ:Nat->Nat)(vb cb fm:Nat)(w:Z)(m:Vm):Prop:=∃ φ ψ av tv di,fZ D ρ ⟨φ,ψ,vb,cb,fm⟩ av tv di w m
def P.TO(m:Vm)(rest:List Co)(args:List Sl)(f pc:Nat):List Ga:=match rest with | []=>[] | _=>[⟨m.sr.tr.length,f,pc,rest,args⟩]
section
variable{D:Nat->Prop}{ρ:Nat->Nat}{e:Aq}{av tv:Y}{di:List Y}{w w':Z}{m:Vm}
theorem xQ.sl{l:List Sl}(h:xQ D ρ n sX pb w v l):∃ a c,v = .slice a l.length c:=by
 rcases h with⟨rfl,rfl⟩| ⟨b,cap,row,rfl,-⟩<;>exact⟨_,_,J⟩
def aoW(h:fZ D ρ e av tv di w m)(hD:∀ b,w.heap.size<=b->D b){l:List Co}{args:List Sl}{m':Vm}(hl:nY w 185 vv xs)(hc:Bk w xs l)
  (ha:xQ D ρ m.n e.ψ m.fs.length w o4 args) (hf:f<m.fs.length) (hn:n<=m.bw.length) (lC:m.bw.length<=900000000) (iH:∀ c∈l,c.slots<=64) (Gm:args.length<=60) (hr:m.enter l args f pc n=O m') :
  Calls a9H 209 #[pp e.vb,vv,o4,pp (e.φ f),zi (pc:Nat),zi (n:Nat)] w fun en w'=>en = ah (ak #[])/\dc D w w'/\Bm D ρ e.vb e.cb e.fm w' m':=by
 cases l with
 | nil=>cases hr
 | cons c rest=>
 have hr:({ m with bw:=m.bw.take n++P.TO m rest args f pc,fs:=m.fs++[⟨c,args++a0m (max c.slots args.length-args.length) .nil,n,O f,pc,G⟩],f:=m.fs.length,pc:=0 }:Vm)=m':=aZN hr;subst hr;obtain⟨C,O8,uW⟩:=hc.2 0 c J;have tS:xs.length=rest.length+1:=by have:=hc.1;omega
 obtain⟨lb,lo,To,lcs,rfl,VQ,qz,aJR⟩:=hl.at (j:=0) zo;rw[Nat.add_zero,O8] at qz;obtain⟨E,ac,gw⟩:=gV h.ar;have c0:=h.cell;have lv0:=bg c0;obtain⟨Pt,TP⟩:=PJ (by rw[gw] at h;exact h.ar:w.ownsRow 0 342 5 (.slice E m.bw.length ac) m.bw.length di);obtain⟨ga,gc,N⟩:=ha.sl;have uz:(n:Int)<=(ac:Nat):=zo;suffices H:∀ R:Ending->Z->Prop,(∀ w',dc D w w'->Bm D ρ e.vb e.cb e.fm w' ({ m with bw:=m.bw.take n++P.TO m rest args f pc,fs:=m.fs++[⟨c,args++a0m (max c.slots args.length-args.length) .nil,n,O f,pc,G⟩],f:=m.fs.length,pc:=0 }:Vm)->R (ah (ak #[])) w') ->
   Calls a9H 209 #[pp e.vb,.slice (O ⟨lb,lo,V⟩) xs.length To,o4,pp (e.φ f),zi (pc:Nat),zi (n:Nat)] w R from H _ yF
 intro R hR;refine aL3 ?_;refine iZ @c0 gw TP ?_;have X5:(n:Int).toNat=n:=zo;try rw[X5]
 obtain⟨w1,jK⟩:=cd (bO w e.vb (ae #[pp e.cb,tv,zi (m.sr.fuel:Nat),pp (e.φ m.f),zi (m.pc:Nat),.slice E n ac] 116));obtain⟨h1,dB,hJ1⟩:=h.forget hn gw jK;have XP:bO w e.vb (ae (oF #[pp e.cb,tv,zi (m.sr.fuel:Nat),pp (e.φ m.f),zi (m.pc:Nat),.slice E m.bw.length ac] 5 (Value.slice E n ac).cells.toList) 116 (0,0))=w1:=jK.symm;rw[XP];have c1:w1.heap[e.vb]?=aM #[pp e.cb,tv,zi (m.sr.fuel:Nat),pp (e.φ m.f),zi (m.pc:Nat),.slice E n ac] 116:=h1.cell;clear XP jK;have lv1:=bg c1;have s1:=dB.size;refine⟨fun _ w'=>∃ av' avs',fZ D ρ e av' tv avs' w' { m with bw:=m.bw.take n++P.TO m rest args f pc }/\dc D w w'/\pF w w',?_,?_⟩
 .cases rest with
  | nil=>
   have DZ:¬ (xs.length:Int) > 1:=zg;refine cH DZ ?_;grind [P.TO]
  | cons c2 rest=>
   have DZ:(xs.length:Int) > 1:=zg;refine cH DZ ?_;have dC:Ext w1 w1.drew:=yF;refine⟨fun w'=>w'.heap[e.vb]?=w1.heap[e.vb]?,J,?_⟩;rw[ju];refine cO (pq e.vb 5) (fun w' g=>eR) ?_;refine cO (.slice E n ac) (fun w' g=>by rw[c1] at g;have:=bg g;exact fa g) ?_;rw[ju];refine cO (pq e.vb 1) (fun w' g=>eR) ?_;obtain⟨v2,i,rfl⟩:∃ v2 i,xs=v2::i:=by cases xs with | nil=>grind | cons a b=>grind
   have aWy:i.length=rest.length+1:=zg;have PK:nY w 185 (sliced (O ⟨lb,lo,V⟩) 1 (i.length+1) To 1) i:=hl.tail zg;obtain⟨S,T,yR⟩:∃ S T,sliced (O ⟨lb,lo,V⟩) 1 (i.length+1) To 1 = .slice S i.length T:=⟨_,_,J⟩;rw[yR] at PK;have aeZ:(1:Int)<=(((v2::i).length:Nat):Int):=zo;refine cO (.slice S i.length T) (fun w' g=>fa yR) ?_;refine aZJ (SY (h1.ext dC).st Cx) ?_;rintro en w2 ⟨rfl,rfl⟩;refine⟨J,?_⟩;rw[N];refine bE ?_;obtain⟨l0,U⟩:∃ l0:List Y,l0=[zi (m.sr.tr.length:Nat),pp (e.φ f),zi (pc:Nat),.slice S i.length T,o4]:=⟨_,J⟩;obtain⟨w2,jR⟩:=cd (w1.drew.alloc (ae l0.toArray 342 (0,0)));have W:Ext w1 w2:=yF;have g2:w2.heap[w1.heap.size]?=aM l0.toArray 342:=yH;have s2:w2.heap.size=w1.heap.size+1:=yH;rw[U,N] at jR;rw[<- jR];have z:=h1.ext W;have q2:w2.heap[e.vb]?=aM #[pp e.cb,tv,zi (m.sr.fuel:Nat),pp (e.φ m.f),zi (m.pc:Nat),.slice E n ac] 116:=z.cell;have yQ:(m.bw.take n).length=n:=zg;have t:pF w w2:=hJ1.trans (pF.dZ W);refine aoV z.ar g2 zg (by rw[U,N];intro u hu;simp only[List.mem_cons,List.not_mem_nil,or_false] at hu;rcases hu with rfl | rfl | rfl | rfl | rfl<;>rfl) zg zo ?_;intro v' w3 Kt AY DT;obtain⟨p3,d3,e3⟩:=gV Kt;subst e3;have KZ:mU D ρ m.n e.φ e.ψ m.fs.length w2 l0 [⟨m.sr.tr.length,f,pc,c2::rest,args⟩]:=by
    refine⟨.slice S i.length T,o4,i,[],zg,hf,PK.bH fun b cs hb=>t.1 b cs _ (yM) hb,?_,ha.bH t.1 t.toR (eg.refl _ _) (xP.refl e.φ _ _) yH,J⟩;exact Bk.bH t.1 (Bk.tail hc)
   obtain⟨k,F⟩:=cd (bO w3 e.vb (ae #[pp e.cb,tv,zi (m.sr.fuel:Nat),pp (e.φ m.f),zi (m.pc:Nat),.slice p3 ((m.bw.take n).length+1) d3] 116));obtain⟨r1,r2,r3,r4⟩:=z.KI (l:=m.bw.take n++[⟨m.sr.tr.length,f,pc,c2::rest,args⟩]) zg AY yH (z.ag.snoc KZ) F;have c3:=r4.trans q2;refine⟨yH,?_⟩;refine cH @c3 ?_;have KU:bO w3 e.vb (ae (oF #[pp e.cb,tv,zi (m.sr.fuel:Nat),pp (e.φ m.f),zi (m.pc:Nat),.slice E n ac] 5 (Value.slice p3 ((m.bw.take n).length+1) d3).cells.toList) 116 (0,0))=k:=F.symm;first | rw[KU] | rw[<- F]
   exact⟨_,_,r1,dB.trans ((dc.dZ W).trans r2),t.trans r3⟩
 .rintro s w2 ⟨B,PL,z,W,t⟩ d;clear d;have s2:=W.size;have I:=t.1 _ _ _ (yM) VQ;obtain⟨insv,gS,wK⟩:=id uW;have Ku:=t.1 _ _ _ (yM) gS;have c2:w2.heap[e.vb]?=aM #[pp e.cb,tv,zi (m.sr.fuel:Nat),pp (e.φ m.f),zi (m.pc:Nat),B] 116:=z.cell;obtain⟨ba,bc,mn⟩:∃ a c,B = .slice a (m.bw.take n++P.TO m rest args f pc).length c:=gV z.ar;have hlp:(0:Int)<(xs.length:Int):=zo;have hsc:c.slots<=64:=zg;obtain⟨M,hM⟩:=cd (max c.slots args.length);have Ns:args.length<=M:=zo;have hMb:M<=1000000:=zo;have hmx:(if (args.length:Int) > (c.slots:Int) then(args.length:Int) else(c.slots:Int))=(M:Int):=zo;rw[N];refine⟨fun w'=>w'.heap[lb]?=w2.heap[lb]?/\w'.heap[C]?=w2.heap[C]?,yH,?_⟩;refine cO (pq lb lo) (fun w' g=>eR) ?_;refine cO (pp C) (fun w' g=>by have x:=g.1;rw[I] at x;have:=bg x;exact lP x qz) ?_;refine cO (pq lb lo) (fun w' g=>eR) ?_;refine cO (pp C) (fun w' g=>by have x:=g.1;rw[I] at x;have:=bg x;exact lP x qz) ?_;rw[ju];refine cO (pp C) (fun w' g=>eR) ?_;refine cO (zi (c.slots:Nat)) (fun w' g=>by have x:=g.2;rw[Ku] at x;have:=bg x;exact fa x) ?_;refine cO (zi (args.length:Nat)) (fun w' g=>eR) ?_;refine cO (zi (M:Nat)) (fun w' g=>by rw[awf,hmx]) ?_;refine bE ?_;have l2:=bg c2;have llb:=bg I;have XC:=bg Ku;obtain⟨wr,NB⟩:=cd (w2.drew.alloc (ae (madeCells #[ai] M) 20 (0,0)));obtain⟨w3,rR⟩:=cd (wr.alloc (ae #[pp C,cR w2.heap.size M M,zi (n:Nat),pp (e.φ f),zi (pc:Nat)] 203));have aWC:Ext w2 wr:=yF;have TB:Ext w2 w3:=yF;have sr:wr.heap.size=w2.heap.size+1:=yH;have s3:w3.heap.size=w2.heap.size+2:=yH;have Tp:(madeCells #[Value.nilIface] M).size=M:=size_madeCells ..;obtain⟨Q,mh⟩:=cd (madeCells #[Value.nilIface] M);have hr3:w3.heap[w2.heap.size]?=aM Q 20:=yH;have dU:w3.heap[w2.heap.size+1]?=aM #[pp C,cR w2.heap.size M M,zi (n:Nat),pp (e.φ f),zi (pc:Nat)] 203:=yH;have c3:=TB.ext _ _ c2;have l3:=bg c3;rw[<- NB,<- rR];rw[<- mh] at Tp;refine⟨yH,yH,?_⟩;clear NB rR;replace c3:=c3.trans c2.symm;refine du @c2 dU ?_;obtain⟨k,F⟩:=cd (bO w3 e.vb (ae #[pp e.cb,tv,zi (m.sr.fuel:Nat),pp (w2.heap.size+1),zi (m.pc:Nat),B] 116));have KU:bO w3 e.vb (ae (oF #[pp e.cb,tv,zi (m.sr.fuel:Nat),pp (e.φ m.f),zi (m.pc:Nat),B] 3 (Value.pointer (O ⟨w2.heap.size+1,0,V⟩)).cells.toList) 116 (0,0))=k:=F.symm;first | rw[KU] | rw[<- F]
  have aoY:w2.heap.size≠e.vb:=zo;have X:w2.heap.size+1≠e.vb:=zo;have GU:k.heap[w2.heap.size]?=aM Q 20:=yH;have c4:k.heap[e.vb]?=aM #[pp e.cb,tv,zi (m.sr.fuel:Nat),pp (w2.heap.size+1),zi (m.pc:Nat),B] 116:=yH;have ao0:bB (fun b _=>b=e.vb) w2 k:=yF;have eo:k.heap[w2.heap.size+1]?=_:=(by rw[F,iY X]:k.heap[w2.heap.size+1]?=w3.heap[w2.heap.size+1]?).trans dU;have s4:k.heap.size=w2.heap.size+2:=yH;clear KU F;have H0:∀ (p:Z) (row:Array Y),bB (fun b _=>b=w2.heap.size) k p->p.heap[w2.heap.size]?=aM row 20->row.size=M->(∀ (ww:Z),pF w2 ww->Cw ρ m.n ww row (args++a0m (M-args.length) .nil)) ->
    NC (pp e.vb) fun x74=>RD a9H (a0w 116 x74 3) p (fun S2=>WU a9H (a05 3 S2 (zi 0)) p (fun q=>R (ah (ak #[])) q) (PX R)) (PX R):=by
   intro p row Xq Qh IT aMj;have c5:p.heap[e.vb]?=_:=Xq.block _ _ c4 (fun e=>aoY e.symm);have l5:=bg c5;refine cH @c5 ?_;obtain⟨q,oP⟩:=cd (bO p e.vb (ae #[pp e.cb,tv,zi (m.sr.fuel:Nat),pp (w2.heap.size+1),zi ((0:Nat):Int),B] 116));have aMk:bO p e.vb (ae (oF #[pp e.cb,tv,zi (m.sr.fuel:Nat),pp (w2.heap.size+1),zi (m.pc:Nat),B] 4 (Value.int .i64 0).cells.toList) 116 (0,0))=q:=oP.symm;first | rw[aMk] | skip
   have c6:q.heap[e.vb]?=aM #[pp e.cb,tv,zi (m.sr.fuel:Nat),pp (w2.heap.size+1),zi ((0:Nat):Int),B] 116:=yH;have r6:q.heap[w2.heap.size]?=aM row 20:=yH;have f6:q.heap[w2.heap.size+1]?=_:=(by rw[oP,iY X]:q.heap[w2.heap.size+1]?=p.heap[w2.heap.size+1]?).trans (Xq.block _ _ eo zo);have ao1:bB (fun b _=>b=e.vb) w2 q:=by
    have Dl:bB (fun b _=>b=e.vb\/w2.heap.size<=b) w2 p:=(bB.mono ao0 fun _ _ _ h=>Or.inl h).trans (by grind [bB.mono]);rw[oP];refine bB.mono (Dl.bO (.inl fun _=>.inl J)) fun b o hb h=>?_;grind
   have aMl:dc D w2 q:=bB.mono ao1 fun b o ho e=>by
    subst e;rw[c2] at ho;exact⟨z.st.ds,_,_,_,(aZN ho).symm,.inr (.inr (.inr (.inr (.inl J))))⟩
   have ao4:pF w2 q:=⟨aMl.toI,(by grind [bB.block])⟩;have hlen:(args++a0m (M-args.length) Sl.nil).length=M:=zg;obtain⟨uo,rz,g1,g2⟩:=z.aMe yH ao1 (fb:=w2.heap.size+1) (rb:=w2.heap.size) (cb:=C) (c:=c) (slots:=args++a0m (M-args.length) .nil) (row:=row) (n:=n) (f:=f) (pc:=pc) zo zo
    (by rw[hlen];exact f6) (uW.bH (t.1.trans ao4.1)) r6 (by rw[hlen];exact IT) (aMj q ao4) hf c6
   rw[hM] at g1;have kK:=hR q yF ⟨uo,rz,B,tv,PL,g1⟩;exact yH
  have X6:∀ (j:Nat) (y:Sl),(a0m M Sl.nil)[j]?=O y->Q[j]?=O ai/\y = .nil:=fun j y r=>by
   have TQ:j<M:=zg;rw[a1L,zip TQ] at r;refine⟨?_,zg⟩;have:=aor ai M j TQ;grind
  rcases ha with⟨rfl,TR⟩| ⟨ab,aWD,K,TR,X7,mM,aWE,ao5,-⟩
  .rw[N] at TR;cases TR;rw[show(([]:List Sl).length)=0 from J,aMc];refine H0 k Q yF GU Tp fun ww _ j y r=>?_;obtain⟨h5,rfl⟩:=X6 j y (by simpa using r);exact⟨_,h5,J⟩
  .rw[N] at TR;cases TR;have L:=t.2 _ _ mM;have aMm:=ao0.block _ _ L (fun e=>by
    rw[e,c2] at L;injection L with L;injection L with _ L _;cases L)
   rw[aMd GU aMm zo Ns zo (fun v hv=>?_)]
   rotate_left
   .obtain⟨j,r,rfl⟩:=List.getElem_of_mem hv;rw[List.length_take] at r;have F7:j<args.length:=zo;obtain⟨u,uk,Fe⟩:=ao5 j _ (aZM F7);have:(K.toList.take args.length)[j]=u:=by
     grind
    rw[this];rcases Fe.one with rfl | ⟨_,_,rfl⟩<;>rfl
   .obtain⟨p,nZ⟩:=cd (bO k w2.heap.size (ae (K.toList.take args.length++Q.toList.drop args.length).toArray 20 (0,0)));rw[<- nZ];refine H0 p (K.toList.take args.length++Q.toList.drop args.length).toArray (yF) (yH) zg fun ww hJw j y r=>?_;by_cases fw:j<args.length
    .rw[List.getElem?_append_left fw] at r;obtain⟨u,uk,Fe⟩:=ao5 j y r;refine⟨u,?_,Fe.bH (t.1.trans hJw.1) (eg.refl _ _)⟩;grind
    .rw[List.getElem?_append_right zo] at r;obtain⟨h5,rfl⟩:=X6 j y (by
      have:j-args.length<M-args.length:=by
       have:=(a0r.1 r).1;simpa using this
      rw[a1L,zip this] at r;rw[a1L,zip zo];exact r)
     refine⟨_,?_,J⟩;grind
end
def ae4{w:Z}{x y:Operand}{K:Y->Prop}{X:Y->Z->Prop}(a:Option Addr)(n c:Nat):RD a9H (bo .eql 192 x y (.slice a n c) bV) w K X=K (.bool a.isNone):=
 gU (by cases a<;>kernel_rfl)
section
variable{D:Nat->Prop}{ρ:Nat->Nat}{e:Aq}{av tv:Y}{di:List Y}{w w':Z}{m:Vm}
def fZ.place(h:fZ D ρ e av tv di w m)(hm:k<m.bw.length):∃ g ac cur a b fV,av = cR g m.bw.length ac/\m.bw.length<=ac/\w.heap[g]?=aM cur 342/\cur.size=ac*5 /\
  cur[k*5]?=O (zi ((m.bw[k]).mark:Nat))/\cur[k*5+1]?=O (pp (e.φ (m.bw[k]).f))/\cur[k*5+2]?=O (zi ((m.bw[k]).pc:Nat))/\cur[k*5+3]?=O a/\cur[k*5+4]?=O b /\
  (m.bw[k]).f<m.fs.length/\nY w 185 a fV/\Bk w fV (m.bw[k]).others/\xQ D ρ m.n e.ψ m.fs.length w b (m.bw[k]).args:=by
 obtain⟨a,b,fV,q,g2,g3,g4,g5⟩:=h.ag.at k hm;rcases h.ar.2 with⟨-,c⟩| ⟨g,cap,cur,d,c,i,l,r,o,s⟩
 .exact yH
 .have p:∀ j,j<5->cur[k*5+j]?=[Value.int .i64 ((m.bw[k]).mark:Nat),pp (e.φ (m.bw[k]).f),zi ((m.bw[k]).pc:Nat),a,b][j]?:=zg;exact⟨g,cap,cur,a,b,fV,d,l,i,o,p 0 zo,zg,zg,zg,zg,g2,g3,g4,g5⟩
def ao6(h:fZ D ρ e av tv di w m)(hD:∀ b,w.heap.size<=b->D b)(vU:∀ a∈m.bw,a.mark<=m.sr.tr.length/\(∀ c∈a.others,c.slots<=64)/\a.args.length<=60)(ER:m.sr.tr.length<=900000000)(lC:m.bw.length<=900000000)
  {p:Bool×Vm} (hr:m.back=O p) :
  Calls a9H 206 #[pp e.vb] w fun E w'=>dc D w w'/\E = ah (.bool p.1)/\Bm D ρ e.vb e.cb e.fm w' p.2:=by
 suffices H:∀ R:Ending->Z->Prop,(∀ w',dc D w w'->Bm D ρ e.vb e.cb e.fm w' p.2->R (ah (.bool p.1)) w')->Calls a9H 206 #[pp e.vb] w R from
  H _ yF
 intro R q;have r:=h.cell;have l1:=bg r;obtain⟨aa,ac,d⟩:=gV h.ar;refine aL2 ?_;unfold Vm.back at hr;by_cases hle:m.bw.length=0
 .have hlt:(m.bw.length:Int)-1<0:=zo;rw[List.eq_nil_of_length_eq_zero hle] at hr;cases hr;refine iZ @r d hlt ?_;exact q _ yF ⟨_,_,_,_,_,h⟩
 have hlt:¬ (m.bw.length:Int)-1<0:=zo;obtain⟨k,hm⟩:∃ k,m.bw.length=k+1:=⟨m.bw.length-1,zo⟩;have i:k<m.bw.length:=zo;have PV:m.bw.getLast?=O m.bw[k]:=zg;rw[PV] at hr;simp only at hr;obtain⟨g,ac',cur,Q,wu,fV,F,e2,I,jm,q0,q1,q2,q3,q4,i1,i2,i3,i4⟩:=h.place i;rw[d] at F;simp only[aZZ,true_and] at F;obtain⟨rfl,rfl⟩:=F;have lg:=bg I;have K:(m.bw.length:Int)-1=(k:Nat):=zo;have j:((k:Nat):Int).toNat=k:=zo;refine du @r d ?_;rw[K] at hlt ⊢;obtain⟨u3,u4,u5⟩:=vU m.bw[k] (a0a i);have s:Ext w w.drew:=yF;refine dH hlt @r d (zA @j (zA I @q0)) ?_;refine aZJ (adw (h.ext s).less Cx u3 ER) ?_;rintro E w2 ⟨rfl,L,M,me⟩;have Cz:pF w w2:=(pF.dZ s).trans (Dn.aoQ L);have t:w2.heap[g]?=aM cur 342:=L.block _ _ I (by rintro ⟨⟨-,u,-⟩,-⟩;rw[d] at u;exact u J);obtain⟨x,Tb⟩:=(h.ext s).store me L;have S:dc D w w2:=(dc.dZ s).trans Tb;have c2:w2.heap[e.vb]?=aM #[pp e.cb,M,zi (m.sr.fuel:Nat),pp (e.φ m.f),zi (m.pc:Nat),av] 116:=x.cell;rw[d] at c2;have l2:=bg c2;have s2:=S.size;obtain⟨ga,gc,T⟩:=i4.sl;obtain⟨XB,cvn,Tq,y⟩:∃ a n c,Q = .slice a n c:=by
  rcases i2 with⟨-,rfl⟩| ⟨b,o,cap,cs,rfl,-⟩<;>exact zg
 have N:=q3;have U:=q4;rw[y] at N;rw[T] at U;refine iZ t @N @ae4 ?_;have z:Ext w2 w2.drew:=yF;have hsr:(⟨m.n,m.sr.iD (m.bw[k]).mark,m.fs,m.f,m.pc,m.bw⟩:Vm)={ m with sr:=m.sr.iD (m.bw[k]).mark }:=rfl;by_cases xm:(m.bw[k]).others=[]
 .have:fV=[]:=by have:=i3.1;grind
  subst this;have W:Q = bV:=by
   rcases i2 with⟨-,h⟩| ⟨b,o,cap,cs,-,-,-,-,h⟩<;>grind
  rw[y] at W;cases W;simp only[xm] at hr;cases hr;refine bE ?_;refine⟨fun w'=>w'.heap[g]?=w2.heap[g]?,J,?_⟩;rw[ju];refine cO (pq g (k*5+1)) (fun w' B=>fa @j) ?_;refine cO (pp (e.φ (m.bw[k]).f)) (fun w' B=>by rw[t] at B;have:=bg B;exact FU B @q1 @j) ?_;have Qi:((k:Nat):Int)<=(ac:Nat):=zo;obtain⟨Pt,TP⟩:=PJ (by have:=x.ar;grind:w2.ownsRow 0 342 5 (cR g m.bw.length ac) m.bw.length di);refine dH t @q2 @c2 (zA @j TP) ?_;have aWG:g≠e.vb:=zg;obtain⟨w3,X⟩:=cd (bO w2.drew e.vb (ae #[pp e.cb,M,zi (m.sr.fuel:Nat),pp (e.φ (m.bw[k]).f),zi ((m.bw[k]).pc:Nat),av] 116 (0,0)));obtain⟨P,eD⟩:=(x.ext z).own (w':=w3) (f':=(m.bw[k]).f) (pc':=(m.bw[k]).pc) (yF) (by rw[X];exact pS J l2) i1;obtain⟨w4,jl⟩:=cd (bO w2.drew e.vb (ae #[pp e.cb,M,zi (m.sr.fuel:Nat),pp (e.φ (m.bw[k]).f),zi ((m.bw[k]).pc:Nat),cR g k ac] 116 (0,0)));obtain⟨h4,gW,-⟩:=P.forget (k:=k) (w1:=w4) zg d (by rw[X,Rt,jl];rfl);have LK:m.bw.dropLast=m.bw.take k:=by grind [List.dropLast_eq_take,Nat.add_sub_cancel]
  rw[LK] at q;rw[<- jl];refine⟨yH,?_⟩;exact q w4 yF ⟨_,_,_,_,_,h4⟩
 .have jI:fV≠[]:=by
   rintro rfl;have:=i3.1;grind
  obtain⟨cb,co,aKr,ccs,KP,gS,-,-,-⟩:=i2.resolve_left zg;rw[y] at KP;cases KP;obtain⟨m',pj,rfl⟩:∃ m',({ m with sr:=m.sr.iD (m.bw[k]).mark }:Vm).enter (m.bw[k]).others (m.bw[k]).args (m.bw[k]).f (m.bw[k]).pc k=O m'/\p=(A,m'):=by
   grind
  refine dH @Option.isNone_some.{0} t @q1 (zA @q2 (zA @N (zA @U @j))) ?_;have C:pF w w2.drew:=Cz.trans (pF.dZ z);rw[y] at i2;rw[T] at i4;refine aZJ (aoW (x.ext z) yH (l:=(m.bw[k]).others) (args:=(m.bw[k]).args) (f:=(m.bw[k]).f) (pc:=(m.bw[k]).pc) (n:=k) (m':=m') (i2.bH fun b cs u=>C.1 _ _ _ (yM) u) (i3.bH C.1)
   (i4.bH C.1 C.toR (eg.refl _ _) (xP.refl e.φ _ _) yH) i1 zg lC u4 u5 pj) ?_
  rintro E w3 ⟨rfl,eD,P⟩;refine bE ?_;exact q w3 (S.trans ((dc.dZ z).trans eD)) P
end
def P.ao8{m:Vm}{x:Fm}(hx:m.fs[m.f]?=O x)(k:Nat)(y:Sl):m.set k y={ m with fs:=m.fs.set m.f { x with slots:=x.slots.set k y } }:=by
 unfold Vm.set
 congr 1
 apply a1j;grind
def P.ae5(g:Nat->Nat->Sl):∀ (L:List (Nat×Nat)) {m:Vm} {x:Fm},m.fs[m.f]?=O x->L.foldl (fun m p=>m.set p.1 (g m.n p.2)) m={ m with fs:=m.fs.set m.f { x with slots:=L.foldl (fun s p=>s.set p.1 (g m.n p.2)) x.slots } }
 | [],m,x,hx=>by
  simp only[List.foldl_nil];have:m.fs.set m.f { x with slots:=x.slots }=m.fs:=by
   apply a1j;grind
  rw[this]
 | p::L,m,x,hx=>by
  have a:m.f<m.fs.length:=zg;rw[a0G,P.ao8 hx,P.ae5 g L (x:={ x with slots:=x.slots.set p.1 (g m.n p.2) }) zg];grind [List.set_set]
def P.ao9:∀ (L:List (Nat×Tm)) {m:Vm} {x:Fm},m.fs[m.f]?=O x->L.foldl (fun m p=>m.set p.1 (.term p.2)) m={ m with fs:=m.fs.set m.f { x with slots:=L.foldl (fun s p=>s.set p.1 (.term p.2)) x.slots } }
 | [],m,x,hx=>by
  have:=P.ae5 (fun _ _=>.nil) [] hx;grind
 | p::L,m,x,hx=>by
  have a:m.f<m.fs.length:=zg;rw[a0G,P.ao8 hx,P.ao9 L (x:={ x with slots:=x.slots.set p.1 (.term p.2) }) zg];grind [List.set_set]
section
variable{D:Nat->Prop}{ρ:Nat->Nat}{e:Aq}{av tv:Y}{di:List Y}{w w':Z}{m:Vm}
def fZ.setRow(h:fZ D ρ e av tv di w m)(k:bB (fun b _=>b=e.ψ m.f) w w'){x:Fm}(hx:m.fs[m.f]?=O x){sl':List Sl}(r:w'.heap[e.ψ m.f]?=aM iB 20)
  (hlen:sl'.length=x.slots.length) (K:iB.size=x.slots.length) (s:Cw ρ m.n w' iB sl'):fZ D ρ e av tv di w' { m with fs:=m.fs.set m.f { x with slots:=sl' } }/\dc D w w':=by
 obtain⟨⟨cb,t,u,y⟩,B,row,C,L,M⟩:=h.fs _ _ hx;have E:Qf 20 w w':=fun b cs T N c=>(by grind [bB.block]);have d:dc D w w':=bB.mono k fun b o l he=>by
  subst he;rw[C] at l;exact⟨h.dp _ h.fl,_,_,_,(aZN l).symm,.inr (.inr (.inr (.inr (.inr (.inr J)))))⟩
 have F:TM e.ψ m.fs.length w w':=fun b cs c hx=>(by grind [bB.block,fl]);have H:(m.fs.set m.f { x with slots:=sl' }).length=m.fs.length:=List.length_set ..;have p:∀ (i:Nat) (z:Fm),(m.fs.set m.f { x with slots:=sl' })[i]?=O z->(i=m.f/\z={ x with slots:=sl' })\/(i≠m.f/\m.fs[i]?=O z):=zg;refine⟨⟨h.st.aeV E zo,zg,fun i z a=>?_,fun i z b a c=>?_,(by grind [dp]),fun i j g P=>h.inj i j zg zg,(by grind [aeU,ar]),?_,h.da⟩,d⟩
 .rcases p i z a with⟨rfl,rfl⟩| ⟨g,a⟩
  .refine⟨⟨cb,?_,u.bH d.toI,y⟩,B,iB,r,zg,s⟩;have:=d.toI _ _ _ (yM) t;exact yH
  .have q:i<m.fs.length:=zg;exact(h.fs i z a).bH d.toI (eg.refl _ _) (xP.refl _ _ _) q (fun b c=>h.bk i _ b a c) fun cs I=>k.block _ _ I fun he=>g (h.inj _ _ q h.fl he)
 .show b<(m.fs.set _ _).length;rw[H];rcases p i z a with⟨rfl,rfl⟩| ⟨g,a⟩
  .exact h.bk _ x b hx c
  .exact h.bk i z b a c
 .have:=h.ag.bH d.toI F (eg.refl _ _) (xP.refl e.φ _ _) yH;grind
def fZ.aMo(h:fZ D ρ e av tv di w m)(hD:∀ b,w.heap.size<=b->D b)(l:Ext w w'){bl:Nat->Nat}(hv:∀ j,j<k->w.heap.size<=bl j/\w'.heap[bl j]?=aM #[ai] 91)
  (u:∀ i j,i<k->j<k->bl i=bl j->i=j) :
  ∃ eG,eg ρ m.n eG (m.n+k)/\(∀ j,j<k->eG (m.n+j)=bl j)/\fZ D eG e av tv di w' { m with n:=m.n+k }:=by
 obtain⟨eG,y⟩:∃ eG:Nat->Nat,eG=fun i=>if i<m.n then ρ i else bl (i-m.n):=⟨_,J⟩
 have hu:eg ρ m.n eG (m.n+k):=⟨zo,zg⟩;have z:∀ j,eG (m.n+j)=bl j:=zg;have hold:∀ i,i<m.n->ρ i<w.heap.size:=fun i d=>by
  obtain⟨r,c,-⟩:=h.st.sv.var i d;exact yH
 have o:=h.st.ext l;have g:∀ i,i<m.n+k->i<m.n\/∃ j,j<k/\i=m.n+j:=fun i d=>by
  by_cases h:i<m.n
  .omega
  .exact .inr ⟨i-m.n,zo,zo⟩
 refine⟨eG,hu,zg,h.rest (pF.dZ l) hu (jJ l.ext h.ar) ?_ h.fl⟩;refine⟨⟨fun i j d x he=>?_,fun i d=>?_⟩,fun i d=>?_,o.cell,?_,h.st.dr,h.st.ds,h.st.nd,fun p f=>Nat.lt_of_lt_of_le (h.st.lt p f) hu.1,h.st.ok⟩
 .rcases g i d with c | ⟨a,c,rfl⟩<;>rcases g j x with q | ⟨b,q,rfl⟩
  .rw[hu.2 i c,hu.2 j q] at he;exact h.st.sv.inj i j c q he
  .grind
  .grind
  grind
 .rcases g i d with c | ⟨a,c,rfl⟩
  .obtain⟨r,g1,g2⟩:=o.sv.var i c;refine⟨r,yH,?_⟩;cases s:P.look i m.sr.tr with
   | none=>grind
   | some t=>rw[s] at g2;exact dI.mono zg hu.1 hu.2 (fun _ _ _ _ _ h=>h) t r g2
  .have s:P.look (m.n+a) m.sr.tr=none:=P.Ps fun hm=>by
    obtain⟨p,f,B⟩:=List.mem_map.1 hm;have:=h.st.lt p f;omega
   exact yH
 .rcases g i d with c | ⟨a,c,rfl⟩
  .rw[hu.2 i c];exact h.st.dv i c
  grind
 .have e:qM eG m.sr.tr=qM ρ m.sr.tr:=by
   unfold qM;refine List.map_congr_left fun p f=>?_;rw[hu.2 p.1 (h.st.lt p (List.mem_reverse.1 f))]
  rw[e];exact o.row
end
abbrev rA(D:Nat->Prop)(ρ:Nat->Nat)(n vb cb fm:Nat)(p:Bool×Vm)(e:Ending)(w':Z):Prop:=
 e = ah (.bool p.1)/\∃ eG,eg ρ n eG p.2.n/\Bm D eG vb cb fm w' p.2
def P.X9(i:P.In)(m:Vm):Option Tm->P.Out (Bool×Vm)
 | none=>V
 | some (.var v)=>let m1:=i.s.tail.zipIdx.foldl (fun m p=>m.set p.1 (.term (.var (m.n+p.2)))) m;O (.ok (A,{ m1 with n:=m.n+i.s.tail.length,sr:=m.sr.bind v (.comp i.name ((a0j m.n i.s.tail.length).map .var)) }))
 | some (.comp name args)=>if name=i.name/\args.length=i.s.length-1 then O (.ok (A,(i.s.tail.zip args).foldl (fun m p=>m.set p.1 (.term p.2)) m)) else O (.ok (G,m))
 | some _=>O (.ok (G,m))
def P.apa(d:Nat)(i:P.In)(m:Vm):P.Out (Bool×Vm):=Ir (m.at i 0) fun t=>P.X9 i m (fG m.sr.tr d t)
def Cw.set{ρ:Nat->Nat}{n:Nat}{w:Z}{row:Array Y}{l:List Sl}(h:Cw ρ n w row l)(d:row.size=l.length)(k:Nat){v:Y}{y:Sl}(e:yW ρ n w v y):Cw ρ n w (row.setIfInBounds k v) (l.set k y):=by
 intro j b a;rw[List.getElem?_set] at a;by_cases c:k=j
 .grind
 .rw[bZ c] at a;obtain⟨u,g1,g2⟩:=h j b a;grind
section
variable{D:Nat->Prop}{ρ:Nat->Nat}{e:Aq}{av tv:Y}{di:List Y}{w w':Z}{m:Vm}
def aMp(h:fZ D ρ e av tv di w m)(hD:∀ b,w.heap.size<=b->D b){x:Fm}(hx:m.fs[m.f]?=O x){i:P.In}(hi:Au w g o i)(h2:2<=i.s.length)(hk:∀ k∈i.s,k<x.slots.length)(vY:i.s.length<=60)(mm:i.name.length<=20)
  (Kp:∀ v,P.look v m.sr.tr=V->v ∉ m.sr.tr.map (·.1)) (ER:m.sr.tr.length<=900000000)
 (hr:P.apa d i m=O r) :
  Calls a9H 212 #[pp e.vb,pq g o] w (EPost D w (rA D ρ m.n e.vb e.cb e.fm) r):=by
 suffices H:∀ R:Ending->Z->Prop,(∀ en w',EPost D w (rA D ρ m.n e.vb e.cb e.fm) r en w'->R en w')->Calls a9H 212 #[pp e.vb,pq g o] w R from H _ fun _ _ h=>h;intro R hR;refine aL4 ?_;unfold P.apa at hr;refine aZJ (X4 h hx hi (k:=0) zo (by grind [a0a]) zo) ?_;rintro en w1 ⟨rfl,hp⟩;have dC:Ext w w.drew:=yF;cases N:m.at i 0 with
 | error t=>
  rw[N] at hr hp;have hr:=(aZN hr);subst hr;have hp:en=gR t:=hp;subst hp;cases t<;>exact hR _ _ ⟨yF,J⟩
 | ok t=>
 rw[N] at hr hp;obtain⟨v,rfl,hv⟩:=hp;have hr:P.X9 i m (fG m.sr.tr d t)=O r:=hr;have hd:=h.ext dC;cases hw:fG m.sr.tr d t with
 | none=>rw[hw] at hr;cases hr
 | some t'=>
 rw[hw] at hr;refine aZJ (GB hd.st.sv hv hw) ?_;rintro en w1 ⟨rfl,u,rfl,hu⟩;have aWI:r = .ok (G,m)->R (ah (.bool G)) w.drew:=fun hr=>by
  subst hr;exact hR _ _ ⟨yF,J,ρ,eg.refl _ _,_,_,_,_,_,hd⟩
 obtain⟨cur,hg,ho,iw,vj,aMq,sv,dX,me⟩:=hi;have qX:=dC.ext _ _ hg;have lgd:=bg qX;obtain⟨nb,wJ,rfl,oJ,-,xn⟩:=KW me (j:=0) zo;cases t' with
 | atom s=>
  unfold dM dI at hu;subst hu;have hr:r = .ok (G,m):=(aZN hr).symm;refine bE ?_;grind
 | int s=>
  unfold dM dI at hu;subst hu;have hr:r = .ok (G,m):=(aZN hr).symm;refine bE ?_;grind
 | comp name args=>
  unfold dM dI at hu;obtain⟨b,av1,vs1,rfl,-,q,iH,kH⟩:=hu;have apb:Ext w w.drew.drew:=yF;have ny:=bB.drew (bB.refl (fun _ _=>False) w.drew) |>.ext _ _ q;have Q:=apb.ext _ _ hg;obtain⟨aa,ac,Ya⟩:=iH.sl;have No:vs1.length=args.length:=kH.length;rw[No] at Ya;subst Ya;have hL:i.s.length-1<=i.s.length:=zo;have Yb:(i.s.length:Int)-1=((i.s.length-1:Nat):Int):=zo;refine bE ?_;refine⟨fun _ w2=>w2=w.drew.drew/\(name=i.name/\args.length=i.s.length-1),?_,?_⟩
  .refine⟨fun s w2=>w2=w.drew.drew/\s 92 = .bool (decide (¬ (name=i.name/\args.length=i.s.length-1))),?_,?_⟩
   .by_cases F:name=i.name
    .subst F;have e9:decide (¬ (args.length:Int)=(i.s.length:Int)-1)=decide (¬ (i.name=i.name/\args.length=i.s.length-1)):=by
      grind
     refine dH ny Q @vj dX ?_;grind
    .have e9:decide (¬ (name=i.name/\args.length=i.s.length-1))=true:=zg;refine dH ny Q @vj (zA dX F) ?_;grind
   .rintro s w2 ⟨rfl,Yc⟩ d2;clear d2;by_cases hc:name=i.name/\args.length=i.s.length-1
    .have e9:decide (¬ (name=i.name/\args.length=i.s.length-1))=false:=zg;rw[e9] at Yc;refine cH Yc ?_;omega
    .have e9:decide (¬ (name=i.name/\args.length=i.s.length-1))=true:=zg;rw[e9] at Yc;refine cH Yc ?_;have hr:r = .ok (G,m):=by
      grind [P.X9]
     subst hr;exact hR _ _ ⟨yF,J,ρ,eg.refl _ _,_,_,_,_,_,h.ext apb⟩
  .rintro s w2 ⟨rfl,hc⟩ d2;clear d2;have hr:r = .ok (A,(i.s.tail.zip args).foldl (fun m p=>m.set p.1 (.term p.2)) m):=by
    grind [P.X9]
   rw[P.ao9 _ hx] at hr;obtain⟨jw,rO⟩:=hc;obtain⟨L,K3⟩:=cd (i.s.length-1);have aeZ:(1:Int)<=(i.s.length:Int):=zo;have yR:sliced (O ⟨nb,0,V⟩) 1 i.s.length wJ.size 1 = .slice (O ⟨nb,1,V⟩) L (wJ.size-1):=by
    unfold sliced;rw[bZ zo,K3];simp [Addr.add]
   obtain⟨⟨CB,iU,-,-⟩,-,qo,mh,Fo,Fp⟩:=h.fs _ _ hx;have hold:∀ {c:Z} {b:Nat} {cs:Array Y} {T:Nat},bB (fun b _=>b=e.ψ m.f) w c->T≠20->w.heap[b]?=aM cs T->c.heap[b]?=aM cs T:=(by grind [bB.block]);have hzl:(i.s.tail.zip args).length=L:=zg;refine iZ Q dX yR ?_;refine⟨fun n z c=>∃ (j:Nat) (row:Array Y),z 99=zi (j:Nat)/\j<=L/\n=L-j/\bB (fun b _=>b=e.ψ m.f) w c/\c.heap[e.ψ m.f]?=aM row 20/\row.size=x.slots.length /\
     Cw ρ m.n w row (((i.s.tail.zip args).take j).foldl (fun s p=>s.set p.1 (.term p.2)) x.slots),⟨_,0,qo,J,Nat.zero_le _,J,yF,yH,Fo,Fp⟩,?_⟩
   intro n z dz c hI;clear dz;refine toPr ?_;obtain⟨j,row,uY,hj,rfl,B,K,IT,S⟩:=hI;have ja:∀ (l:List (Nat×Tm)),(l.foldl (fun s p=>s.set p.1 (Sl.term p.2)) x.slots).length=x.slots.length:=fun l=>by
    suffices ∀ (l:List (Nat×Tm)) (s:List Sl),(l.foldl (fun s p=>s.set p.1 (Sl.term p.2)) s).length=s.length from this l _;intro l;induction l with
    | nil=>grind
    | cons a l ih=>grind
   by_cases hlt:j<L
   .have Cr:(j:Int)<(L:Int):=zo;have jW:(j:Int).toNat=j:=zo;obtain⟨nb',aMt,U,TS,aMu,-⟩:=KW me (j:=j+1) zo;simp only[aZZ,Option.some.injEq,Addr.mk.injEq,and_true,true_and] at U;obtain⟨rfl,U⟩:=U;rw[oJ] at TS;cases TS;obtain⟨ab,acs,AD,-,mM,X7⟩:=iH.at' (j:=j) zo;rw[No] at AD;simp only[aZZ,true_and] at AD;obtain⟨rfl,rfl⟩:=AD;obtain⟨va,hva,KV⟩:=kH.at j zo;rw[hva] at X7;have NG:=hold B zd oJ;have K4:=hold B zd h.cell;have NH:=hold B zd iU;have Yd:=hold B zd q;have aMw:=hold B zd mM;have apd:=bg K;have xR:i.s[j+1]<x.slots.length:=hk _ (a0a _);have oR:((i.s[j+1]:Nat):Int).toNat=i.s[j+1]:=zo;have vz:((i.s[j+1]:Nat):Int)<(x.slots.length:Int):=zo;have Ts:(j:Int)<(args.length:Int):=zo;obtain⟨Kz,xv1,rfl⟩:=KV.iface;have W:wJ[1+j]?=O (zi ((i.s[j+1]:Nat):Int)):=zg;refine dH uY Cr yR (zA NG (zA W (zA @jW (zA K4 (zA NH (zA Yd (zA aMw (zA X7 (zA K @oR))))))))) ?_;refine⟨L-(j+1),zo,j+1,_,zs,zo,J,yF,J,zg,?_⟩;have XF:(i.s.tail.zip args)[j]' zo=(i.s[j+1],args[j]):=zg;rw[a06 zo,List.foldl_append,XF];refine S.set zg _ ?_;exact dI.bH KV (fun _ _ _ _ _ h=>h)
   .have fw:j=L:=zo;subst fw;refine cH uY ?_;rw[a1P zo] at S;obtain⟨r1,r2⟩:=h.setRow B hx (sl':=(i.s.tail.zip args).foldl (fun s p=>s.set p.1 (.term p.2)) x.slots) K (ja _) IT (fun E y I=>by
     obtain⟨u,g1,g2⟩:=S E y I;exact⟨u,g1,g2.bH (fun b cs T hT q=>hold B (fun e=>hT (by rw[e];exact .inl (.inr zg))) q) (eg.refl _ _)⟩)
    subst hr;exact hR _ _ ⟨r2,J,ρ,eg.refl _ _,_,_,_,_,_,r1⟩
 | var v=>
  unfold dM dI at hu;obtain⟨PO,rfl⟩:=hu;have hr:r = .ok (A,{ (i.s.tail.zipIdx.foldl (fun m p=>m.set p.1 (.term (.var (m.n+p.2)))) m) with n:=m.n+i.s.tail.length,sr:=m.sr.bind v (.comp i.name ((a0j m.n i.s.tail.length).map .var)) }):=(aZN hr).symm;rw[P.ae5 (fun n k=>.term (.var (n+k))) _ hx] at hr;obtain⟨L,K3⟩:=cd (i.s.length-1);have sI:i.s.tail.length=L:=zg;have aeZ:(1:Int)<=(i.s.length:Int):=zo;have yR:sliced (O ⟨nb,0,V⟩) 1 i.s.length wJ.size 1 = .slice (O ⟨nb,1,V⟩) L (wJ.size-1):=by
   unfold sliced;rw[bZ zo,K3];simp [Addr.add]
  obtain⟨⟨CB,iU,-,-⟩,-,qo,mh,Fo,Fp⟩:=h.fs _ _ hx;have hold:∀ {c:Z} {b:Nat} {cs:Array Y} {T:Nat},bB (fun b _=>b=e.ψ m.f) w c->T≠20->w.heap[b]?=aM cs T->c.heap[b]?=aM cs T:=(by grind [bB.block]);refine dH qX @vj dX yR ?_;obtain⟨wc,Ye⟩:=cd (w.drew.alloc (ae #[aT i.name,bV] 180));have hEc:Ext w wc:=yF;have sc:wc.heap.size=w.heap.size+1:=yH;have qd:wc.heap[w.heap.size]?=aM #[aT i.name,bV] 180:=yH;rw[<- Ye];try rw[BE]
  have aWN:i.s.tail.zipIdx.length=L:=by grind [List.length_zipIdx]
  refine⟨fun n z c=>∃ (j:Nat) (row:Array Y) (C:List Nat) (rn:Y),z 32=zi (j:Nat)/\j<=L/\n=L-j/\bB (fun b _=>b=e.ψ m.f) w c/\w.heap.size<c.heap.size/\C.length=j /\
    c.heap[w.heap.size]?=aM #[aT i.name,rn] 180/\c.ownsRow (w.heap.size+1) 89 1 rn j (C.map fun b=>aj 87 (pp b)) /\
    (∀ b∈C,w.heap.size<b/\c.heap[b]?=aM #[ai] 91)/\C.Nodup /\
    c.heap[e.ψ m.f]?=aM row 20/\row.size=x.slots.length /\
    ∀ (E:Nat) (y:Sl),((i.s.tail.zipIdx.take j).foldl (fun s p=>s.set p.1 (.term (.var (m.n+p.2)))) x.slots)[E]?=O y->∃ u,row[E]?=O u/\(yW ρ m.n w u y\/∃ a b,C[a]?=O b/\y = .term (.var (m.n+a))/\u = aj 87 (pp b)),
   ⟨_,0,qo,[],bV,J,Nat.zero_le _,J,yF,zo,J,qd,World.ownsRow_nil _ _ _ _,yH,List.nodup_nil,yH,Fo,fun E y hj=>(by obtain⟨u,g1,g2⟩:=Fp E y hj;grind)⟩,?_⟩
  intro n z dz c hI;clear dz;refine toPr ?_;obtain⟨j,row,C,rn,Ck,hj,rfl,B,jm,oK,gS,rB,yS,CX,K,IT,S⟩:=hI;have ja:∀ (l:List (Nat×Nat)),(l.foldl (fun s p=>s.set p.1 (Sl.term (.var (m.n+p.2)))) x.slots).length=x.slots.length:=fun l=>by
   suffices ∀ (l:List (Nat×Nat)) (s:List Sl),(l.foldl (fun s p=>s.set p.1 (Sl.term (.var (m.n+p.2)))) s).length=s.length from this l _;intro l;induction l with
   | nil=>grind
   | cons a l ih=>grind
  by_cases hlt:j<L
  .have Cr:(j:Int)<(L:Int):=zo;have jW:(j:Int).toNat=j:=zo;obtain⟨nb',aMt,U,TS,aMu,-⟩:=KW me (j:=j+1) zo;simp only[aZZ,Option.some.injEq,Addr.mk.injEq,and_true,true_and] at U;obtain⟨rfl,U⟩:=U;rw[oJ] at TS;cases TS;have NG:=hold B zd oJ;have K4:=hold B zd h.cell;have NH:=hold B zd iU;have lc:=bg K4;have lf:=bg NH;have apd:=bg K;have XC:=bg gS;have xR:i.s[j+1]<x.slots.length:=hk _ (a0a _);have oR:((i.s[j+1]:Nat):Int).toNat=i.s[j+1]:=zo;have vz:((i.s[j+1]:Nat):Int)<(x.slots.length:Int):=zo;have W:wJ[1+j]?=O (zi ((i.s[j+1]:Nat):Int)):=zg;obtain⟨pa,pc,Fs⟩:=gV rB;subst Fs;have aoY:e.ψ m.f≠w.heap.size:=zg;refine dH Ck Cr yR (zA NG (zA W (zA @jW (zA K4 (zA NH (zA K (zA @oR gS))))))) ?_;obtain⟨vv,vQ⟩:∃ vv:Y,vv = aj 87 (pp c.heap.size):=⟨_,J⟩;obtain⟨wV,hwV⟩:=cd (c.alloc (ae #[ai] 91));obtain⟨wR,hwR⟩:=cd (bO wV (e.ψ m.f) (ae (row.setIfInBounds i.s[j+1] vv) 20 (0,0)));obtain⟨M,qG⟩:=cd (wR.alloc (ae #[vv] 89));rw[<- vQ,<- hwV,<- hwR,<- qG];have sV:wV.heap.size=c.heap.size+1:=yH;have sR:wR.heap.size=c.heap.size+1:=yH;have sA:M.heap.size=c.heap.size+2:=yH;have hvV:wV.heap[c.heap.size]?=aM #[ai] 91:=yH;have aMx:bB (fun b _=>b=e.ψ m.f) c M:=by
    rw[qG,hwR,hwV];exact(((bB.refl _ _).alloc _).bO (.inl fun _=>rfl)).alloc _
   have hvA:M.heap[c.heap.size]?=aM #[ai] 91:=by
    exact yH
   have hrA:M.heap[e.ψ m.f]?=aM (row.setIfInBounds i.s[j+1] vv) 20:=by
    exact yH
   have hnA:M.heap[c.heap.size+1]?=aM #[vv] 89:=yH;have hcA:M.heap[w.heap.size]?=aM #[aT i.name,.slice pa j pc] 180:=(by grind [bB.block]);have CC:M.ownsRow (w.heap.size+1) 89 1 (.slice pa j pc) j (C.map fun b=>aj 87 (pp b)):=by
    refine⟨rB.1,?_⟩;rcases rB.2 with F | ⟨b,cap,cur,X,g2,g3,g4⟩
    .grind
    .exact .inr ⟨b,cap,cur,X,g2,(by grind [bB.block]),g4⟩
   refine Pz CC hnA (by rw[vQ];rfl) zo zo ?_;intro v' w' sS jx Dx;obtain⟨CD,pc',IV⟩:=gV sS;subst IV;have Mb:∀ {b:Nat} {cs:Array Y} {T:Nat},T≠89->M.heap[b]?=aM cs T->w'.heap[b]?=aM cs T:=fun{b cs T} hT q=>by
    rw[jx.block b (bg q) (fun he=>?_)]
    .omega
    .rcases CC.2 with⟨F,-⟩| ⟨b',cap,cur,X,g2,g3,g4⟩
     .rw[F] at he;cases he
     .rw[X] at he;injection he with he;grind
   have nO:=Mb zd hcA;have lc':=bg nO;have sw':=jx.size;refine du Ck nO ?_;obtain⟨wE,NJ⟩:=cd (bO w' w.heap.size (ae #[aT i.name,.slice CD (j+1) pc'] 180));have afb:bO w' w.heap.size (ae (oF #[aT i.name,.slice pa j pc] 1 (Value.slice CD (j+1) pc').cells.toList) 180 (0,0))=wE:=NJ.symm;first | rw[<- NJ] | rw[afb] | skip
   have hbE:∀ {b:Nat} {cs:Array Y} {T:Nat},T≠180->w'.heap[b]?=aM cs T->wE.heap[b]?=aM cs T:=yH;have hrt:∀ {b:Nat},(∃ cs,c.heap[b]?=aM cs 91)->b≠e.ψ m.f:=yH;refine⟨L-(j+1),zo,j+1,row.setIfInBounds i.s[j+1] vv,C++[c.heap.size],.slice CD (j+1) pc',zs,zo,J,?_,zo,zg,J,?_,?_,?_,yH,zg,?_⟩
   .have IW:=B.trans aMx;rw[NJ];refine⟨jx.os.trans IW.os,jx.tape.trans IW.tape,jx.output.trans IW.output,yH,fun b o q hm=>?_⟩;have lb:=bg q;have hbA:=IW.block _ _ q hm;rw[iY zo,jx.block b zo (fun he=>?_)]
    .omega
    .rcases CC.2 with⟨F,-⟩| ⟨b',cap,cur,X,g2,g3,g4⟩
     .rw[F] at he;cases he
     .rw[X] at he;injection he with he;grind
   .refine⟨by simpa [oK] using sS.1,?_⟩;rw[List.map_append,List.map_singleton];rw[vQ] at sS;rcases sS.2 with F | ⟨b,cap,cur,X,g2,g3,g4⟩
    .omega
    .exact .inr ⟨b,cap,cur,X,g2,yH,g4⟩
   .intro b q;rcases List.mem_append.1 q with q | q
    .obtain⟨g1,g2⟩:=yS b q;exact⟨g1,hbE zo (Mb zo (by grind [bB.block]))⟩
    grind [List.mem_singleton]
   .rw[List.nodup_append];refine⟨CX,zs,fun a N b q=>?_⟩;grind [List.mem_singleton,bg]
   .intro E y I;have XF:i.s.tail.zipIdx[j]' zo=(i.s[j+1],j):=zg;rw[a06 zo,List.foldl_append,XF] at I;simp only[a0G,List.foldl_nil,List.getElem?_set] at I;by_cases BC:i.s[j+1]=E
    .rw[zip BC,zip (by rw[ja];omega)] at I;refine⟨vv,zg,.inr ⟨j,c.heap.size,?_,zg,vQ⟩⟩;grind
    .rw[bZ BC] at I;obtain⟨u,g1,g2⟩:=S E y I;refine⟨u,zg,?_⟩;rcases g2 with g2 | ⟨a,b,g3,g4⟩<;>grind
  .have fw:j=L:=zo;subst fw;refine cH Ck ?_;rw[a1P zo] at S;obtain⟨wg,hwg⟩:=cd (bO c (e.ψ m.f) (ae qo 20 (0,0)));have apd:=bg K;have hEg:Ext w wg:=by
    rw[hwg];refine⟨B.os,B.tape,B.output,yH,fun b o q _=>?_⟩;by_cases he:b=e.ψ m.f
    .exact yH
    grind [iY,bB.block]
   have hrt:∀ {b:Nat},(∃ cs,c.heap[b]?=aM cs 91)->b≠e.ψ m.f:=yH;obtain⟨bl,aWT⟩:∃ bl:Nat->Nat,∀ a b,C[a]?=O b->bl a=b:=⟨fun a=>C.getD a 0,zg⟩;have aMC:∀ a,a<j->∃ b,C[a]?=O b:=fun a N=>⟨_,aZM zo⟩;obtain⟨eG,hu,aWU,F⟩:=h.aMo hD hEg (k:=j) (bl:=bl) (by grind [List.mem_of_getElem?,iY]) (fun a b N q he=>by
    obtain⟨c1,g1⟩:=aMC a N;grind [a0r,List.pairwise_iff_getElem,Nat.lt_trichotomy,absurd])
   have hfg:bB (fun b _=>b=e.ψ m.f) wg c:=by
    rw[hwg];refine⟨J,J,J,yH,fun b o q hm=>?_⟩;exact yH
   have hI:eH w c:=fun b cs T hT q=>hold B (fun e=>hT (by rw[e];exact .inl (.inr zg))) q;obtain⟨h2,dS⟩:=F.setRow hfg hx (sl':=i.s.tail.zipIdx.foldl (fun s p=>s.set p.1 (.term (.var (m.n+p.2)))) x.slots) K (ja _) IT (fun E y I=>by
    obtain⟨u,g1,g2⟩:=S E y I;refine⟨u,g1,?_⟩;rcases g2 with g2 | ⟨a,b,g3,rfl,rfl⟩
    .exact g2.bH hI hu
    .have N:a<j:=zg;show dM eG (m.n+j) c _ (.var (m.n+a));unfold dM dI;grind)
   have vZ:P.look v m.sr.tr=none:=Iq hw;have XS:=B.size;have hDj:∀ b,c.heap.size<=b->D b:=yH;have aWV:(C.map fun b=>Value.iface 87 (pp b))=mG eG (a0j m.n j):=by
    apply a1j;grind
   have aMF:py eG (m.n+j) c (mG eG (a0j m.n j)) ((a0j m.n j).map .var):=(by grind [aeN,List.mem_range']);have afc:dM eG (m.n+j) c (aj 175 (pp w.heap.size)) (.comp i.name ((a0j m.n j).map .var)):=by
    unfold dM dI;exact⟨w.heap.size,rn,mG eG (a0j m.n j),J,trivial,gS,by grind [TG],aMF⟩
   have dx:er (.comp i.name ((a0j m.n j).map .var)):=by
    unfold er;exact⟨mm,by simp;omega,P.aeO _⟩
   have q:=anm h2.less Cx (h2.dn hDj) (i:=v) zg vZ zg afc dx ER;rw[hu.2 v PO] at q;refine aZJ q ?_;rintro en w3 ⟨rfl,eD,tv3,gJ⟩;obtain⟨h3,aWW⟩:=h2.store gJ eD;refine bE ?_;rw[sI] at hr;subst hr;exact hR _ _ ⟨(dc.dZ hEg).trans yF,J,eG,hu,_,_,_,_,_,h3⟩
end
open Go.Proofs.YtoegidfbnkaabaaGreatDoor.Sx
section
variable{p0 p1 p2 p3 p4 p5 p6 p7:Y}{w:Z}{R:Ending->Z->Prop}
def aMG:=cz w R [p0,p1] (gc [] [] []) func71
def aMH:=cz w R [p0,p1,p2] (gc [(2,[13])] [] [14]) func108
def n9(p0 p1:Y)(w:Z)(R:Ending->Z->Prop):Prop:=
 NC p0 fun t=>
 RD a9H (a0w 196 t 1) w (fun u=>
 RD a9H (aZX 194 u) w (fun W7=>
 RD a9H (a1e #[194] 3 #[W7]) w (fun x=>
 Oc (fun rec s d w1=>
  RD a9H (bo .lss 3 (.tmp 18) (.tmp 17) (s 18) x) w1 (fun y=>
  BS y (RD a9H (a1d 194 W7 (s 18)) w1 (fun z=>
  RD a9H (aZX 198 z) w1 (fun B=>
  WR a9H (Instr.alloc 198 A (ak #[])) w1 (fun e C=>
  WU a9H (a05 198 e B) C (fun SR=>
  HD fun S=>S SR.drew /\
  uy a9H (a0w 198 e 0) S (fun D=>
  uy a9H (aZX 9 D) S (fun E=>
  CA a9H 101 #[] SR.drew (fun F r=>
  S r /\
  RD a9H (Instr.lookup 240 F E G) r (fun g=>
  RD a9H (a1e #[98] 3 #[g]) r (fun H=>
  Oc (fun rec_1 a d_1 c=>
   RD a9H (bo .lss 3 (.tmp 27) (.tmp 26) (a 27) H) c (fun I=>
   BS I (RD a9H (a1d 98 g (a 27)) c (fun K=>
   RD a9H (aZX 5 K) c (fun h=>
   JS (fun j=>
    RD a9H (bo .eql 5 (.tmp 31) (.const (.int .u8 115)) h (.int .u8 115)) c (fun i=>
    BS i (j (jd [(32,i)]) c) (RD a9H (bo .eql 5 (.tmp 31) (.const (.int .u8 112)) h (.int .u8 112)) c (fun L=>
    j (jd [(32,L)]) c) (PX R))) (PX R))
    (fun M d_2 b=>
    BS (M 32) (RD a9H (a0w 198 e 3) b (fun N=>
    RD a9H (aZX 45 N) b (fun P=>
    RD a9H (a1d 45 P (a 7)) b (fun Q=>
    RD a9H (aZX 3 Q) b (fun T=>
    CA a9H 64 #[T] b (fun U W=>
    WR a9H (a0D 39 1 #[(0,U)]) W (fun X aM1=>
    WR a9H (a0e #[39,39] 39 #[(a 6),X]) aM1 (fun x43 NK=>
    RD a9H (bo .add 3 (.tmp 44) (.const (.int .i64 1)) (a 7) (.int .i64 1)) NK (fun x45=>
    RD a9H (bo .add 3 (.tmp 27) (.const (.int .i64 1)) (a 27) (.int .i64 1)) NK (fun x83=>
   rec_1 (jd [(6,x43),(7,x45),(27,x83)]) NK) (PX R)) (PX R)) (PX R)) (PX R)) (PC R)) (PX R)) (PX R)) (PX R)) (PX R)) (RD a9H (bo .eql 5 (.tmp 31) (.const (.int .u8 99)) h (.int .u8 99)) b (fun x47=>
    BS x47 (RD a9H (Instr.build 96 #[(1,(.int .i64 9))]) b (fun x48=>
    WR a9H (Instr.box 96 x48) b (fun x49 K5=>
    RD a9H (Instr.build 103 #[(1,x49)]) K5 (fun x50=>
    WR a9H (Instr.alloc 103 A (ak #[])) K5 (fun SQ MY=>
    WU a9H (a05 103 SQ x50) MY (fun MZ=>
    RD a9H (a0w 198 e 2) MZ (fun x51=>
    RD a9H (aZX 89 x51) MZ (fun x52=>
    CA a9H 31 #[SQ,x52,(.int .i64 0)] MZ (fun x53 k=>
    RD a9H (a0w 103 SQ 0) k (fun x55=>
    CA a9H 33 #[x55] k (fun x56 aNb=>
    WR a9H (a0D 39 1 #[(0,x56)]) aNb (fun x57 aNd=>
    WR a9H (a0e #[39,39] 39 #[(a 6),x57]) aNd (fun x58 l=>
    RD a9H (bo .add 3 (.tmp 27) (.const (.int .i64 1)) (a 27) (.int .i64 1)) l (fun aNf=>
   rec_1 (jd [(6,x58),(7,(a 7)),(27,aNf)]) l) (PX R)) (PX R)) (PX R)) (PC R)) (PX R)) (PC R)) (PX R)) (PX R)) (PX R)) (PX R)) (PX R)) (PX R)) (PX R)) (RD a9H (bo .eql 5 (.tmp 31) (.const (.int .u8 110)) h (.int .u8 110)) b (fun x60=>
    BS x60 (RD a9H (a0w 198 e 1) b (fun x62=>
    RD a9H (aZX 9 x62) b (fun x63=>
    WR a9H (a0D 39 1 #[(0,x63)]) b (fun x64 aNh=>
    WR a9H (a0e #[39,39] 39 #[(a 6),x64]) aNh (fun x65 m=>
    RD a9H (bo .add 3 (.tmp 27) (.const (.int .i64 1)) (a 27) (.int .i64 1)) m (fun aNi=>
   rec_1 (jd [(6,x65),(7,(a 7)),(27,aNi)]) m) (PX R)) (PX R)) (PX R)) (PX R)) (PX R)) (RD a9H (bo .eql 5 (.tmp 31) (.const (.int .u8 42)) h (.int .u8 42)) b (fun x67=>
    BS x67 (RD a9H (a0w 198 e 3) b (fun x68=>
    RD a9H (aZX 45 x68) b (fun x69=>
    RD a9H (Instr.sliceAt 45 x69 (O (a 7)) V V) b (fun n=>
    RD a9H (a1e #[45] 3 #[n]) b (fun x72=>
    Oc (fun rec_2 o d_3 f=>
     RD a9H (bo .lss 3 (.tmp 73) (.tmp 72) (o 73) x72) f (fun x74=>
     BS x74 (RD a9H (a1d 45 n (o 73)) f (fun S2=>
     RD a9H (aZX 3 S2) f (fun x76=>
     CA a9H 64 #[x76] f (fun x79 aNk=>
     WR a9H (a0D 39 1 #[(0,x79)]) aNk (fun x80 aNm=>
     WR a9H (a0e #[39,39] 39 #[(o 6),x80]) aNm (fun x81 p=>
     RD a9H (bo .add 3 (.tmp 73) (.const (.int .i64 1)) (o 73) (.int .i64 1)) p (fun x82=>
     rec_2 (jd [(6,x81),(73,x82)]) p) (PX R)) (PX R)) (PX R)) (PC R)) (PX R)) (PX R)) (RD a9H (bo .add 3 (.tmp 27) (.const (.int .i64 1)) (a 27) (.int .i64 1)) f (fun aNp=>
   rec_1 (jd [(6,(o 6)),(7,(a 7)),(27,aNp)]) f) (PX R))) (PX R))
     (jd [(6,(a 6)),(73,(.int .i64 0))]) b) (PX R)) (PX R)) (PX R)) (PX R)) (RD a9H (bo .add 3 (.tmp 27) (.const (.int .i64 1)) (a 27) (.int .i64 1)) b (fun aNq=>
   rec_1 (jd [(6,(a 6)),(7,(a 7)),(27,aNq)]) b) (PX R))) (PX R))) (PX R))) (PX R)))) (PX R)) (PX R)) (RD a9H (a0w 198 e 0) c (fun x85=>
  RD a9H (aZX 9 x85) c (fun x86=>
  CA a9H 108 #[p1,x86,(a 6)] c (fun x88 q=>
  RD a9H (bo .add 3 (.tmp 18) (.const (.int .i64 1)) (s 18) (.int .i64 1)) q (fun x89=>
  rec (jd [(18,x89)]) q) (PX R)) (PC R)) (PX R)) (PX R))) (PX R))
   (jd [(6,bV),(7,(.int .i64 0)),(27,(.int .i64 0))]) r) NX) NX) (Lv R)))) (PX R)) (PX R)) (PX R)) (PX R)) (R (ah (ak #[])) w1)) (PX R))
  (jd [(18,(.int .i64 0))]) w) (PX R)) (PX R)) (PX R)
def aNu(h:n9 p0 p1 w R):Calls a9H 109 #[p0,p1] w R:=
 cq (args:=[p0,p1]) (Eo (zL [(1,[18]),(6,[6,7,27]),(21,[6,73])]) (zO [(10001,[32])]) (fun _=>0) (zO [(5,[0,1,2,5,0,3,4])]) (zL [(1,[]),(6,[]),(21,[])]) (zL [(10001,[])]) (zT [10001]) (zT [19,28,32,33,34,46,47,59,60,66,67,74])) func109 J zk zk h
def aNv:=cz w R [p0,p1,p2] (gd [(3,[14]),(7,[34])] [] [] [(5,[10,0,1,2,3,4,5,6,7,8,9,10])] [] [] [15,35]) func81
def aNw:=cz w R [p0] (gc [] [] []) func70
def aNx:=cz w R [p0,p1,p2] (gc [] [(2000,[30]),(3001,[])] [29,30]) func73
def aNy:=cz w R [p0,p1] (gc [] [(1000,[36]),(2001,[])] [34,35,36]) func72
def aNz:=cz w R [p0,p1] (gc [] [(2000,[19]),(3002,[])] [18,19]) func102
def aNA:=cz w R [] (gc [] [] []) func101
end
