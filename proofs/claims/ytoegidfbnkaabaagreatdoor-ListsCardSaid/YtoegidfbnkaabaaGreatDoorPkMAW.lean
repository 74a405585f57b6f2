/- A part of one proof (KV6, KV7, KV8, KV9, ShX4). -/
import Derived.Test.YtoegidfbnkaabaaGreatDoorPkMAV
set_option linter.all false
set_option maxRecDepth 100000
set_option maxHeartbeats 8000000
open Option renaming some → O, none → V
open Go renaming Value → Y, World → Z
open Bool renaming true → G, false → ae
open Go.Obj renaming cells → ah
open Go.Ending renaming returned → ai
open Go.Value renaming nilIface → aj, iface → ak, tuple → aq
open Go.Calls renaming mono → a3L
open List renaming getElem?_eq_getElem → a3P, getElem_mem → a4h, getElem?_eq_some_iff → a4l, replicate → a4r, range' → a4z, foldl_cons → a4N, take_of_length_le → a4Z, take_succ_eq_append_getElem → a5h, ext_getElem? → a5x, getElem?_replicate → a54
open Option.some renaming inj → a3R
open Go.Instr renaming loadAt → a32, fieldAt → a4C, buildSlice → a4L, storeAt → a5e, indexAt → a5f
open Go.Value.slice renaming injEq → a34
open Go.Builtin renaming append_ → a4e, len_ → a5t
open Go.Proofs.Tryz renaming prog → bdR
open Go.Proofs.Tryz
namespace Go.Proofs.YtoegidfbnkaabaaGreatDoor
open P
open Go.RowKit Sx
variable{d f g k n o pb pc:Nat}{o4 v vv:Y}{r:Except jP (Bool×Vm)}{ur:Nat->Nat}{iF:Array Y}{xs:List Y}
def B7(D:Nat->Prop)(ρ:Nat->Nat)(vb cb fw:Nat)(w:Z)(m:Vm):Prop:=∃ φ ψ av tv dk,gm D ρ ⟨φ,ψ,vb,cb,fw⟩ av tv dk w m
def P.VB(m:Vm)(rest:List Co)(args:List Sl)(f pc:Nat):List Ga:=match rest with | []=>[] | _=>[⟨m.sr.tr.length,f,pc,rest,args⟩]
section
variable{D:Nat->Prop}{ρ:Nat->Nat}{e:Bb}{av tv:Y}{dk:List Y}{w w':Z}{m:Vm}
theorem yC.sl{l:List Sl}(h:yC D ρ n ur pb w v l):∃ a c,v = .slice a l.length c:=by
 rcases h with⟨rfl,rfl⟩| ⟨b,cap,row,rfl,-⟩<;>exact⟨_,_,J⟩
def arj(h:gm D ρ e av tv dk w m)(hD:∀ b,w.heap.size<=b->D b){l:List Co}{args:List Sl}{m':Vm}(hl:oN w 185 vv xs)(hc:B5 w xs l)
  (ha:yC D ρ m.n e.ψ m.fs.length w o4 args) (hf:f<m.fs.length) (hn:n<=m.bz.length) (mg:m.bz.length<=900000000) (iW:∀ c∈l,c.slots<=64) (Er:args.length<=60) (hr:m.enter l args f pc n=O m') :
  Calls bdR 209 #[pp e.vb,vv,o4,pp (e.φ f),zi (pc:Nat),zi (n:Nat)] w fun en w'=>en = ai (aq #[])/\dc D w w'/\B7 D ρ e.vb e.cb e.fw w' m':=by
 cases l with
 | nil=>cases hr
 | cons c rest=>
 have hr:({ m with bz:=m.bz.take n++P.VB m rest args f pc,fs:=m.fs++[⟨c,args++a4r (max c.slots args.length-args.length) .nil,n,O f,pc,ae⟩],f:=m.fs.length,pc:=0 }:Vm)=m':=a3R hr;subst hr;obtain⟨B,QP,vR⟩:=hc.2 0 c J;have uQ:xs.length=rest.length+1:=by have:=hc.1;omega
 obtain⟨lb,lo,Vb,lcs,rfl,XL,rm,aMr⟩:=hl.at (j:=0) zo;rw[Nat.add_zero,QP] at rm;obtain⟨C,ac,gA⟩:=gZ h.ar;have c0:=h.cell;have lv0:=bn c0;obtain⟨LB,VC⟩:=Rj (by rw[gA] at h;exact h.ar:w.ownsRow 0 342 5 (.slice C m.bz.length ac) m.bz.length dk);obtain⟨ga,gc,L⟩:=ha.sl;have tV:(n:Int)<=(ac:Nat):=zo;suffices H:∀ R:Ending->Z->Prop,(∀ w',dc D w w'->B7 D ρ e.vb e.cb e.fw w' ({ m with bz:=m.bz.take n++P.VB m rest args f pc,fs:=m.fs++[⟨c,args++a4r (max c.slots args.length-args.length) .nil,n,O f,pc,ae⟩],f:=m.fs.length,pc:=0 }:Vm)->R (ai (aq #[])) w') ->
   Calls bdR 209 #[pp e.vb,.slice (O ⟨lb,lo,V⟩) xs.length Vb,o4,pp (e.φ f),zi (pc:Nat),zi (n:Nat)] w R from H _ yF
 intro R hR;refine aOE ?_;refine jh @c0 gA VC ?_;have ZN:(n:Int).toNat=n:=zo;try rw[ZN]
 obtain⟨w1,jZ⟩:=cj (bR w e.vb (ah #[pp e.cb,tv,zi (m.sr.fuel:Nat),pp (e.φ m.f),zi (m.pc:Nat),.slice C n ac] 116));obtain⟨h1,dF,hJ1⟩:=h.forget hn gA jZ;have Zy:bR w e.vb (ah (pF #[pp e.cb,tv,zi (m.sr.fuel:Nat),pp (e.φ m.f),zi (m.pc:Nat),.slice C m.bz.length ac] 5 (Value.slice C n ac).cells.toList) 116 (0,0))=w1:=jZ.symm;rw[Zy];have c1:w1.heap[e.vb]?=aO #[pp e.cb,tv,zi (m.sr.fuel:Nat),pp (e.φ m.f),zi (m.pc:Nat),.slice C n ac] 116:=h1.cell;clear Zy jZ;have lv1:=bn c1;have s1:=dF.size;refine⟨fun _ w'=>∃ av' avs',gm D ρ e av' tv avs' w' { m with bz:=m.bz.take n++P.VB m rest args f pc }/\dc D w w'/\qq w w',?_,?_⟩
 .cases rest with
  | nil=>
   have EW:¬ (xs.length:Int) > 1:=zg;refine cJ EW ?_;grind [P.VB]
  | cons c2 rest=>
   have EW:(xs.length:Int) > 1:=zg;refine cJ EW ?_;have dI:Ext w1 w1.drew:=yF;refine⟨fun w'=>w'.heap[e.vb]?=w1.heap[e.vb]?,J,?_⟩;rw[jI];refine cQ (pq e.vb 5) (fun w' g=>eR) ?_;refine cQ (.slice C n ac) (fun w' g=>by rw[c1] at g;have:=bn g;exact eV g) ?_;rw[jI];refine cQ (pq e.vb 1) (fun w' g=>eR) ?_;obtain⟨v2,i,rfl⟩:∃ v2 i,xs=v2::i:=by cases xs with | nil=>grind | cons a b=>grind
   have aZV:i.length=rest.length+1:=zg;have Rk:oN w 185 (sliced (O ⟨lb,lo,V⟩) 1 (i.length+1) Vb 1) i:=hl.tail zg;obtain⟨Q,S,zQ⟩:∃ Q S,sliced (O ⟨lb,lo,V⟩) 1 (i.length+1) Vb 1 = .slice Q i.length S:=⟨_,_,J⟩;rw[zQ] at Rk;have ag1:(1:Int)<=(((v2::i).length:Nat):Int):=zo;refine cQ (.slice Q i.length S) (fun w' g=>eV zQ) ?_;refine a3L (UM (h1.ext dI).st Dy) ?_;rintro en w2 ⟨rfl,rfl⟩;refine⟨J,?_⟩;rw[L];refine bG ?_;obtain⟨l0,T⟩:∃ l0:List Y,l0=[zi (m.sr.tr.length:Nat),pp (e.φ f),zi (pc:Nat),.slice Q i.length S,o4]:=⟨_,J⟩;obtain⟨w2,j8⟩:=cj (w1.drew.alloc (ah l0.toArray 342 (0,0)));have U:Ext w1 w2:=yF;have g2:w2.heap[w1.heap.size]?=aO l0.toArray 342:=yH;have s2:w2.heap.size=w1.heap.size+1:=yH;rw[T,L] at j8;rw[<- j8];have z:=h1.ext U;have q2:w2.heap[e.vb]?=aO #[pp e.cb,tv,zi (m.sr.fuel:Nat),pp (e.φ m.f),zi (m.pc:Nat),.slice C n ac] 116:=z.cell;have zP:(m.bz.take n).length=n:=zg;have t:qq w w2:=hJ1.trans (qq.ea U);refine ari z.ar g2 zg (by rw[T,L];intro u hu;simp only[List.mem_cons,List.not_mem_nil,or_false] at hu;rcases hu with rfl | rfl | rfl | rfl | rfl<;>rfl) zg zo ?_;intro v' w3 LC zh EN;obtain⟨p3,d3,e3⟩:=gZ LC;subst e3;have Mn:nJ D ρ m.n e.φ e.ψ m.fs.length w2 l0 [⟨m.sr.tr.length,f,pc,c2::rest,args⟩]:=by
    refine⟨.slice Q i.length S,o4,i,[],zg,hf,Rk.bL fun b cs hb=>t.1 b cs _ (yM) hb,?_,ha.bL t.1 t.toR (eu.refl _ _) (yB.refl e.φ _ _) yH,J⟩;exact B5.bL t.1 (B5.tail hc)
   obtain⟨k,E⟩:=cj (bR w3 e.vb (ah #[pp e.cb,tv,zi (m.sr.fuel:Nat),pp (e.φ m.f),zi (m.pc:Nat),.slice p3 ((m.bz.take n).length+1) d3] 116));obtain⟨r1,r2,r3,r4⟩:=z.LX (l:=m.bz.take n++[⟨m.sr.tr.length,f,pc,c2::rest,args⟩]) zg zh yH (z.ag.snoc Mn) E;have c3:=r4.trans q2;refine⟨yH,?_⟩;refine cJ @c3 ?_;have Mh:bR w3 e.vb (ah (pF #[pp e.cb,tv,zi (m.sr.fuel:Nat),pp (e.φ m.f),zi (m.pc:Nat),.slice C n ac] 5 (Value.slice p3 ((m.bz.take n).length+1) d3).cells.toList) 116 (0,0))=k:=E.symm;first | rw[Mh] | rw[<- E]
   exact⟨_,_,r1,dF.trans ((dc.ea U).trans r2),t.trans r3⟩
 .rintro s w2 ⟨A,Rl,z,U,t⟩ d;clear d;have s2:=U.size;have F:=t.1 _ _ _ (yM) XL;obtain⟨insv,gX,xH⟩:=id vR;have LD:=t.1 _ _ _ (yM) gX;have c2:w2.heap[e.vb]?=aO #[pp e.cb,tv,zi (m.sr.fuel:Nat),pp (e.φ m.f),zi (m.pc:Nat),A] 116:=z.cell;obtain⟨ba,bc,mZ⟩:∃ a c,A = .slice a (m.bz.take n++P.VB m rest args f pc).length c:=gZ z.ar;have hlp:(0:Int)<(xs.length:Int):=zo;have hsc:c.slots<=64:=zg;obtain⟨M,hM⟩:=cj (max c.slots args.length);have OT:args.length<=M:=zo;have hMb:M<=1000000:=zo;have hmx:(if (args.length:Int) > (c.slots:Int) then(args.length:Int) else(c.slots:Int))=(M:Int):=zo;rw[L];refine⟨fun w'=>w'.heap[lb]?=w2.heap[lb]?/\w'.heap[B]?=w2.heap[B]?,yH,?_⟩;refine cQ (pq lb lo) (fun w' g=>eR) ?_;refine cQ (pp B) (fun w' g=>by have x:=g.1;rw[F] at x;have:=bn x;exact mv x rm) ?_;refine cQ (pq lb lo) (fun w' g=>eR) ?_;refine cQ (pp B) (fun w' g=>by have x:=g.1;rw[F] at x;have:=bn x;exact mv x rm) ?_;rw[jI];refine cQ (pp B) (fun w' g=>eR) ?_;refine cQ (zi (c.slots:Nat)) (fun w' g=>by have x:=g.2;rw[LD] at x;have:=bn x;exact eV x) ?_;refine cQ (zi (args.length:Nat)) (fun w' g=>eR) ?_;refine cQ (zi (M:Nat)) (fun w' g=>by rw[ayN,hmx]) ?_;refine bG ?_;have l2:=bn c2;have llb:=bn F;have Zi:=bn LD;obtain⟨wr,O0⟩:=cj (w2.drew.alloc (ah (madeCells #[aj] M) 20 (0,0)));obtain⟨w3,tj⟩:=cj (wr.alloc (ah #[pp B,cS w2.heap.size M M,zi (n:Nat),pp (e.φ f),zi (pc:Nat)] 203));have aZZ:Ext w2 wr:=yF;have Vn:Ext w2 w3:=yF;have sr:wr.heap.size=w2.heap.size+1:=yH;have s3:w3.heap.size=w2.heap.size+2:=yH;have Vc:(madeCells #[Value.nilIface] M).size=M:=size_madeCells ..;obtain⟨N,mU⟩:=cj (madeCells #[Value.nilIface] M);have hr3:w3.heap[w2.heap.size]?=aO N 20:=yH;have dV:w3.heap[w2.heap.size+1]?=aO #[pp B,cS w2.heap.size M M,zi (n:Nat),pp (e.φ f),zi (pc:Nat)] 203:=yH;have c3:=Vn.ext _ _ c2;have l3:=bn c3;rw[<- O0,<- tj];rw[<- mU] at Vc;refine⟨yH,yH,?_⟩;clear O0 tj;replace c3:=c3.trans c2.symm;refine dA @c2 dV ?_;obtain⟨k,E⟩:=cj (bR w3 e.vb (ah #[pp e.cb,tv,zi (m.sr.fuel:Nat),pp (w2.heap.size+1),zi (m.pc:Nat),A] 116));have Mh:bR w3 e.vb (ah (pF #[pp e.cb,tv,zi (m.sr.fuel:Nat),pp (e.φ m.f),zi (m.pc:Nat),A] 3 (Value.pointer (O ⟨w2.heap.size+1,0,V⟩)).cells.toList) 116 (0,0))=k:=E.symm;first | rw[Mh] | rw[<- E]
  have arl:w2.heap.size≠e.vb:=zo;have W:w2.heap.size+1≠e.vb:=zo;have Ih:k.heap[w2.heap.size]?=aO N 20:=yH;have c4:k.heap[e.vb]?=aO #[pp e.cb,tv,zi (m.sr.fuel:Nat),pp (w2.heap.size+1),zi (m.pc:Nat),A] 116:=yH;have X:bD (fun b _=>b=e.vb) w2 k:=yF;have eA:k.heap[w2.heap.size+1]?=_:=(by rw[E,jg W]:k.heap[w2.heap.size+1]?=w3.heap[w2.heap.size+1]?).trans dV;have s4:k.heap.size=w2.heap.size+2:=yH;clear Mh E;have I8:∀ (p:Z) (row:Array Y),bD (fun b _=>b=w2.heap.size) k p->p.heap[w2.heap.size]?=aO row 20->row.size=M->(∀ (ww:Z),qq w2 ww->Dx ρ m.n ww row (args++a4r (M-args.length) .nil)) ->
    NC (pp e.vb) fun x74=>RD bdR (a4C 116 x74 3) p (fun UQ=>WU bdR (a5e 3 UQ (zi 0)) p (fun q=>R (ai (aq #[])) q) (PX R)) (PX R):=by
   intro p row Y7 RS JR aOU;have c5:p.heap[e.vb]?=_:=Y7.block _ _ c4 (fun e=>arl e.symm);have l5:=bn c5;refine cJ @c5 ?_;obtain⟨q,pN⟩:=cj (bR p e.vb (ah #[pp e.cb,tv,zi (m.sr.fuel:Nat),pp (w2.heap.size+1),zi ((0:Nat):Int),A] 116));have aOV:bR p e.vb (ah (pF #[pp e.cb,tv,zi (m.sr.fuel:Nat),pp (w2.heap.size+1),zi (m.pc:Nat),A] 4 (Value.int .i64 0).cells.toList) 116 (0,0))=q:=pN.symm;first | rw[aOV] | skip
   have c6:q.heap[e.vb]?=aO #[pp e.cb,tv,zi (m.sr.fuel:Nat),pp (w2.heap.size+1),zi ((0:Nat):Int),A] 116:=yH;have r6:q.heap[w2.heap.size]?=aO row 20:=yH;have f6:q.heap[w2.heap.size+1]?=_:=(by rw[pN,jg W]:q.heap[w2.heap.size+1]?=p.heap[w2.heap.size+1]?).trans (Y7.block _ _ eA zo);have arp:bD (fun b _=>b=e.vb) w2 q:=by
    have Eg:bD (fun b _=>b=e.vb\/w2.heap.size<=b) w2 p:=(bD.mono X fun _ _ _ h=>Or.inl h).trans (by grind [bD.mono]);rw[pN];refine bD.mono (Eg.bR (.inl fun _=>.inl J)) fun b o hb h=>?_;grind
   have aOW:dc D w2 q:=bD.mono arp fun b o ho e=>by
    subst e;rw[c2] at ho;exact⟨z.st.ds,_,_,_,(a3R ho).symm,.inr (.inr (.inr (.inr (.inl J))))⟩
   have arq:qq w2 q:=⟨aOW.toI,(by grind [bD.block])⟩;have hlen:(args++a4r (M-args.length) Sl.nil).length=M:=zg;obtain⟨vj,sw,g1,g2⟩:=z.aOP yH arp (fb:=w2.heap.size+1) (rb:=w2.heap.size) (cb:=B) (c:=c) (slots:=args++a4r (M-args.length) .nil) (row:=row) (n:=n) (f:=f) (pc:=pc) zo zo
    (by rw[hlen];exact f6) (vR.bL (t.1.trans arq.1)) r6 (by rw[hlen];exact JR) (aOU q arq) hf c6
   rw[hM] at g1;have lp:=hR q yF ⟨vj,sw,A,tv,Rl,g1⟩;exact yH
  have ZO:∀ (j:Nat) (y:Sl),(a4r M Sl.nil)[j]?=O y->N[j]?=O aj/\y = .nil:=fun j y r=>by
   have VD:j<M:=zg;rw[a54,zip VD] at r;refine⟨?_,zg⟩;have:=aqO aj M j VD;grind
  rcases ha with⟨rfl,VE⟩| ⟨ab,aZ0,I,VE,hac,nC,aZ1,ars,-⟩
  .rw[L] at VE;cases VE;rw[show(([]:List Sl).length)=0 from J,aON];refine I8 k N yF Ih Vc fun ww _ j y r=>?_;obtain⟨h5,rfl⟩:=ZO j y (by simpa using r);exact⟨_,h5,J⟩
  .rw[L] at VE;cases VE;have K:=t.2 _ _ nC;have aOX:=X.block _ _ K (fun e=>by
    rw[e,c2] at K;injection K with K;injection K with _ K _;cases K)
   rw[aOO Ih aOX zo OT zo (fun v hv=>?_)]
   rotate_left
   .obtain⟨j,r,rfl⟩:=List.getElem_of_mem hv;rw[List.length_take] at r;have Hc:j<args.length:=zo;obtain⟨u,vh,Ge⟩:=ars j _ (a3P Hc);have:(I.toList.take args.length)[j]=u:=by
     grind
    rw[this];rcases Ge.one with rfl | ⟨_,_,rfl⟩<;>rfl
   .obtain⟨p,oO⟩:=cj (bR k w2.heap.size (ah (I.toList.take args.length++N.toList.drop args.length).toArray 20 (0,0)));rw[<- oO];refine I8 p (I.toList.take args.length++N.toList.drop args.length).toArray (yF) (yH) zg fun ww hJw j y r=>?_;by_cases fm:j<args.length
    .rw[List.getElem?_append_left fm] at r;obtain⟨u,vh,Ge⟩:=ars j y r;refine⟨u,?_,Ge.bL (t.1.trans hJw.1) (eu.refl _ _)⟩;grind
    .rw[List.getElem?_append_right zo] at r;obtain⟨h5,rfl⟩:=ZO j y (by
      have:j-args.length<M-args.length:=by
       have:=(a4l.1 r).1;simpa using this
      rw[a54,zip this] at r;rw[a54,zip zo];exact r)
     refine⟨_,?_,J⟩;grind
end
def ag7{w:Z}{x y:Operand}{K:Y->Prop}{X:Y->Z->Prop}(a:Option Addr)(n c:Nat):RD bdR (bo .eql 192 x y (.slice a n c) bW) w K X=K (.bool a.isNone):=
 gR (by cases a<;>kernel_rfl)
section
variable{D:Nat->Prop}{ρ:Nat->Nat}{e:Bb}{av tv:Y}{dk:List Y}{w w':Z}{m:Vm}
def gm.place(h:gm D ρ e av tv dk w m)(hm:k<m.bz.length):∃ g ac cur a b fX,av = cS g m.bz.length ac/\m.bz.length<=ac/\w.heap[g]?=aO cur 342/\cur.size=ac*5 /\
  cur[k*5]?=O (zi ((m.bz[k]).mark:Nat))/\cur[k*5+1]?=O (pp (e.φ (m.bz[k]).f))/\cur[k*5+2]?=O (zi ((m.bz[k]).pc:Nat))/\cur[k*5+3]?=O a/\cur[k*5+4]?=O b /\
  (m.bz[k]).f<m.fs.length/\oN w 185 a fX/\B5 w fX (m.bz[k]).others/\yC D ρ m.n e.ψ m.fs.length w b (m.bz[k]).args:=by
 obtain⟨a,b,fX,q,g2,g3,g4,g5⟩:=h.ag.at k hm;rcases h.ar.2 with⟨-,c⟩| ⟨g,cap,cur,d,c,i,l,r,o,s⟩
 .exact yH
 .have p:∀ j,j<5->cur[k*5+j]?=[Value.int .i64 ((m.bz[k]).mark:Nat),pp (e.φ (m.bz[k]).f),zi ((m.bz[k]).pc:Nat),a,b][j]?:=zg;exact⟨g,cap,cur,a,b,fX,d,l,i,o,p 0 zo,zg,zg,zg,zg,g2,g3,g4,g5⟩
def art(h:gm D ρ e av tv dk w m)(hD:∀ b,w.heap.size<=b->D b)(xr:∀ a∈m.bz,a.mark<=m.sr.tr.length/\(∀ c∈a.others,c.slots<=64)/\a.args.length<=60)(FQ:m.sr.tr.length<=900000000)(mg:m.bz.length<=900000000)
  {p:Bool×Vm} (hr:m.back=O p) :
  Calls bdR 206 #[pp e.vb] w fun C w'=>dc D w w'/\C = ai (.bool p.1)/\B7 D ρ e.vb e.cb e.fw w' p.2:=by
 suffices H:∀ R:Ending->Z->Prop,(∀ w',dc D w w'->B7 D ρ e.vb e.cb e.fw w' p.2->R (ai (.bool p.1)) w')->Calls bdR 206 #[pp e.vb] w R from
  H _ yF
 intro R q;have r:=h.cell;have l1:=bn r;obtain⟨aa,ac,d⟩:=gZ h.ar;refine aOD ?_;unfold Vm.back at hr;by_cases hle:m.bz.length=0
 .have hlt:(m.bz.length:Int)-1<0:=zo;rw[List.eq_nil_of_length_eq_zero hle] at hr;cases hr;refine jh @r d hlt ?_;exact q _ yF ⟨_,_,_,_,_,h⟩
 have hlt:¬ (m.bz.length:Int)-1<0:=zo;obtain⟨k,hm⟩:∃ k,m.bz.length=k+1:=⟨m.bz.length-1,zo⟩;have i:k<m.bz.length:=zo;have Rw:m.bz.getLast?=O m.bz[k]:=zg;rw[Rw] at hr;simp only at hr;obtain⟨g,ac',cur,P,xF,fX,E,e2,F,jC,q0,q1,q2,q3,q4,i1,i2,i3,i4⟩:=h.place i;rw[d] at E;simp only[a34,true_and] at E;obtain⟨rfl,rfl⟩:=E;have lg:=bn F;have I:(m.bz.length:Int)-1=(k:Nat):=zo;have j:((k:Nat):Int).toNat=k:=zo;refine dA @r d ?_;rw[I] at hlt ⊢;obtain⟨u3,u4,u5⟩:=xr m.bz[k] (a4h i);have s:Ext w w.drew:=yF;refine dG hlt @r d (zA @j (zA F @q0)) ?_;refine a3L (afA (h.ext s).less Dy u3 FQ) ?_;rintro C w2 ⟨rfl,K,L,mR⟩;have Dz:qq w w2:=(qq.ea s).trans (Dn.arc K);have t:w2.heap[g]?=aO cur 342:=K.block _ _ F (by rintro ⟨⟨-,u,-⟩,-⟩;rw[d] at u;exact u J);obtain⟨x,UZ⟩:=(h.ext s).store mR K;have Q:dc D w w2:=(dc.ea s).trans UZ;have c2:w2.heap[e.vb]?=aO #[pp e.cb,L,zi (m.sr.fuel:Nat),pp (e.φ m.f),zi (m.pc:Nat),av] 116:=x.cell;rw[d] at c2;have l2:=bn c2;have s2:=Q.size;obtain⟨ga,gc,S⟩:=i4.sl;obtain⟨Zh,cvn,Vd,y⟩:∃ a n c,P = .slice a n c:=by
  rcases i2 with⟨-,rfl⟩| ⟨b,o,cap,cs,rfl,-⟩<;>exact zg
 have M:=q3;have T:=q4;rw[y] at M;rw[S] at T;refine jh t @M @ag7 ?_;have z:Ext w2 w2.drew:=yF;have hsr:(⟨m.n,m.sr.iH (m.bz[k]).mark,m.fs,m.f,m.pc,m.bz⟩:Vm)={ m with sr:=m.sr.iH (m.bz[k]).mark }:=rfl;by_cases ye:(m.bz[k]).others=[]
 .have:fX=[]:=by have:=i3.1;grind
  subst this;have U:P = bW:=by
   rcases i2 with⟨-,h⟩| ⟨b,o,cap,cs,-,-,-,-,h⟩<;>grind
  rw[y] at U;cases U;simp only[ye] at hr;cases hr;refine bG ?_;refine⟨fun w'=>w'.heap[g]?=w2.heap[g]?,J,?_⟩;rw[jI];refine cQ (pq g (k*5+1)) (fun w' A=>eV @j) ?_;refine cQ (pp (e.φ (m.bz[k]).f)) (fun w' A=>by rw[t] at A;have:=bn A;exact KA A @q1 @j) ?_;have RU:((k:Nat):Int)<=(ac:Nat):=zo;obtain⟨LB,VC⟩:=Rj (by have:=x.ar;grind:w2.ownsRow 0 342 5 (cS g m.bz.length ac) m.bz.length dk);refine dG t @q2 @c2 (zA @j VC) ?_;have aZ3:g≠e.vb:=zg;obtain⟨w3,W⟩:=cj (bR w2.drew e.vb (ah #[pp e.cb,L,zi (m.sr.fuel:Nat),pp (e.φ (m.bz[k]).f),zi ((m.bz[k]).pc:Nat),av] 116 (0,0)));obtain⟨N,X⟩:=(x.ext z).own (w':=w3) (f':=(m.bz[k]).f) (pc':=(m.bz[k]).pc) (yF) (by rw[W];exact qI J l2) i1;obtain⟨w4,jB⟩:=cj (bR w2.drew e.vb (ah #[pp e.cb,L,zi (m.sr.fuel:Nat),pp (e.φ (m.bz[k]).f),zi ((m.bz[k]).pc:Nat),cS g k ac] 116 (0,0)));obtain⟨h4,gT,-⟩:=N.forget (k:=k) (w1:=w4) zg d (by rw[W,Tj,jB];rfl);have Kp:m.bz.dropLast=m.bz.take k:=by grind [List.dropLast_eq_take,Nat.add_sub_cancel]
  rw[Kp] at q;rw[<- jB];refine⟨yH,?_⟩;exact q w4 yF ⟨_,_,_,_,_,h4⟩
 .have jr:fX≠[]:=by
   rintro rfl;have:=i3.1;grind
  obtain⟨cb,co,aM1,ccs,Mc,gX,-,-,-⟩:=i2.resolve_left zg;rw[y] at Mc;cases Mc;obtain⟨m',qd,rfl⟩:∃ m',({ m with sr:=m.sr.iH (m.bz[k]).mark }:Vm).enter (m.bz[k]).others (m.bz[k]).args (m.bz[k]).f (m.bz[k]).pc k=O m'/\p=(G,m'):=by
   grind
  refine dG @Option.isNone_some.{0} t @q1 (zA @q2 (zA @M (zA @T @j))) ?_;have B:qq w w2.drew:=Dz.trans (qq.ea z);rw[y] at i2;rw[S] at i4;refine a3L (arj (x.ext z) yH (l:=(m.bz[k]).others) (args:=(m.bz[k]).args) (f:=(m.bz[k]).f) (pc:=(m.bz[k]).pc) (n:=k) (m':=m') (i2.bL fun b cs u=>B.1 _ _ _ (yM) u) (i3.bL B.1)
   (i4.bL B.1 B.toR (eu.refl _ _) (yB.refl e.φ _ _) yH) i1 zg mg u4 u5 qd) ?_
  rintro C w3 ⟨rfl,X,N⟩;refine bG ?_;exact q w3 (Q.trans ((dc.ea z).trans X)) N
end
def P.arv{m:Vm}{x:Fm}(hx:m.fs[m.f]?=O x)(k:Nat)(y:Sl):m.set k y={ m with fs:=m.fs.set m.f { x with slots:=x.slots.set k y } }:=by
 unfold Vm.set
 congr 1
 apply a5x;grind
def P.ag8(g:Nat->Nat->Sl):∀ (L:List (Nat×Nat)) {m:Vm} {x:Fm},m.fs[m.f]?=O x->L.foldl (fun m p=>m.set p.1 (g m.n p.2)) m={ m with fs:=m.fs.set m.f { x with slots:=L.foldl (fun s p=>s.set p.1 (g m.n p.2)) x.slots } }
 | [],m,x,hx=>by
  simp only[List.foldl_nil];have:m.fs.set m.f { x with slots:=x.slots }=m.fs:=by
   apply a5x;grind
  rw[this]
 | p::L,m,x,hx=>by
  have a:m.f<m.fs.length:=zg;rw[a4N,P.arv hx,P.ag8 g L (x:={ x with slots:=x.slots.set p.1 (g m.n p.2) }) zg];grind [List.set_set]
def P.arw:∀ (L:List (Nat×Tm)) {m:Vm} {x:Fm},m.fs[m.f]?=O x->L.foldl (fun m p=>m.set p.1 (.term p.2)) m={ m with fs:=m.fs.set m.f { x with slots:=L.foldl (fun s p=>s.set p.1 (.term p.2)) x.slots } }
 | [],m,x,hx=>by
  have:=P.ag8 (fun _ _=>.nil) [] hx;grind
 | p::L,m,x,hx=>by
  have a:m.f<m.fs.length:=zg;rw[a4N,P.arv hx,P.arw L (x:={ x with slots:=x.slots.set p.1 (.term p.2) }) zg];grind [List.set_set]
section
variable{D:Nat->Prop}{ρ:Nat->Nat}{e:Bb}{av tv:Y}{dk:List Y}{w w':Z}{m:Vm}
def gm.setRow(h:gm D ρ e av tv dk w m)(g:bD (fun b _=>b=e.ψ m.f) w w'){x:Fm}(hx:m.fs[m.f]?=O x){sl':List Sl}(q:w'.heap[e.ψ m.f]?=aO iF 20)
  (hlen:sl'.length=x.slots.length) (H:iF.size=x.slots.length) (r:Dx ρ m.n w' iF sl'):gm D ρ e av tv dk w' { m with fs:=m.fs.set m.f { x with slots:=sl' } }/\dc D w w':=by
 obtain⟨⟨cb,s,t,u⟩,y,row,A,I,K⟩:=h.fs _ _ hx;have B:RQ 20 w w':=fun b cs T L c=>(by grind [bD.block]);have d:dc D w w':=bD.mono g fun b o k he=>by
  subst he;rw[A] at k;exact⟨h.dp _ h.fl,_,_,_,(a3R k).symm,.inr (.inr (.inr (.inr (.inr (.inr J)))))⟩
 have C:Vz e.ψ m.fs.length w w':=fun b cs c hx=>(by grind [bD.block,fl]);have E:(m.fs.set m.f { x with slots:=sl' }).length=m.fs.length:=List.length_set ..;have l:∀ (i:Nat) (z:Fm),(m.fs.set m.f { x with slots:=sl' })[i]?=O z->(i=m.f/\z={ x with slots:=sl' })\/(i≠m.f/\m.fs[i]?=O z):=zg;refine⟨⟨h.st.agW B zo,zg,fun i z a=>?_,fun i z b a c=>?_,(by grind [dp]),fun i j hi M=>h.inj i j zg zg,(by grind [agV,ar]),?_,h.da⟩,d⟩
 .rcases l i z a with⟨rfl,rfl⟩| ⟨hi,a⟩
  .refine⟨⟨cb,?_,t.bL d.toI,u⟩,y,iF,q,zg,r⟩;have:=d.toI _ _ _ (yM) s;exact yH
  .have p:i<m.fs.length:=zg;exact(h.fs i z a).bL d.toI (eu.refl _ _) (yB.refl _ _ _) p (fun b c=>h.bk i _ b a c) fun cs F=>g.block _ _ F fun he=>hi (h.inj _ _ p h.fl he)
 .show b<(m.fs.set _ _).length;rw[E];rcases l i z a with⟨rfl,rfl⟩| ⟨hi,a⟩
  .exact h.bk _ x b hx c
  .exact h.bk i z b a c
 .have:=h.ag.bL d.toI C (eu.refl _ _) (yB.refl e.φ _ _) yH;grind
def gm.aOZ(h:gm D ρ e av tv dk w m)(hD:∀ b,w.heap.size<=b->D b)(g:Ext w w'){bl:Nat->Nat}(hv:∀ j,j<k->w.heap.size<=bl j/\w'.heap[bl j]?=aO #[aj] 91)
  (s:∀ i j,i<k->j<k->bl i=bl j->i=j) :
  ∃ eP,eu ρ m.n eP (m.n+k)/\(∀ j,j<k->eP (m.n+j)=bl j)/\gm D eP e av tv dk w' { m with n:=m.n+k }:=by
 obtain⟨eP,x⟩:∃ eP:Nat->Nat,eP=fun i=>if i<m.n then ρ i else bl (i-m.n):=⟨_,J⟩
 have hu:eu ρ m.n eP (m.n+k):=⟨zo,zg⟩;have y:∀ j,eP (m.n+j)=bl j:=zg;have hold:∀ i,i<m.n->ρ i<w.heap.size:=fun i hi=>by
  obtain⟨r,c,-⟩:=h.st.sv.var i hi;exact yH
 have l:=h.st.ext g;have f:∀ i,i<m.n+k->i<m.n\/∃ j,j<k/\i=m.n+j:=fun i hi=>by
  by_cases h:i<m.n
  .omega
  .exact .inr ⟨i-m.n,zo,zo⟩
 refine⟨eP,hu,zg,h.rest (qq.ea g) hu (jK g.ext h.ar) ?_ h.fl⟩;refine⟨⟨fun i j hi u he=>?_,fun i hi=>?_⟩,fun i hi=>?_,l.cell,?_,h.st.dr,h.st.ds,h.st.nd,fun p d=>Nat.lt_of_lt_of_le (h.st.lt p d) hu.1,h.st.ok⟩
 .rcases f i hi with c | ⟨a,c,rfl⟩<;>rcases f j u with o | ⟨b,o,rfl⟩
  .rw[hu.2 i c,hu.2 j o] at he;exact h.st.sv.inj i j c o he
  .grind
  .grind
  grind
 .rcases f i hi with c | ⟨a,c,rfl⟩
  .obtain⟨r,g1,g2⟩:=l.sv.var i c;refine⟨r,yH,?_⟩;cases q:P.look i m.sr.tr with
   | none=>grind
   | some t=>rw[q] at g2;exact dK.mono zg hu.1 hu.2 (fun _ _ _ _ _ h=>h) t r g2
  .have q:P.look (m.n+a) m.sr.tr=none:=P.Q4 fun hm=>by
    obtain⟨p,d,z⟩:=List.mem_map.1 hm;have:=h.st.lt p d;omega
   exact yH
 .rcases f i hi with c | ⟨a,c,rfl⟩
  .rw[hu.2 i c];exact h.st.dv i c
  grind
 .have e:rG eP m.sr.tr=rG ρ m.sr.tr:=by
   unfold rG;refine List.map_congr_left fun p d=>?_;rw[hu.2 p.1 (h.st.lt p (List.mem_reverse.1 d))]
  rw[e];exact l.row
end
abbrev sx(D:Nat->Prop)(ρ:Nat->Nat)(n vb cb fw:Nat)(p:Bool×Vm)(e:Ending)(w':Z):Prop:=
 e = ai (.bool p.1)/\∃ eP,eu ρ n eP p.2.n/\B7 D eP vb cb fw w' p.2
def P.ZQ(i:P.In)(m:Vm):Option Tm->P.Out (Bool×Vm)
 | none=>V
 | some (.var v)=>let m1:=i.s.tail.zipIdx.foldl (fun m p=>m.set p.1 (.term (.var (m.n+p.2)))) m;O (.ok (G,{ m1 with n:=m.n+i.s.tail.length,sr:=m.sr.bind v (.comp i.name ((a4z m.n i.s.tail.length).map .var)) }))
 | some (.comp name args)=>if name=i.name/\args.length=i.s.length-1 then O (.ok (G,(i.s.tail.zip args).foldl (fun m p=>m.set p.1 (.term p.2)) m)) else O (.ok (ae,m))
 | some _=>O (.ok (ae,m))
def P.arx(d:Nat)(i:P.In)(m:Vm):P.Out (Bool×Vm):=Js (m.at i 0) fun t=>P.ZQ i m (fI m.sr.tr d t)
def Dx.set{ρ:Nat->Nat}{n:Nat}{w:Z}{row:Array Y}{l:List Sl}(h:Dx ρ n w row l)(d:row.size=l.length)(k:Nat){v:Y}{y:Sl}(e:Aa ρ n w v y):Dx ρ n w (row.setIfInBounds k v) (l.set k y):=by
 intro j b a;rw[List.getElem?_set] at a;by_cases c:k=j
 .grind
 .rw[bU c] at a;obtain⟨u,g1,g2⟩:=h j b a;grind
section
variable{D:Nat->Prop}{ρ:Nat->Nat}{e:Bb}{av tv:Y}{dk:List Y}{w w':Z}{m:Vm}
def aO0(h:gm D ρ e av tv dk w m)(hD:∀ b,w.heap.size<=b->D b){x:Fm}(hx:m.fs[m.f]?=O x){i:P.In}(hi:Bf w g o i)(h2:2<=i.s.length)(hk:∀ k∈i.s,k<x.slots.length)(xy:i.s.length<=60)(mY:i.name.length<=20)
  (Lx:∀ v,P.look v m.sr.tr=V->v ∉ m.sr.tr.map (·.1)) (FQ:m.sr.tr.length<=900000000)
 (hr:P.arx d i m=O r) :
  Calls bdR 212 #[pp e.vb,pq g o] w (EPost D w (sx D ρ m.n e.vb e.cb e.fw) r):=by
 suffices H:∀ R:Ending->Z->Prop,(∀ X w',EPost D w (sx D ρ m.n e.vb e.cb e.fw) r X w'->R X w')->Calls bdR 212 #[pp e.vb,pq g o] w R from H _ fun _ _ h=>h;intro R hR;refine aOF ?_;unfold P.arx at hr;refine a3L (ZM h hx hi (k:=0) zo (by grind [a4h]) zo) ?_;rintro X w1 ⟨rfl,hp⟩;have dI:Ext w w.drew:=yF;cases M:m.at i 0 with
 | error t=>
  rw[M] at hr hp;have hr:=(a3R hr);subst hr;have hp:X=gW t:=hp;subst hp;cases t<;>exact hR _ _ ⟨yF,J⟩
 | ok t=>
 rw[M] at hr hp;obtain⟨v,rfl,hv⟩:=hp;have hr:P.ZQ i m (fI m.sr.tr d t)=O r:=hr;have hd:=h.ext dI;cases hw:fI m.sr.tr d t with
 | none=>rw[hw] at hr;cases hr
 | some t'=>
 rw[hw] at hr;refine a3L (HT hd.st.sv hv hw) ?_;rintro X w1 ⟨rfl,u,rfl,hu⟩;have aZ5:r = .ok (ae,m)->R (ai (.bool ae)) w.drew:=fun hr=>by
  subst hr;exact hR _ _ ⟨yF,J,ρ,eu.refl _ _,_,_,_,_,_,hd⟩
 obtain⟨cur,hg,ho,iw,we,aO1,sv,dZ,mR⟩:=hi;have rO:=dI.ext _ _ hg;have lgd:=bn rO;obtain⟨nb,xG,rfl,pI,-,yf⟩:=Mj mR (j:=0) zo;cases t' with
 | atom s=>
  unfold dO dK at hu;subst hu;have hr:r = .ok (ae,m):=(a3R hr).symm;refine bG ?_;grind
 | int s=>
  unfold dO dK at hu;subst hu;have hr:r = .ok (ae,m):=(a3R hr).symm;refine bG ?_;grind
 | comp name args=>
  unfold dO dK at hu;obtain⟨b,av1,vs1,rfl,-,q,iW,lk⟩:=hu;have ary:Ext w w.drew.drew:=yF;have nZ:=bD.drew (bD.refl (fun _ _=>False) w.drew) |>.ext _ _ q;have N:=ary.ext _ _ hg;obtain⟨aa,ac,ZR⟩:=iW.sl;have OP:vs1.length=args.length:=lk.length;rw[OP] at ZR;subst ZR;have hL:i.s.length-1<=i.s.length:=zo;have ZS:(i.s.length:Int)-1=((i.s.length-1:Nat):Int):=zo;refine bG ?_;refine⟨fun _ w2=>w2=w.drew.drew/\(name=i.name/\args.length=i.s.length-1),?_,?_⟩
  .refine⟨fun s w2=>w2=w.drew.drew/\s 92 = .bool (decide (¬ (name=i.name/\args.length=i.s.length-1))),?_,?_⟩
   .by_cases E:name=i.name
    .subst E;have e9:decide (¬ (args.length:Int)=(i.s.length:Int)-1)=decide (¬ (i.name=i.name/\args.length=i.s.length-1)):=by
      grind
     refine dG nZ N @we dZ ?_;grind
    .have e9:decide (¬ (name=i.name/\args.length=i.s.length-1))=true:=zg;refine dG nZ N @we (zA dZ E) ?_;grind
   .rintro s w2 ⟨rfl,ZT⟩ d2;clear d2;by_cases hc:name=i.name/\args.length=i.s.length-1
    .have e9:decide (¬ (name=i.name/\args.length=i.s.length-1))=false:=zg;rw[e9] at ZT;refine cJ ZT ?_;omega
    .have e9:decide (¬ (name=i.name/\args.length=i.s.length-1))=true:=zg;rw[e9] at ZT;refine cJ ZT ?_;have hr:r = .ok (ae,m):=by
      grind [P.ZQ]
     subst hr;exact hR _ _ ⟨yF,J,ρ,eu.refl _ _,_,_,_,_,_,h.ext ary⟩
  .rintro s w2 ⟨rfl,hc⟩ d2;clear d2;have hr:r = .ok (G,(i.s.tail.zip args).foldl (fun m p=>m.set p.1 (.term p.2)) m):=by
    grind [P.ZQ]
   rw[P.arw _ hx] at hr;obtain⟨jz,sX⟩:=hc;obtain⟨L,Mo⟩:=cj (i.s.length-1);have ag1:(1:Int)<=(i.s.length:Int):=zo;have zQ:sliced (O ⟨nb,0,V⟩) 1 i.s.length xG.size 1 = .slice (O ⟨nb,1,V⟩) L (xG.size-1):=by
    unfold sliced;rw[bU zo,Mo];simp [Addr.add]
   obtain⟨⟨DA,iZ,-,-⟩,-,qY,mU,Gn,Gp⟩:=h.fs _ _ hx;have hold:∀ {c:Z} {b:Nat} {cs:Array Y} {T:Nat},bD (fun b _=>b=e.ψ m.f) w c->T≠20->w.heap[b]?=aO cs T->c.heap[b]?=aO cs T:=(by grind [bD.block]);have hzl:(i.s.tail.zip args).length=L:=zg;refine jh N dZ zQ ?_;refine⟨fun n z c=>∃ (j:Nat) (row:Array Y),z 99=zi (j:Nat)/\j<=L/\n=L-j/\bD (fun b _=>b=e.ψ m.f) w c/\c.heap[e.ψ m.f]?=aO row 20/\row.size=x.slots.length /\
     Dx ρ m.n w row (((i.s.tail.zip args).take j).foldl (fun s p=>s.set p.1 (.term p.2)) x.slots),⟨_,0,qY,J,Nat.zero_le _,J,yF,yH,Gn,Gp⟩,?_⟩
   intro n z dz c hI;clear dz;refine toPr ?_;obtain⟨j,row,vT,hj,rfl,A,I,JR,Q⟩:=hI;have jl:∀ (l:List (Nat×Tm)),(l.foldl (fun s p=>s.set p.1 (Sl.term p.2)) x.slots).length=x.slots.length:=fun l=>by
    suffices ∀ (l:List (Nat×Tm)) (s:List Sl),(l.foldl (fun s p=>s.set p.1 (Sl.term p.2)) s).length=s.length from this l _;intro l;induction l with
    | nil=>grind
    | cons a l ih=>grind
   by_cases hlt:j<L
   .have Dr:(j:Int)<(L:Int):=zo;have kf:(j:Int).toNat=j:=zo;obtain⟨nb',aO4,S,VF,aO5,-⟩:=Mj mR (j:=j+1) zo;simp only[a34,Option.some.injEq,Addr.mk.injEq,and_true,true_and] at S;obtain⟨rfl,S⟩:=S;rw[pI] at VF;cases VF;obtain⟨ab,acs,Bp,-,nC,hac⟩:=iW.at' (j:=j) zo;rw[OP] at Bp;simp only[a34,true_and] at Bp;obtain⟨rfl,rfl⟩:=Bp;obtain⟨va,hva,Mi⟩:=lk.at j zo;rw[hva] at hac;have O3:=hold A zd pI;have Mp:=hold A zd h.cell;have O4:=hold A zd iZ;have ZU:=hold A zd q;have aO7:=hold A zd nC;have arz:=bn I;have yD:i.s[j+1]<x.slots.length:=hk _ (a4h _);have pP:((i.s[j+1]:Nat):Int).toNat=i.s[j+1]:=zo;have wO:((i.s[j+1]:Nat):Int)<(x.slots.length:Int):=zo;have Zm:(j:Int)<(args.length:Int):=zo;obtain⟨LM,xv1,rfl⟩:=Mi.iface;have U:xG[1+j]?=O (zi ((i.s[j+1]:Nat):Int)):=zg;refine dG vT Dr zQ (zA O3 (zA U (zA @kf (zA Mp (zA O4 (zA ZU (zA aO7 (zA hac (zA I @pP))))))))) ?_;refine⟨L-(j+1),zo,j+1,_,zs,zo,J,yF,J,zg,?_⟩;have Zl:(i.s.tail.zip args)[j]' zo=(i.s[j+1],args[j]):=zg;rw[a5h zo,List.foldl_append,Zl];refine Q.set zg _ ?_;exact dK.bL Mi (fun _ _ _ _ _ h=>h)
   .have fm:j=L:=zo;subst fm;refine cJ vT ?_;rw[a4Z zo] at Q;obtain⟨r1,r2⟩:=h.setRow A hx (sl':=(i.s.tail.zip args).foldl (fun s p=>s.set p.1 (.term p.2)) x.slots) I (jl _) JR (fun C y F=>by
     obtain⟨u,g1,g2⟩:=Q C y F;exact⟨u,g1,g2.bL (fun b cs T hT q=>hold A (fun e=>hT (by rw[e];exact .inl (.inr zg))) q) (eu.refl _ _)⟩)
    subst hr;exact hR _ _ ⟨r2,J,ρ,eu.refl _ _,_,_,_,_,_,r1⟩
 | var v=>
  unfold dO dK at hu;obtain⟨Rp,rfl⟩:=hu;have hr:r = .ok (G,{ (i.s.tail.zipIdx.foldl (fun m p=>m.set p.1 (.term (.var (m.n+p.2)))) m) with n:=m.n+i.s.tail.length,sr:=m.sr.bind v (.comp i.name ((a4z m.n i.s.tail.length).map .var)) }):=(a3R hr).symm;rw[P.ag8 (fun n k=>.term (.var (n+k))) _ hx] at hr;obtain⟨L,Mo⟩:=cj (i.s.length-1);have tY:i.s.tail.length=L:=zg;have ag1:(1:Int)<=(i.s.length:Int):=zo;have zQ:sliced (O ⟨nb,0,V⟩) 1 i.s.length xG.size 1 = .slice (O ⟨nb,1,V⟩) L (xG.size-1):=by
   unfold sliced;rw[bU zo,Mo];simp [Addr.add]
  obtain⟨⟨DA,iZ,-,-⟩,-,qY,mU,Gn,Gp⟩:=h.fs _ _ hx;have hold:∀ {c:Z} {b:Nat} {cs:Array Y} {T:Nat},bD (fun b _=>b=e.ψ m.f) w c->T≠20->w.heap[b]?=aO cs T->c.heap[b]?=aO cs T:=(by grind [bD.block]);refine dG rO @we dZ zQ ?_;obtain⟨wc,ZV⟩:=cj (w.drew.alloc (ah #[aW i.name,bW] 180));have hEc:Ext w wc:=yF;have sc:wc.heap.size=w.heap.size+1:=yH;have qN:wc.heap[w.heap.size]?=aO #[aW i.name,bW] 180:=yH;rw[<- ZV];try rw[Cq]
  have a0a:i.s.tail.zipIdx.length=L:=by grind [List.length_zipIdx]
  refine⟨fun n z c=>∃ (j:Nat) (row:Array Y) (B:List Nat) (sd:Y),z 32=zi (j:Nat)/\j<=L/\n=L-j/\bD (fun b _=>b=e.ψ m.f) w c/\w.heap.size<c.heap.size/\B.length=j /\
    c.heap[w.heap.size]?=aO #[aW i.name,sd] 180/\c.ownsRow (w.heap.size+1) 89 1 sd j (B.map fun b=>ak 87 (pp b)) /\
    (∀ b∈B,w.heap.size<b/\c.heap[b]?=aO #[aj] 91)/\B.Nodup /\
    c.heap[e.ψ m.f]?=aO row 20/\row.size=x.slots.length /\
    ∀ (C:Nat) (y:Sl),((i.s.tail.zipIdx.take j).foldl (fun s p=>s.set p.1 (.term (.var (m.n+p.2)))) x.slots)[C]?=O y->∃ u,row[C]?=O u/\(Aa ρ m.n w u y\/∃ a b,B[a]?=O b/\y = .term (.var (m.n+a))/\u = ak 87 (pp b)),
   ⟨_,0,qY,[],bW,J,Nat.zero_le _,J,yF,zo,J,qN,World.ownsRow_nil _ _ _ _,yH,List.nodup_nil,yH,Gn,fun C y hj=>(by obtain⟨u,g1,g2⟩:=Gp C y hj;grind)⟩,?_⟩
  intro n z dz c hI;clear dz;refine toPr ?_;obtain⟨j,row,B,sd,Dj,hj,rfl,A,jC,pJ,gX,sH,zR,DS,I,JR,Q⟩:=hI;have jl:∀ (l:List (Nat×Nat)),(l.foldl (fun s p=>s.set p.1 (Sl.term (.var (m.n+p.2)))) x.slots).length=x.slots.length:=fun l=>by
   suffices ∀ (l:List (Nat×Nat)) (s:List Sl),(l.foldl (fun s p=>s.set p.1 (Sl.term (.var (m.n+p.2)))) s).length=s.length from this l _;intro l;induction l with
   | nil=>grind
   | cons a l ih=>grind
  by_cases hlt:j<L
  .have Dr:(j:Int)<(L:Int):=zo;have kf:(j:Int).toNat=j:=zo;obtain⟨nb',aO4,S,VF,aO5,-⟩:=Mj mR (j:=j+1) zo;simp only[a34,Option.some.injEq,Addr.mk.injEq,and_true,true_and] at S;obtain⟨rfl,S⟩:=S;rw[pI] at VF;cases VF;have O3:=hold A zd pI;have Mp:=hold A zd h.cell;have O4:=hold A zd iZ;have lc:=bn Mp;have lf:=bn O4;have arz:=bn I;have Zi:=bn gX;have yD:i.s[j+1]<x.slots.length:=hk _ (a4h _);have pP:((i.s[j+1]:Nat):Int).toNat=i.s[j+1]:=zo;have wO:((i.s[j+1]:Nat):Int)<(x.slots.length:Int):=zo;have U:xG[1+j]?=O (zi ((i.s[j+1]:Nat):Int)):=zg;obtain⟨pa,pc,Gr⟩:=gZ sH;subst Gr;have arl:e.ψ m.f≠w.heap.size:=zg;refine dG Dj Dr zQ (zA O3 (zA U (zA @kf (zA Mp (zA O4 (zA I (zA @pP gX))))))) ?_;obtain⟨vv,xm⟩:∃ vv:Y,vv = ak 87 (pp c.heap.size):=⟨_,J⟩;obtain⟨wV,hwV⟩:=cj (c.alloc (ah #[aj] 91));obtain⟨wR,hwR⟩:=cj (bR wV (e.ψ m.f) (ah (row.setIfInBounds i.s[j+1] vv) 20 (0,0)));obtain⟨K,rv⟩:=cj (wR.alloc (ah #[vv] 89));rw[<- xm,<- hwV,<- hwR,<- rv];have sV:wV.heap.size=c.heap.size+1:=yH;have sR:wR.heap.size=c.heap.size+1:=yH;have sA:K.heap.size=c.heap.size+2:=yH;have hvV:wV.heap[c.heap.size]?=aO #[aj] 91:=yH;have aO8:bD (fun b _=>b=e.ψ m.f) c K:=by
    rw[rv,hwR,hwV];exact(((bD.refl _ _).alloc _).bR (.inl fun _=>rfl)).alloc _
   have hvA:K.heap[c.heap.size]?=aO #[aj] 91:=by
    exact yH
   have hrA:K.heap[e.ψ m.f]?=aO (row.setIfInBounds i.s[j+1] vv) 20:=by
    exact yH
   have hnA:K.heap[c.heap.size+1]?=aO #[vv] 89:=yH;have hcA:K.heap[w.heap.size]?=aO #[aW i.name,.slice pa j pc] 180:=(by grind [bD.block]);have DC:K.ownsRow (w.heap.size+1) 89 1 (.slice pa j pc) j (B.map fun b=>ak 87 (pp b)):=by
    refine⟨sH.1,?_⟩;rcases sH.2 with E | ⟨b,cap,cur,W,g2,g3,g4⟩
    .grind
    .exact .inr ⟨b,cap,cur,W,g2,(by grind [bD.block]),g4⟩
   refine Q9 DC hnA (by rw[xm];rfl) zo zo ?_;intro v' w' uh jL Es;obtain⟨DD,pc',JU⟩:=gZ uh;subst JU;have NA:∀ {b:Nat} {cs:Array Y} {T:Nat},T≠89->K.heap[b]?=aO cs T->w'.heap[b]?=aO cs T:=fun{b cs T} hT q=>by
    rw[jL.block b (bn q) (fun he=>?_)]
    .omega
    .rcases DC.2 with⟨E,-⟩| ⟨b',cap,cur,W,g2,g3,g4⟩
     .rw[E] at he;cases he
     .rw[W] at he;injection he with he;grind
   have oB:=NA zd hcA;have lc':=bn oB;have sw':=jL.size;refine dA Dj oB ?_;obtain⟨wE,O6⟩:=cj (bR w' w.heap.size (ah #[aW i.name,.slice DD (j+1) pc'] 180));have ahe:bR w' w.heap.size (ah (pF #[aW i.name,.slice pa j pc] 1 (Value.slice DD (j+1) pc').cells.toList) 180 (0,0))=wE:=O6.symm;first | rw[<- O6] | rw[ahe] | skip
   have hbE:∀ {b:Nat} {cs:Array Y} {T:Nat},T≠180->w'.heap[b]?=aO cs T->wE.heap[b]?=aO cs T:=yH;have hrt:∀ {b:Nat},(∃ cs,c.heap[b]?=aO cs 91)->b≠e.ψ m.f:=yH;refine⟨L-(j+1),zo,j+1,row.setIfInBounds i.s[j+1] vv,B++[c.heap.size],.slice DD (j+1) pc',zs,zo,J,?_,zo,zg,J,?_,?_,?_,yH,zg,?_⟩
   .have JV:=A.trans aO8;rw[O6];refine⟨jL.os.trans JV.os,jL.tape.trans JV.tape,jL.output.trans JV.output,yH,fun b o q hm=>?_⟩;have lb:=bn q;have hbA:=JV.block _ _ q hm;rw[jg zo,jL.block b zo (fun he=>?_)]
    .omega
    .rcases DC.2 with⟨E,-⟩| ⟨b',cap,cur,W,g2,g3,g4⟩
     .rw[E] at he;cases he
     .rw[W] at he;injection he with he;grind
   .refine⟨by simpa [pJ] using uh.1,?_⟩;rw[List.map_append,List.map_singleton];rw[xm] at uh;rcases uh.2 with E | ⟨b,cap,cur,W,g2,g3,g4⟩
    .omega
    .exact .inr ⟨b,cap,cur,W,g2,yH,g4⟩
   .intro b q;rcases List.mem_append.1 q with q | q
    .obtain⟨g1,g2⟩:=zR b q;exact⟨g1,hbE zo (NA zo (by grind [bD.block]))⟩
    grind [List.mem_singleton]
   .rw[List.nodup_append];refine⟨DS,zs,fun a M b q=>?_⟩;grind [List.mem_singleton,bn]
   .intro C y F;have Zl:i.s.tail.zipIdx[j]' zo=(i.s[j+1],j):=zg;rw[a5h zo,List.foldl_append,Zl] at F;simp only[a4N,List.foldl_nil,List.getElem?_set] at F;by_cases Cm:i.s[j+1]=C
    .rw[zip Cm,zip (by rw[jl];omega)] at F;refine⟨vv,zg,.inr ⟨j,c.heap.size,?_,zg,xm⟩⟩;grind
    .rw[bU Cm] at F;obtain⟨u,g1,g2⟩:=Q C y F;refine⟨u,zg,?_⟩;rcases g2 with g2 | ⟨a,b,g3,g4⟩<;>grind
  .have fm:j=L:=zo;subst fm;refine cJ Dj ?_;rw[a4Z zo] at Q;obtain⟨wg,hwg⟩:=cj (bR c (e.ψ m.f) (ah qY 20 (0,0)));have arz:=bn I;have hEg:Ext w wg:=by
    rw[hwg];refine⟨A.os,A.tape,A.output,yH,fun b o q _=>?_⟩;by_cases he:b=e.ψ m.f
    .exact yH
    grind [jg,bD.block]
   have hrt:∀ {b:Nat},(∃ cs,c.heap[b]?=aO cs 91)->b≠e.ψ m.f:=yH;obtain⟨bl,a0g⟩:∃ bl:Nat->Nat,∀ a b,B[a]?=O b->bl a=b:=⟨fun a=>B.getD a 0,zg⟩;have aPd:∀ a,a<j->∃ b,B[a]?=O b:=fun a M=>⟨_,a3P zo⟩;obtain⟨eP,hu,a0h,E⟩:=h.aOZ hD hEg (k:=j) (bl:=bl) (by grind [List.mem_of_getElem?,jg]) (fun a b M q he=>by
    obtain⟨c1,g1⟩:=aPd a M;grind [a4l,List.pairwise_iff_getElem,Nat.lt_trichotomy,absurd])
   have hfg:bD (fun b _=>b=e.ψ m.f) wg c:=by
    rw[hwg];refine⟨J,J,J,yH,fun b o q hm=>?_⟩;exact yH
   have hI:eJ w c:=fun b cs T hT q=>hold A (fun e=>hT (by rw[e];exact .inl (.inr zg))) q;obtain⟨h2,dX⟩:=E.setRow hfg hx (sl':=i.s.tail.zipIdx.foldl (fun s p=>s.set p.1 (.term (.var (m.n+p.2)))) x.slots) I (jl _) JR (fun C y F=>by
    obtain⟨u,g1,g2⟩:=Q C y F;refine⟨u,g1,?_⟩;rcases g2 with g2 | ⟨a,b,g3,rfl,rfl⟩
    .exact g2.bL hI hu
    .have M:a<j:=zg;show dO eP (m.n+j) c _ (.var (m.n+a));unfold dO dK;grind)
   have xz:P.look v m.sr.tr=none:=Jr hw;have ZB:=A.size;have hDj:∀ b,c.heap.size<=b->D b:=yH;have a0i:(B.map fun b=>Value.iface 87 (pp b))=ny eP (a4z m.n j):=by
    apply a5x;grind
   have aPg:ql eP (m.n+j) c (ny eP (a4z m.n j)) ((a4z m.n j).map .var):=(by grind [agO,List.mem_range']);have ahf:dO eP (m.n+j) c (ak 175 (pp w.heap.size)) (.comp i.name ((a4z m.n j).map .var)):=by
    unfold dO dK;exact⟨w.heap.size,sd,ny eP (a4z m.n j),J,trivial,gX,by grind [Vs],aPg⟩
   have dx:eB (.comp i.name ((a4z m.n j).map .var)):=by
    unfold eB;exact⟨mY,by simp;omega,P.agP _⟩
   have q:=apM h2.less Dy (h2.dn hDj) (i:=v) zg xz zg ahf dx FQ;rw[hu.2 v Rp] at q;refine a3L q ?_;rintro X w3 ⟨rfl,eI,tv3,gO⟩;obtain⟨h3,a0j⟩:=h2.store gO eI;refine bG ?_;rw[tY] at hr;subst hr;exact hR _ _ ⟨(dc.ea hEg).trans yF,J,eP,hu,_,_,_,_,_,h3⟩
end
open Go.Proofs.YtoegidfbnkaabaaGreatDoor.Sx
section
variable{p0 p1 p2 p3 p4 p5 p6 p7:Y}{w:Z}{R:Ending->Z->Prop}
def aPh:=cz w R [p0,p1] (gc [] [] []) func71
def aPi:=cz w R [p0,p1,p2] (gc [(2,[13])] [] [14]) func108
def oP(p0 p1:Y)(w:Z)(R:Ending->Z->Prop):Prop:=
 NC p0 fun t=>
 RD bdR (a4C 196 t 1) w (fun u=>
 RD bdR (a32 194 u) w (fun YP=>
 RD bdR (a5t #[194] 3 #[YP]) w (fun x=>
 PU (fun rec s d w1=>
  RD bdR (bo .lss 3 (.tmp 18) (.tmp 17) (s 18) x) w1 (fun y=>
  BS y (RD bdR (a5f 194 YP (s 18)) w1 (fun z=>
  RD bdR (a32 198 z) w1 (fun A=>
  WR bdR (Instr.alloc 198 G (aq #[])) w1 (fun e B=>
  WU bdR (a5e 198 e A) B (fun UG=>
  HD fun S=>S UG.drew /\
  vq bdR (a4C 198 e 0) S (fun C=>
  vq bdR (a32 9 C) S (fun D=>
  CA bdR 101 #[] UG.drew (fun E r=>
  S r /\
  RD bdR (Instr.lookup 240 E D ae) r (fun g=>
  RD bdR (a5t #[98] 3 #[g]) r (fun F=>
  PU (fun rec_1 a d_1 c=>
   RD bdR (bo .lss 3 (.tmp 27) (.tmp 26) (a 27) F) c (fun H=>
   BS H (RD bdR (a5f 98 g (a 27)) c (fun I=>
   RD bdR (a32 5 I) c (fun h=>
   JS (fun j=>
    RD bdR (bo .eql 5 (.tmp 31) (.const (.int .u8 115)) h (.int .u8 115)) c (fun i=>
    BS i (j (jo [(32,i)]) c) (RD bdR (bo .eql 5 (.tmp 31) (.const (.int .u8 112)) h (.int .u8 112)) c (fun K=>
    j (jo [(32,K)]) c) (PX R))) (PX R))
    (fun L d_2 b=>
    BS (L 32) (RD bdR (a4C 198 e 3) b (fun M=>
    RD bdR (a32 45 M) b (fun N=>
    RD bdR (a5f 45 N (a 7)) b (fun P=>
    RD bdR (a32 3 P) b (fun Q=>
    CA bdR 64 #[Q] b (fun T U=>
    WR bdR (a4L 39 1 #[(0,T)]) U (fun W X=>
    WR bdR (a4e #[39,39] 39 #[(a 6),W]) X (fun x43 O7=>
    RD bdR (bo .add 3 (.tmp 44) (.const (.int .i64 1)) (a 7) (.int .i64 1)) O7 (fun x45=>
    RD bdR (bo .add 3 (.tmp 27) (.const (.int .i64 1)) (a 27) (.int .i64 1)) O7 (fun x83=>
   rec_1 (jo [(6,x43),(7,x45),(27,x83)]) O7) (PX R)) (PX R)) (PX R)) (PX R)) (PC R)) (PX R)) (PX R)) (PX R)) (PX R)) (RD bdR (bo .eql 5 (.tmp 31) (.const (.int .u8 99)) h (.int .u8 99)) b (fun x47=>
    BS x47 (RD bdR (Instr.build 96 #[(1,(.int .i64 9))]) b (fun x48=>
    WR bdR (Instr.box 96 x48) b (fun x49 Mq=>
    RD bdR (Instr.build 103 #[(1,x49)]) Mq (fun x50=>
    WR bdR (Instr.alloc 103 G (aq #[])) Mq (fun UF Ow=>
    WU bdR (a5e 103 UF x50) Ow (fun Ox=>
    RD bdR (a4C 198 e 2) Ox (fun x51=>
    RD bdR (a32 89 x51) Ox (fun x52=>
    CA bdR 31 #[UF,x52,(.int .i64 0)] Ox (fun x53 k=>
    RD bdR (a4C 103 UF 0) k (fun x55=>
    CA bdR 33 #[x55] k (fun x56 aPM=>
    WR bdR (a4L 39 1 #[(0,x56)]) aPM (fun x57 aPO=>
    WR bdR (a4e #[39,39] 39 #[(a 6),x57]) aPO (fun x58 l=>
    RD bdR (bo .add 3 (.tmp 27) (.const (.int .i64 1)) (a 27) (.int .i64 1)) l (fun aPQ=>
   rec_1 (jo [(6,x58),(7,(a 7)),(27,aPQ)]) l) (PX R)) (PX R)) (PX R)) (PC R)) (PX R)) (PC R)) (PX R)) (PX R)) (PX R)) (PX R)) (PX R)) (PX R)) (PX R)) (RD bdR (bo .eql 5 (.tmp 31) (.const (.int .u8 110)) h (.int .u8 110)) b (fun x60=>
    BS x60 (RD bdR (a4C 198 e 1) b (fun x62=>
    RD bdR (a32 9 x62) b (fun x63=>
    WR bdR (a4L 39 1 #[(0,x63)]) b (fun x64 aPS=>
    WR bdR (a4e #[39,39] 39 #[(a 6),x64]) aPS (fun x65 m=>
    RD bdR (bo .add 3 (.tmp 27) (.const (.int .i64 1)) (a 27) (.int .i64 1)) m (fun aPT=>
   rec_1 (jo [(6,x65),(7,(a 7)),(27,aPT)]) m) (PX R)) (PX R)) (PX R)) (PX R)) (PX R)) (RD bdR (bo .eql 5 (.tmp 31) (.const (.int .u8 42)) h (.int .u8 42)) b (fun x67=>
    BS x67 (RD bdR (a4C 198 e 3) b (fun x68=>
    RD bdR (a32 45 x68) b (fun x69=>
    RD bdR (Instr.sliceAt 45 x69 (O (a 7)) V V) b (fun n=>
    RD bdR (a5t #[45] 3 #[n]) b (fun x72=>
    PU (fun rec_2 o d_3 f=>
     RD bdR (bo .lss 3 (.tmp 73) (.tmp 72) (o 73) x72) f (fun x74=>
     BS x74 (RD bdR (a5f 45 n (o 73)) f (fun UQ=>
     RD bdR (a32 3 UQ) f (fun x76=>
     CA bdR 64 #[x76] f (fun x79 aPV=>
     WR bdR (a4L 39 1 #[(0,x79)]) aPV (fun x80 aPX=>
     WR bdR (a4e #[39,39] 39 #[(o 6),x80]) aPX (fun x81 p=>
     RD bdR (bo .add 3 (.tmp 73) (.const (.int .i64 1)) (o 73) (.int .i64 1)) p (fun x82=>
     rec_2 (jo [(6,x81),(73,x82)]) p) (PX R)) (PX R)) (PX R)) (PC R)) (PX R)) (PX R)) (RD bdR (bo .add 3 (.tmp 27) (.const (.int .i64 1)) (a 27) (.int .i64 1)) f (fun aP0=>
   rec_1 (jo [(6,(o 6)),(7,(a 7)),(27,aP0)]) f) (PX R))) (PX R))
     (jo [(6,(a 6)),(73,(.int .i64 0))]) b) (PX R)) (PX R)) (PX R)) (PX R)) (RD bdR (bo .add 3 (.tmp 27) (.const (.int .i64 1)) (a 27) (.int .i64 1)) b (fun aP1=>
   rec_1 (jo [(6,(a 6)),(7,(a 7)),(27,aP1)]) b) (PX R))) (PX R))) (PX R))) (PX R)))) (PX R)) (PX R)) (RD bdR (a4C 198 e 0) c (fun x85=>
  RD bdR (a32 9 x85) c (fun x86=>
  CA bdR 108 #[p1,x86,(a 6)] c (fun x88 q=>
  RD bdR (bo .add 3 (.tmp 18) (.const (.int .i64 1)) (s 18) (.int .i64 1)) q (fun x89=>
  rec (jo [(18,x89)]) q) (PX R)) (PC R)) (PX R)) (PX R))) (PX R))
   (jo [(6,bW),(7,(.int .i64 0)),(27,(.int .i64 0))]) r) NX) NX) (M1 R)))) (PX R)) (PX R)) (PX R)) (PX R)) (R (ai (aq #[])) w1)) (PX R))
  (jo [(18,(.int .i64 0))]) w) (PX R)) (PX R)) (PX R)
def aP5(h:oP p0 p1 w R):Calls bdR 109 #[p0,p1] w R:=
 cq (args:=[p0,p1]) (Fu (zL [(1,[18]),(6,[6,7,27]),(21,[6,73])]) (zO [(10001,[32])]) (fun _=>0) (zO [(5,[0,1,2,5,0,3,4])]) (zL [(1,[]),(6,[]),(21,[])]) (zL [(10001,[])]) (zT [10001]) (zT [19,28,32,33,34,46,47,59,60,66,67,74])) func109 J zk zk h
def aP6:=cz w R [p0,p1,p2] (gd [(3,[14]),(7,[34])] [] [] [(5,[10,0,1,2,3,4,5,6,7,8,9,10])] [] [] [15,35]) func81
def aP7:=cz w R [p0] (gc [] [] []) func70
def aP8:=cz w R [p0,p1,p2] (gc [] [(2000,[30]),(3001,[])] [29,30]) func73
def aP9:=cz w R [p0,p1] (gc [] [(1000,[36]),(2001,[])] [34,35,36]) func72
def aQa:=cz w R [p0,p1] (gc [] [(2000,[19]),(3002,[])] [18,19]) func102
def aQb:=cz w R [] (gc [] [] []) func101
end
