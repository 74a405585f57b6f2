/- A part of one proof (SW2, SCon, SDoor, SBack, SOper, PureM, SArgs). -/
import Derived.Test.YtoegidfbnkaabaaGreatDoorPkIAE
import Derived.RangeFuncBox
import Derived.RangeFuncFrom
import Derived.RangeFuncLeaves
import Derived.Shelf.Abstract
import Derived.OwnWalkIn
import Derived.TacticsInMore
import Derived.LoopNIn
import Derived.LoopIn
set_option linter.all false
set_option maxRecDepth 100000
set_option maxHeartbeats 8000000
open Option renaming some → O, none → V
open Go renaming Value → Y, World → Z
open Bool renaming true → A, false → G
open Go.Obj renaming cells → ae
open Go.Ending renaming returned → ah
open Go.Value renaming nilIface → ai, tuple → ak, pointer → aq
open Option.some renaming injEq → a07
open Go.Lib renaming hid → a08
open Nat renaming le_trans → a1d
open Go.Obj renaming cells → a1K
open Go.Value renaming pointer → a1T
open Go.Proofs.Tryz renaming prog → bbc
open Go.Proofs.Tryz
namespace Go.Proofs.YtoegidfbnkaabaaGreatDoor
open P
open Go.RowKit
variable{F:Nat->Prop}{T:List P.Tok}{W w':Z}{av u v:Y}{b base bx c d j k n o pb tb:Nat}{cs:Array Y}{fn:Func}{vars:List P.Bs}{vs xs:List Y}
def SP.sb{w:Z}(h:SP w pb tb T k vars d):SB w pb:=by
 obtain⟨cap,vv,_,_,h,_⟩:=h.yW;exact⟨_,_,_,h⟩
def SP.l0{w:Z}(h:SP w pb tb T k vars d) :
  ∃ n c:Nat,w.cell? ⟨pb,0,V⟩=O (.slice (O ⟨tb,k*3,V⟩) n c)/\0<n/\n<=100000/\((tk T k).kind≠0->1<n)/\n<=c/\c<=9223372036854775807:=by
 obtain⟨cap,vv,b,e,a,_⟩:=h.yW;refine⟨_,_,cellOf a J,?_,?_,?_,?_,?_⟩
 .have:=h.kt;omega
 .have:=h.tw.len;omega
 .intro hk;have:=h.tw.next h.kt hk;omega
 .omega
 omega
def PN{w:Z}(hp:SP w pb tb T k vars d) :
  Calls bbc 48 #[pp pb] w fun e w'=>nA 2 (tk T k).pos w w' e/\dc pb w w'/\SB w' pb:=by
 obtain⟨n,c,h0,l0,l1,-,-,-⟩:=hp.l0;obtain⟨-,-,t2⟩:=hp.toks.at hp.kt;have xV:=a08 hp.sb;clear hp
 go_enter func48,ntmps48
 go_wp2_with fail
 refine(Cm _ _ _ pb xV.out).mono ?_;rintro e w' ⟨⟨b,rfl,hb⟩,hf,hs⟩;exact⟨J,⟨b,J,hb⟩,hf,hs⟩
def SI{w:Z}(hp:SP w pb tb T k vars d)(s:P.Bs)(h:dQ T k s=A) :
  Calls bbc 51 #[pp pb,aT s] w fun e w'=>
   e = ah (ak #[])/\SP w' pb tb T (k+1) vars d/\dc pb w w':=by
 have H:=a08 hp;have H2:=a08 h;clear hp h
 go_enter func51,ntmps51
 go_wp2_with fail
 refine(vu H.out s H2.out).mono ?_;rintro e w' ⟨rfl,h1,h2⟩;have H1:=a08 h1;have H2:=a08 h2;clear h1 h2
 go_wp2_with fail
 go_end0
 exact⟨J,H1.out,H2.out⟩
def SJ{w:Z}(hp:SP w pb tb T k vars d)(s:P.Bs)(h:dQ T k s=G)
  (hs:s.all P.digit=G) :
  Calls bbc 51 #[pp pb,aT s] w fun e w'=>
   nA 2 (tk T k).pos w w' e/\dc pb w w'/\SB w' pb:=by
 have H:=a08 hp;have H2:=a08 h;have H3:=a08 hs;clear hp h hs
 go_enter func51,ntmps51
 go_wp2_with fail
 refine(qM H.out s H2.out H3.out).mono ?_;rintro e w' ⟨rfl,rfl⟩
 go_wp2_with fail
 refine(PN H.out).mono ?_;rintro e w' ⟨⟨b,rfl,hb⟩,hf,hs⟩;exact⟨J,⟨b,J,hb⟩,hf,hs⟩
def SP.d2{w:Z}(h:SP w pb tb T k vars d) :
  w.cell? ⟨pb,2,V⟩=O (zi d)/\w.frozen? ⟨pb,2,V⟩=G/\pb<w.heap.size:=by
 obtain⟨cap,vv,b,c,a,_⟩:=h.yW;exact⟨cellOf a J,jX a 2,bh a⟩
abbrev Nh(w:Z)(pb:Nat)(d:Nat):Z:=
 (w.setCell ⟨pb,2,V⟩ (zi ((d:Int)+1))).alloc (ae #[pp pb] 139)
theorem SP.ext{w w':Z}{pb tb:Nat}{T:List P.Tok}{k:Nat}{vars:List P.Bs}{d:Nat}(h:SP w pb tb T k vars d)
  (hw:∀ (b:Nat) (o:Obj),w.heap[b]?=O o->w'.heap[b]?=O o):SP w' pb tb T k vars d:=by
 obtain⟨tw,lt,kt,nv,toks,cap,vv,a,c,e,g1,g2⟩:=h;obtain⟨ts,cs,t1,t2⟩:=toks;refine⟨tw,lt,kt,nv,⟨(by grind [Av.ext]),cs,hw _ _ t1,t2⟩,cap,vv,a,c,hw _ _ e,g1,?_⟩;rcases g2 with g | ⟨g,cp,cur,f,i,j,l⟩
 .grind
 .exact .inr ⟨g,cp,cur,f,i,hw _ _ j,l⟩
def SP.Nh{w:Z}{pb tb:Nat}{T:List P.Tok}{k:Nat}{vars:List P.Bs}{d:Nat}(h:SP w pb tb T k vars d):SP (Nh w pb d) pb tb T k vars (d+1):=by
 have a:SP (w.setCell ⟨pb,2,V⟩ (zi ((d:Int)+1))) pb tb T k vars (d+1):=by
  refine h.set h.kt (dc.GN (bB.refl _ _) _) (fun cp v2 hv=>?_) (by grind [blk_setCell_other]);rw[Bk hv];rfl
 exact a.ext (by grind [dX])
def akp(w:Z)(pb d:Nat):(Nh w pb d).heap.size=w.heap.size+1:=by rw[size_alloc,size_setCell]
def aBY(w:Z)(pb d:Nat):(Nh w pb d).heap[w.heap.size]?=aN #[pp pb] 139:=by
 grind [blk_alloc_new,size_setCell]
def akq(w:Z)(pb d:Nat):dc pb w (Nh w pb d):=(dc.GN (bB.refl _ _) _).alloc _
def Ax{w:Z}(hp:SP w pb tb T k vars d)(hd:d+1<=8) :
  Calls bbc 86 #[pp pb] w fun e w'=>
   e = ah (.func (.func 116) #[] #[pp w.heap.size])/\w'.heap.size=w.heap.size+1 /\
   w'.heap[w.heap.size]?=aN #[pp pb] 139/\SP w' pb tb T k vars (d+1)/\dc pb w w':=by
 obtain⟨h2,f2,hb⟩:=hp.d2;have H:=a08 hp;clear hp
 go_enter func86,ntmps86
 go_wp2_with fail
 go_ret
 exact⟨J,akp w pb d,aBY w pb d,H.out.Nh,akq w pb d⟩
def WJ{w:Z}(hp:SP w pb tb T k vars d)(hd:8<d+1)(xW:d<=100) :
  Calls bbc 86 #[pp pb] w fun e w'=>nA 4 (tk T k).pos w w' e/\dc pb w w'/\SB w' pb:=by
 obtain⟨h2,f2,hb⟩:=hp.d2;have ed:¬ tb=pb:=by have:=hp.lt;omega
 have Nk:¬ pb=tb:=zo;have tP:tb<w.heap.size:=by have:=hp.lt;omega
 have eY:=a08 hp.Nh;have eZ:=a08 (akq w pb d);obtain⟨n,c,h0,l0,l1,-,-,-⟩:=hp.l0;obtain⟨-,-,t2⟩:=hp.toks.at hp.kt;clear hp
 go_enter func86,ntmps86
 go_wp2_with fail
 refine(Cm _ _ _ pb eY.out.sb).mono ?_;rintro e w' ⟨⟨b,rfl,hb,hl⟩,hf,hs⟩;exact⟨J,⟨b,J,hb,a1d (a1d (Nat.le_succ _) (Nat.le_of_eq (akp w pb d).symm)) hl⟩,eZ.out.trans hf,hs⟩
abbrev abV(w:Z)(pb:Nat)(d:Int):Z:=w.setCell ⟨pb,2,V⟩ (zi d)
def aBZ{w:Z}(hp:SP w pb tb T k vars (d+1))
  (hx:w.heap[bx]?=aN #[pp pb] 139) (hd:d<=100) (u:FrameMode) :
  CallsD bbc 116 #[pp bx] u w fun e u' w'=>u'=u/\(e = ah (ak #[])/\SP w' pb tb T k vars d/\dc pb w w'/\w'.heap.size=w.heap.size):=by
 obtain⟨h2,f2,hb⟩:=hp.d2;have pF:w.cell? ⟨bx,0,V⟩=_:=cellOf hx J;have e1:((d+1:Nat):Int)=(d:Int)+1:=rfl;rw[e1] at h2;have ll:SP (abV w pb d) pb tb T k vars d:=by
  refine hp.set hp.kt (dc.GN (bB.refl _ _) _) (fun cp v2 hv=>?_) (by grind [blk_setCell_other]);rw[Bk hv];rfl
 have tN:dc pb w (abV w pb d):=dc.GN (bB.refl _ _) _;have jh:(abV w pb d).heap.size=w.heap.size:=size_setCell _ _ _;have H1:=a08 ll;have H2:=a08 tN;have H3:=a08 jh;clear ll tN jh hp e1 hx;have e2:((d:Int)+1-1)=d:=zo
 go_enter_d func116,ntmps116
 go_wp2_with fail
 go_end0
 exact⟨J,H1.out,H2.out,H3.out⟩
def aB0{w:Z}(hp:SB w pb)
  (hx:w.heap[bx]?=aN #[pp pb] 139) (u:FrameMode) :
  CallsD bbc 116 #[pp bx] u w fun e u' w'=>u'=u/\(e = ah (ak #[])/\SB w' pb/\dc pb w w'/\w'.heap.size=w.heap.size/\∀ b,b≠pb->w'.heap[b]?=w.heap[b]?):=by
 obtain⟨lv,vv,d,h⟩:=hp;have h2:w.cell? ⟨pb,2,V⟩=_:=cellOf h J;have f2:=jX h 2;have pF:w.cell? ⟨bx,0,V⟩=_:=cellOf hx J;have ll:∀ x,SB (w.setCell ⟨pb,2,V⟩ (zi x)) pb:=fun x=>⟨lv,vv,x,by rw[Bk h];rfl⟩;have tN:∀ x,dc pb w (w.setCell ⟨pb,2,V⟩ (zi x)):=(by grind [dc.GN,bB.refl]);have H1:=a08 ll;have H2:=a08 tN;clear ll tN hx h
 go_enter_d func116,ntmps116
 go_wp2_with fail
 go_end0
 exact⟨J,H1.out _,H2.out _,size_setCell _ _ _,(by grind [blk_setCell_other])⟩
def lH(F:Nat->Prop)(w:Z)(v:Y)(l:List Ex):Prop:=∃ vs,fJ F w 106 v vs/\eM F w vs l
def KA(F:Nat->Prop)(w:Z)(v:Y)(l:List Bd):Prop:=∃ vs,fJ F w 84 v vs/\gF F w vs l
structure SL(f:Nat):Prop where
 go:∀ {pb tb:Nat} {T:List P.Tok} {k:Nat} {vars:List P.Bs} {d:Nat} {w:Z} {r:cd Ex},SP w pb tb T k vars d->d<=8 ->
  lC T f k vars d=O r->Calls bbc 117 #[pp pb] w (j8 eL pb tb T d w r)
structure PO(f:Nat):Prop where
 go:∀ {pb tb:Nat} {T:List P.Tok} {k:Nat} {vars:List P.Bs} {d:Nat} {w:Z} {r:cd (List Ex)} (at_:Nat),SP w pb tb T k vars d->d<=8 ->
  mR T f k vars d at_ []=O r->Calls bbc 50 #[pp pb,zi at_] w (j8 lH pb tb T d w r)
structure SM(f:Nat):Prop where
 go:∀ {pb tb:Nat} {T:List P.Tok} {k:Nat} {vars:List P.Bs} {d:Nat} {w:Z} {r:cd Ex},SP w pb tb T k vars d->d<=8 ->
  oq T f k vars d=O r->Calls bbc 142 #[pp pb] w (j8 eL pb tb T d w r)
structure Nn(f:Nat):Prop where
 go:∀ {pb tb:Nat} {T:List P.Tok} {k:Nat} {vars:List P.Bs} {d:Nat} {w:Z} {r:cd Ex} (lvl:Nat),lvl<=2->SP w pb tb T k vars d->d<=8 ->
  gW T f lvl k vars d=O r->Calls bbc 91 #[pp pb,zi lvl] w (j8 eL pb tb T d w r)
structure IG(f:Nat):Prop where
 go:∀ {pb tb:Nat} {T:List P.Tok} {k:Nat} {vars:List P.Bs} {d:Nat} {w:Z} {r:cd Ex},SP w pb tb T k vars d->d<=8 ->
  gW T f 0 k vars d=O r->Calls bbc 60 #[pp pb] w (j8 eL pb tb T d w r)
structure abW:Prop where
 go:∀ {pb tb:Nat} {T:List P.Tok} {k:Nat} {vars:List P.Bs} {d:Nat} {w:Z} (t:P.Tok),SP w pb tb T k vars d->t.text≠[] ->
  Calls bbc 141 #[pp pb,.agg #[zi t.kind,aT t.text,zi t.pos]] w (j8 eL pb tb T d w (wN t k vars))
structure WL:Prop where
 go:∀ {w:Z} (s:P.Bs),s≠[]->s.all P.digit=A->s.length<=9 ->
  Calls bbc 135 #[aT s,zi 10,zi 64] w fun e w'=>e = ah (ak #[zi (P.num s),ai])/\Ext w w'
abbrev GO(w:Z)(pb tb k n c:Nat):Z:=w.setCell ⟨pb,0,V⟩ (.slice (O ⟨tb,k*3+3,V⟩) (n-1) (c-1))
def SP.on{w:Z}(h:SP w pb tb T k vars d)(hk:(tk T k).kind≠0) :
  ∃ n c:Nat,w.cell? ⟨pb,0,V⟩=O (.slice (O ⟨tb,k*3,V⟩) n c)/\w.frozen? ⟨pb,0,V⟩=G/\pb<w.heap.size/\1<n/\n<=100000/\n<=c/\c<=9223372036854775807 /\
   SP (GO w pb tb k n c) pb tb T (k+1) vars d/\dc pb w (GO w pb tb k n c):=by
 obtain⟨tw,lt,kt,nv,toks,cap,vv,e,f,a,g1,g2⟩:=h;have i:=tw.next kt hk
 have o:=tw.len;have b:dc pb w (GO w pb tb k (T.length-k) (cap-k)):=dc.GN (bB.refl _ _) _;refine⟨T.length-k,cap-k,cellOf a J,jX a 0,bh a,zo,zo,zo,zo,?_,b⟩;refine⟨tw,lt,i,nv,b.toks lt toks,cap,vv,e,f,?_,g1,?_⟩
 .rw[Bk a];grind
 .rcases g2 with g | ⟨g,cp,cur,j,l,p,m⟩
  .grind
  .refine .inr ⟨g,cp,cur,j,l,?_,m⟩;grind [blk_setCell_other]
def WM{α:Type}(I:(Nat->Prop)->Z->Y->α->Prop):Prop:=
 ∀ (F F':Nat->Prop) (pb:Nat) (w w':Z) (v:Y) (x:α),I F w v x->dc pb w w'->(∀ b,F b->b≠pb/\F' b)->I F' w' v x
def KB:WM eL:=fun F F' pb w w' v x h a b=>(by grind [eL.mono,dc.lG])
def GP:WM dP:=fun F F' pb w w' v x h a b=>(by grind [dP.mono,dc.lG])
def aB1:WM lH:=fun F F' pb w w' v x h a e=>by
 obtain⟨vs,c,f⟩:=h;exact⟨vs,c.mono zg fun b cs g d=>a.lG ⟨zg,J⟩ d zg,
  (by grind [eM.mono,dc.lG])⟩
abbrev SN(bx:Nat):Deferred:={ target:=.fn (.func 116) #[pp bx],args:=#[] }
def akr(bx:Nat)(w:Z):(invoke (SN bx).target (SN bx).args).run bbc w = .ok (.enter 116 #[pp bx]) w:=by
 simp [go_sem]
def yY{α:Type}{I:(Nat->Prop)->Z->Y->α->Prop}(c:WM I){vs:List P.Bs}{w a:Z}
 {tmps:Array Y} {x:α} (i:fn.results=#[.tmp j])
  (l:pb<w.heap.size) (f:SP a pb tb T k vs (d+1)) (m:d<=8)
  (hx:a.heap[bx]?=aN #[pp pb] 139) (hv:I (Nu w a) a (tmps.getD j undef) x) (g:dc pb w a) :
  bodyPostD bbc fn (j8 I pb tb T d w (.ok x k vs)) .ret { tmps:=tmps,defers:=[SN bx] } a:=by
 refine leaves_cons zs (akr bx a) ((aBZ f hx zo _).mono ?_);rintro e u w' ⟨rfl,rfl,h,b,n⟩;refine⟨_,(by grind [results_tmp]),_,J,c _ _ _ _ _ _ _ hv b ?_,h,g.trans b⟩;omega
def tR{α:Type}{I:(Nat->Prop)->Z->Y->α->Prop}{w f:Z}{a:Nat}
 {tmps:Array Y} {chain:List PanicEntry} (m:pb<w.heap.size) (g:SB f pb)
  (hx:f.heap[bx]?=aN #[pp pb] 139) (hv:nA c a w f (.panicked chain)) (h:dc pb w f) :
  bodyPostD bbc fn (j8 I pb tb T d w (.err c a)) (.panic chain) { tmps:=tmps,defers:=[SN bx] } f:=by
 obtain⟨b,i,n,j⟩:=hv;cases i;refine leaves_cons zs (akr bx f) ((aB0 g hx _).mono ?_);rintro e u w' ⟨rfl,rfl,k,l,o,p⟩;exact⟨⟨b,J,zg,j⟩,h.trans l,k⟩
def KD{w:Z}{name:P.Bs}{n:Int}(a:F b)
  (h:w.heap[b]?=aN #[.int .u8 pb,aT name,zi n,zi k,bX] 178) :
  eL F w (pp b) (.mk pb name n k []):=by
 unfold eL;exact⟨b,_,[],J,a,h,.inl ⟨J,J⟩,by unfold eM;rfl⟩
theorem Fh{w:Z}{o:Obj}(h:n=w.heap.size):(w.alloc o).heap[n]?=O o:=by grind [blk_alloc_new]
theorem SP.setOther{w:Z}{x:Nat}{t:TypeId}{z:Nat×Nat}(h:SP w pb tb T k vars d)
  (hx:w.heap[x]?=O (ae cs t z)) (ht:t≠9) (i:x≠pb) (j:tb<x) (v:Y):SP (w.setCell ⟨x,o,V⟩ v) pb tb T k vars d:=by
 obtain⟨tw,lt,kt,nv,⟨l,ts,t1,t2⟩,cap,vv,a,b,m,g1,g2⟩:=h;refine⟨tw,lt,kt,nv,⟨(by grind [blk_setCell_other,Av.ext]),ts,by grind [blk_setCell_other],t2⟩,cap,vv,a,b,
  by grind [blk_setCell_other],g1,?_⟩
 rcases g2 with g | ⟨g,cp,cur,c,e,n,f⟩
 .grind
 .refine .inr ⟨g,cp,cur,c,e,?_,f⟩;rw[blk_setCell_other]<;>grind
theorem lH.mono{F F':Nat->Prop}{w w':Z}{v:Y}{l:List Ex}(a:∀ b,F b->F' b)(hw:∀ b o,F b->DR o->w.heap[b]?=O o->w'.heap[b]?=O o)
  (h:lH F w v l):lH F' w' v l:=by
 obtain⟨vs,c,f⟩:=h;exact⟨vs,c.mono a fun b cs d e=>hw b _ d ⟨zg,J⟩ e,(by grind [eM.mono])⟩
def lH.set{w:Z}{l:List Ex}{x:Nat}(h:lH F w v l)(hx:∀ b,F b->b≠x)(u:Y):lH F (w.setCell ⟨x,o,V⟩ u) v l:=
 h.mono zg (by grind [blk_setCell_other])
theorem abX{w:Z}{name:P.Bs}{n:Int}{l:List Ex}(c:F b)
  (h:w.heap[b]?=aN #[.int .u8 pb,aT name,zi n,zi k,av] 178) (a:lH F w av l) :
  eL F w (pp b) (.mk pb name n k l):=by
 obtain⟨vs,d,e⟩:=a;unfold eL;grind
theorem fJ.shape{w:Z}{d:TypeId}(h:fJ F w d v vs):∃ a n c,v = .slice a n c/\n=vs.length/\n<=c/\(a=V->n=0):=by
 rcases h with⟨rfl,rfl⟩| ⟨b,cs,rfl,_,_,h,_⟩<;>grind
def eM.length{F:Nat->Prop}{w:Z}:∀ {l:List Ex} {vs:List Y},eM F w vs l->vs.length=l.length
 | [],vs,h=>by unfold eM at h;rw[h];rfl
 | x::xs,vs,h=>by
  unfold eM at h;obtain⟨v,r,rfl,_,a⟩:=h;simp [eM.length a]
theorem lH.shape{F:Nat->Prop}{w:Z}{v:Y}{l:List Ex}(h:lH F w v l):∃ a n c,v = .slice a n c/\n=l.length/\n<=c:=by
 obtain⟨vs,b,d⟩:=h;obtain⟨a,n,c,rfl,e,f,_⟩:=b.shape;exact⟨a,n,c,J,by rw[e,d.length],f⟩
theorem abY{w:Z}{x y:Ex}(a:F b)(h:w.heap[b]?=aN #[u,v] 106)(hx:eL F w u x)(c:eL F w v y) :
  lH F w (cV b 2 2) [x,y]:=by
 refine⟨[u,v],.inr ⟨b,#[u,v],J,a,h,Nat.le_refl _,J⟩,?_⟩;unfold eM;refine⟨u,[v],J,hx,?_⟩;unfold eM;refine⟨v,[],J,c,?_⟩;unfold eM;rfl
theorem SP.other{w:Z}{x:Nat}{t:TypeId}{z:Nat×Nat}(h:SP w pb tb T k vars d)
  (hx:w.heap[x]?=O (ae cs t z)) (ht:t≠9) (l:x≠pb) (m:tb<x) (hw:∀ (b:Nat) (o:Obj),b≠x->w.heap[b]?=O o->w'.heap[b]?=O o):SP w' pb tb T k vars d:=by
 obtain⟨tw,lt,kt,nv,⟨n,ts,t1,t2⟩,cap,vv,a,c,p,g1,g2⟩:=h;refine⟨tw,lt,kt,nv,⟨(by grind [Av.ext]),ts,zg,t2⟩,cap,vv,a,c,zg,g1,?_⟩;rcases g2 with g | ⟨g,cp,cur,e,f,i,j⟩
 .grind
 .refine .inr ⟨g,cp,cur,e,f,hw _ _ ?_ i,j⟩;grind
def SP.PQ{w:Z}{t:TypeId}(h:SP w pb tb T k vars d)
  (c:w.ownsRow base t 1 v n xs) (ht:t≠9) (l:pb<base) (f:w.grownBy w' v.ownBlock):SP w' pb tb T k vars d:=by
 have hlt:=h.lt;rcases c.2 with⟨rfl,_⟩| ⟨g,cap,cur,rfl,m,i,_⟩
 .exact h.ext (by grind [bh,Value.ownBlock,World.grownBy.block])
 .exact h.other i ht zo zo fun b o j a=>by rw[f.block b (bh a) (by simp only[Value.ownBlock];intro e;injection e with e;exact j e)];exact a
theorem bB.PR{M:Nat->Obj->Prop}{a b c:Z}{row:Option Nat}(h:bB M a b)(d:b.grownBy c row)(hr:∀ k,row=O k->a.heap.size<=k):bB M a c:=
 ⟨d.os.trans h.os,d.tape.trans h.tape,d.output.trans h.output,a1d h.size d.size,fun i o f hm=>by
  have g:=h.block i o f hm;rw[d.block i (bh g) (fun e=>by have:=hr i e.symm;have:=bh f;omega)];exact g⟩
theorem Fi{w:Z}{t:TypeId}(h:w.ownsRow base t 1 v n xs)(a:∀ b,v.ownBlock=O b->F b):fJ F w t v xs:=by
 obtain⟨j,⟨rfl,c⟩| ⟨g,cap,cur,rfl,c,d,e,k,l,m⟩⟩:=h
 .exact .inl zg
 .have f:xs.length=n:=zo;have i:cur.size=cap:=zo;subst f;subst i;exact .inr ⟨g,cur,J,a g J,d,e,zg⟩
def eM.snoc{F:Nat->Prop}{w:Z}{v:Y}{x:Ex}(hv:eL F w v x):∀ {l:List Ex} {vs:List Y},eM F w vs l->eM F w (vs++[v]) (l++[x])
 | [],vs,h=>by
  unfold eM at h;subst h;simp only[List.nil_append];unfold eM;exact⟨v,[],J,hv,by unfold eM;rfl⟩
 | y::l,vs,h=>by
  unfold eM at h;obtain⟨u,r,rfl,a,b⟩:=h;simp only[List.cons_append];unfold eM;exact⟨u,r++[v],J,a,eM.snoc hv b⟩
def aks:(Tryz.prog.info? 106).map (fun i=>(i.zero,i.size,i.bytes))=O (O (aq V),1,8):=zk
def akt{w:Z}{a:Addr}(h:w.cell? a=O v)(hw:∀ cs t z,w.heap[a.block]?=O (ae cs t z)->w'.heap[a.block]?=O (ae cs t z)):w'.cell? a=O v:=by
 grind [World.cell?,World.cell?_of_block]
def SP.aB2{w:Z}(h:SP w pb tb T k vars d)
  (hw:∀ (b:Nat) (cs:Array Y) (t:TypeId) (z:Nat×Nat),w.heap[b]?=O (ae cs t z)->w'.heap[b]?=O (ae cs t z)):SP w' pb tb T k vars d:=by
 obtain⟨tw,lt,kt,nv,toks,cap,vv,i,m,r,g1,g2⟩:=h;obtain⟨ts,cs,t1,t2⟩:=toks;refine⟨tw,lt,kt,nv,⟨⟨ts.lt,fun l n=>?_⟩,cs,zg,t2⟩,cap,vv,i,m,zg,g1,?_⟩
 .obtain⟨b,o,c,a,e,f⟩:=ts.GL l n;exact⟨b,o,c,a,akt e (hw _),fun j p=>akt (f j p) (hw _)⟩
 .rcases g2 with g | ⟨g,cp,cur,a,e,f,q⟩
  .grind
  .exact .inr ⟨g,cp,cur,a,e,zg,q⟩
def aB3{o:Obj}(h:DR o):∃ cs t z,o = ae cs t z:=by
 cases o with
 | cells cs t z=>grind
 | _=>exact h.elim
def eM.blocks{F:Nat->Prop}{w:Z}:∀ {l:List Ex} {vs:List Y},eM F w vs l->∃ bl:List Nat,vs=bl.map (fun b=>a1T (O ⟨b,0,V⟩))/\bl.length=l.length
 | [],vs,h=>by unfold eM at h;exact⟨[],zg,J⟩
 | x::l,vs,h=>by
  unfold eM at h;obtain⟨u,r,rfl,a,c⟩:=h;obtain⟨bl,rfl,e⟩:=eM.blocks c;cases x with
  | mk kind name n k args=>
   unfold eL at a;obtain⟨b,_,_,rfl,_⟩:=a;exact⟨b::bl,J,zg⟩
theorem eM.get{F:Nat->Prop}{w:Z}:∀ {l:List Ex} {bl:List Nat},eM F w (bl.map (fun b=>a1T (O ⟨b,0,V⟩))) l->∀ i (a:i<l.length),eL F w (pp (bl.getD i 0)) l[i]
 | [],bl,h,i,a=>zg
 | x::l,bl,h,i,a=>by
  unfold eM at h;obtain⟨u,r,e,d,c⟩:=h;cases bl with
  | nil=>grind
  | cons b bl=>
   simp only[List.map_cons,List.cons.injEq] at e;obtain⟨rfl,rfl⟩:=e;cases i with
   | zero=>grind
   | succ i=>simpa using eM.get c i zg
open Go.Shelf
attribute [local go_sem] Oper.semAt_some
def KE(X:Nat)(W a:Z):Prop:=∀ (b:Nat) (cs:Array Y) (t:TypeId) (z:Nat×Nat),b≠X->W.heap[b]?=O (ae cs t z)->a.heap[b]?=O (ae cs t z)
theorem KE.trans{X:Nat}{B C:Z}(h:KE X W B)(k:KE X B C):KE X W C:=fun b cs t z a c=>k b cs t z a (h b cs t z a c)
def IH(bl:List Nat)(k:Nat):List (Nat×Nat):=(List.range k).map fun j=>(bl.length-1-j,bl.getD (bl.length-1-j) 0)
def aku(bl:List Nat)(k:Nat):IH bl (k+1)=IH bl k++[(bl.length-1-k,bl.getD (bl.length-1-k) 0)]:=by simp [IH,List.range_succ]
def WO(bl:List Nat)(k:Nat):(IH bl k).length=k:=by simp [IH]
abbrev akv(x:Nat×Nat):Array Y:=#[zi x.1,pp x.2]
def aB4(F:Fence)(n:Nat)(h8:F.fn 175)(M5:F.round=V)(hn:1<=n)(l Bs g cap X:Nat)(bl:List Nat)(Nq:Bs≠X)(hX2:g≠X)(hlen:bl.length<=100000)
  (a Jx:List (Nat×Nat)->Z->Prop)
  (hY:∀ pre x W,a pre W->pre.length<bl.length->YieldAt F (n-1) bbc l (akv x) W fun e W'=>
   (e = ah (.bool A)/\a (pre++[x]) W'/\KE X W W')\/(e = ah (.bool G)/\Jx (pre++[x]) W'))
  (W:Z) (PS:W.heap[Bs]?=aN #[cV g bl.length cap] 83) (cur:Array Y) (hg:W.heap[g]?=aN cur 106)
  (hc:∀ j,j<bl.length->cur[j]?=O (pp (bl.getD j 0))) (h0:a [] W) :
  CallsIn F n bbc 175 #[.func (.yield l) #[] #[],pp Bs] W fun e W'=>(∃ v,e = ah v) /\
   ((∃ ys,ys=IH bl bl.length/\a ys W')\/(∃ pre,True/\Jx pre W')):=by
 have HC:=a08 hc;have HG:=a08 hg;have HB:=a08 PS;have HY:=a08 hY;have hBc:W.cell? ⟨Bs,0,V⟩=O (cV g bl.length cap):=cellOf PS J;obtain⟨len,hl⟩:=cg bl.length;rw[<- hl] at hlen hBc;have HL:=a08 hl;clear hl hc hg PS hY;refine callsIn_of_wp func175 J h8 ?_ M5;simp only[ntmps175,List.size_toArray,List.length_cons,List.length_nil,Nat.reduceAdd,Nat.reduceSub,Array.replicate_succ,Array.replicate_zero,List.push_toArray,List.append_toArray,List.nil_append,List.cons_append]
 gi_wp2
 gi_loopw [3] (fun i wr=>∃ k:Nat,k<=len/\i=zi ((len:Int)-1-k)/\a (IH bl k) wr/\KE X W wr)
  (fun i _=>(intOf i+1).toNat)
 case atStart=>exact⟨0,Nat.zero_le _,zs,h0,fun _ _ _ _ _ h=>h⟩
 case round=>
  obtain⟨k,hk,rfl,hJs,hnx⟩:=hrel;have HJ:=a08 hJs;have HN:=a08 hnx;have aUU:wr.cell? ⟨Bs,0,V⟩=O (cV g len cap):=by rw[HL.out];exact cellOf (HN.out _ _ _ _ Nq HB.out) J
  clear hJs hnx hBc;by_cases hlt:k<len
  .obtain⟨i,hi⟩:∃ i:Nat,i=len-1-k:=⟨_,J⟩;have hii:((len:Int)-1-k)=(i:Int):=zo;rw[hii];have hcx:wr.cell? ⟨g,i,V⟩=O (pp (bl.getD i 0)):=cellOf (HN.out _ _ _ _ hX2 HG.out) (by grind [Hid.out]);obtain⟨fn,tmps,assign,body,hy,hR⟩:=HY.out _ (i,bl.getD i 0) wr HJ.out (by rw[WO,<- HL.out];exact hlt);have mr:i<len:=zo;have hy2:(Instr.yield l #[zi (i:Int),pp (bl.getD i 0)]).run bbc wr = .ok (.round l fn tmps assign body) wr:=hy;clear hy;have HI:=a08 hi;have HII:=a08 hii;obtain⟨bb,xf⟩:=cg (bl.getD i 0);rw[<- xf] at hcx hy2;have HBB:=a08 xf;clear hi hii xf
   gi_wp2
   refine hR.mono ?_;rintro e W3 (⟨rfl,hJ3,ru⟩| ⟨rfl,aB8⟩)
   .gi_wp2
    go_roundw
    case rel=>
     refine⟨k+1,zo,?_,?_,HN.out.trans ru⟩
     .have:=HI.out;congr 1;omega
     .have:=HL.out;have e:=HI.out;rw[aku,<- this,<- e];exact hJ3
    case measure=>simp [intOf]
   .gi_wp2
    refine bodyPost_ret (results_none J _ _ _) J ?_;exact⟨⟨_,J⟩,.inr ⟨_,trivial,aB8⟩⟩
  .obtain rfl:k=len:=zo
   gi_wp2
   go_end0
   exact⟨⟨_,J⟩,.inl ⟨_,J,by rw[<- HL.out];exact HJ.out⟩⟩
def backward(a:Option Addr)(n c:Nat)(w:Z) :
  Calls bbc 162 #[.slice a n c] w fun e w'=>e = ah (.func (.func 175) #[] #[pp w.heap.size])/\w.alloc (ae #[.slice a n c] 83)=w':=by
 have hmf:∀ (fn:Fn) (first cap:Array Y) (w:Z),(Instr.makeFunc fn first cap).run bbc w = .ok (.func fn first cap) w:=fun _ _ _ _=>rfl
 go_enter func162,ntmps162
 go_wp2
 go_ret
 exact⟨J,J⟩
def aB9(F:Fence)(n:Nat)(f:F.fn 175)(h:F.round=V)(i:1<=n)(Bs g cap X:Nat)(bl:List Nat)(k:Bs≠X)(b:g≠X)(hlen:bl.length<=100000)(w:Z)
  (c:w.heap[Bs]?=aN #[cV g bl.length cap] 83) (cur:Array Y) (d:w.heap[g]?=aN cur 106)
  (m:∀ j,j<bl.length->cur[j]?=O (pp (bl.getD j 0))) :
  SeqStopsK F n bbc 175 #[pp Bs] akv (KE X) (fun o=>o=IH bl bl.length) (fun _=>True) bl.length w:=fun l a p W e _ _ q r=>
 aB4 F n f h i l Bs g cap X bl k b hlen a p q W (by rw[e.block Bs (bh c)];exact c) cur (by rw[e.block g (bh d)];exact d) m r
end Go.Proofs.YtoegidfbnkaabaaGreatDoor
namespace Go.Proofs.YtoegidfbnkaabaaGreatDoor
open P
open Go.RowKit
variable{F:Nat->Prop}{T:List P.Tok}{cap d f k k' pb tb:Nat}{v:Y}{vars:List P.Bs}{w0:Z}
def aCa(ab5:SL f){w:Z}{r:cd Ex}(hp:SP w pb tb T k vars d)(hd:d<=8)
  (h:lC T f k vars d=O r):Calls bbc 91 #[pp pb,zi 2] w (j8 eL pb tb T d w r):=by
 have H:=a08 hp;have HR:=a08 h;clear hp h
 go_enter func91,ntmps91
 go_wp2_with fail
 refine wp_scope_straight ?_
 go_wp2_with fail
 refine(ab5.go H.out hd HR.out).mono ?_;cases r with
 | err c0 a0=>
  rintro e w4 ⟨⟨b,rfl,eP,gH⟩,ea,gT⟩;exact⟨J,⟨b,J,eP,gH⟩,ea,gT⟩
 | ok x k' vs=>
  rintro e w4 ⟨v,rfl,hv,im,eF⟩;have HV:=a08 hv;have tS:=a08 im;have tT:=a08 eF;clear hv im eF
  go_wp2_with fail
  rw[Exit.noGoto_ret]
  go_ret
  exact⟨v,J,HV.out,tS.out,tT.out⟩
theorem eL.shape{w:Z}{x:Ex}(h:eL F w v x):∃ b,v=pp b/\F b:=by
 cases x with
 | mk kind name n k args=>
  unfold eL at h;obtain⟨b,_,_,a,c,_⟩:=h;exact⟨b,a,c⟩
noncomputable def aCb:Code:=match findLabel (match Tryz.f91.body with | some (.seq _ (.scope c))=>c | _=>.skip) 0 with | some (.seq _ x)=>x | _=>.skip
def OJ(pb tb:Nat)(T:List P.Tok)(lvl d:Nat)(w0:Z)(r:cd Ex)(n:Nat)(a:Act)(w:Z):Prop:=
 ∃ (x:Ex) (k:Nat) (vs:List P.Bs) (v b c e f g u8 h i j l m o p u16 q s t u y z B C D E F H I K L u32 M N Q R S:Y),a={ tmps:=#[pp pb,zi lvl,b,c,e,v,f,g,u8,h,i,j,l,m,o,p,u16,q,s,t,u,y,z,B,C,D,E,F,H,I,K,L,u32,M,N,Q,R,S],defers:=[] } /\
  eL (Nu w0 w) w v x/\SP w pb tb T k vs d/\dc pb w0 w/\mS T n lvl x k vs d=O r
def aCc(hl:cap<2)(xQ:∀ m,m<=f->Nn m){r:cd Ex}(hd:d<=8)(xY:pb<w0.heap.size)(n:Nat)(hn:n<=f)(a:Act)(w:Z)(hj:OJ pb tb T cap d w0 r n a w) :
  aCb.wp bbc (Exit.jump 0 (fun a' w'=>∃ m,m<n/\OJ pb tb T cap d w0 r m a' w') (bodyPost bbc Tryz.f91 (j8 eL pb tb T d w0 r))) a w:=by
 obtain⟨x,k,vs,v,u2,u3,u4,u6,u7,u8,u9,y5,y6,y7,xg,xh,y8,u16,y9,za,Cp,Cq,Cr,Cs,Ct,Cu,Cv,Cw,Cx,DY,DZ,D0,II,u32,IJ,Bw,Fk,GQ,GR,rfl,hx,hp,hf,hr⟩:=hj;obtain⟨bx,rfl,jL⟩:=hx.shape;cases n with
 | zero=>grind [mS]
 | succ n=>
 have iJ:=hr;rw[mS] at iJ;obtain⟨lb,lo,lc,WV,g1,g2⟩:=hp.toks.1.GL cap hl;obtain⟨L,hL⟩:=cg ((P.ops cap).length);rw[<- hL] at g1 g2;have hL3:L<=3:=by
  grind [P.ops]
 have gl:=hp.toks.1.lt;have glt:=hp.lt;have gpb:=hp.d2.2.2;have HP:=a08 hp;have HX:=a08 hx;have HF:=a08 hf;have HR:=a08 iJ;have HG:=a08 g2;have HL:=a08 hL;have AB:=a08 jL;have gsz:lb<w.heap.size:=zo;have aU1:2<w.heap.size:=zo;clear hp hx hf hr iJ g2 hL jL;change Code.wp _ (Code.seq _ _) _ _ _;have aU2:(cap:Int)<2:=zo
 go_wp2_with fail
 go_loop [5,20] (fun q i=>∃ j:Nat,j<=L/\i=zi j/\q=pp bx/\∀ j',j'<j->dQ T k ((P.ops cap).getD j' [])=G) (fun _ i=>L-(intOf i).toNat)
 case atStart=>grind
 case round=>
  obtain⟨j,hj,rfl,rfl,mi⟩:=hrel;have Fl:=a08 mi;clear mi;by_cases hlt:j<L
  .have oV:=HG.out j hlt;obtain⟨s,hs⟩:=cg ((P.ops cap).getD j []);rw[<- hs] at oV;have Nr:s.all P.digit=false:=by
    have hL:=HL.out;rw[hs];have h2:cap=0\/cap=1:=zo;rcases h2 with rfl | rfl
    .have:j=0\/j=1:=by grind [P.ops]
     rcases this with rfl | rfl<;>decide
    .have:j=0\/j=1\/j=2:=zo;rcases this with rfl | rfl | rfl<;>decide
   have HS:=a08 hs;have HSD:=a08 Nr;clear hs Nr;by_cases hc:dQ T k s=A
   .have HC:=a08 hc;clear hc
    go_wp2_with fail
    refine(vu HP.out s HC.out).mono ?_;rintro e w1 ⟨rfl,dI,gw⟩;have kK:=a08 dI;have iD:=a08 gw;clear dI gw
    go_wp2_with fail
    have e:=HR.out;have hl:=HL.out;rw[pz,aap (j:=j) zo (by rw[<- HS.out];exact HC.out) Fl.out,<- HS.out] at e;dsimp only at e;have aCd:=iD.out.size;cases hq:gW T n (cap+1) (k+1) vs d with
    | none=>rw[hq] at e;simp [cd.bind] at e
    | some q=>
     rw[hq] at e;refine((xQ n zo).go (cap+1) zo kK.out hd hq).mono ?_;cases q with
     | err c0 a0=>
      rintro e2 w4 ⟨⟨b,rfl,eP,gH⟩,ea,gT⟩;simp only[cd.bind,a07] at e;subst e;have WW:=HF.out.size;exact⟨J,⟨b,J,eP,zo⟩,(HF.out.trans iD.out).trans ea,gT⟩
     | ok y k' qO=>
      rintro e2 w4 ⟨v,rfl,hv,im,eF⟩;obtain⟨bY,rfl,hbY⟩:=hv.shape;have HV:=a08 hv;have tS:=a08 im;have tT:=a08 eF;have HE:=a08 e;have HBY:=a08 hbY;clear hv im eF e hbY hl hq
      go_wp2_with fail
      refine wp_goto ?_;have p8:=iD.out.size;have zb:=tT.out.size;have jL:=AB.out;have aCf:=iD.out.trans tT.out;have xU:eL (Nu w0 (((w4.alloc (a1K #[pp bx,pp bY] 106)).alloc (a1K #[.int .u8 99,aT s,zi 0,zi 0,cV w4.heap.size 2 2] 178)))) (((w4.alloc (a1K #[pp bx,pp bY] 106)).alloc (a1K #[.int .u8 99,aT s,zi 0,zi 0,cV w4.heap.size 2 2] 178))) (pp bx) x:=
       eL.mono (by grind [size_alloc]) (by grind [dX,dc.lG]) _ _ HX.out
      have hyy:eL (Nu w0 (((w4.alloc (a1K #[pp bx,pp bY] 106)).alloc (a1K #[.int .u8 99,aT s,zi 0,zi 0,cV w4.heap.size 2 2] 178)))) (((w4.alloc (a1K #[pp bx,pp bY] 106)).alloc (a1K #[.int .u8 99,aT s,zi 0,zi 0,cV w4.heap.size 2 2] 178))) (pp bY) y:=
       eL.mono (by grind [size_alloc,bB.size,Hid.out]) (by grind [dX]) _ _ HV.out
      have Ns:=HF.out.size;exact⟨J,n,Nat.lt_succ_self n,.mk 99 s 0 0 [x,y],k',qO,pp (w4.heap.size+1),_,_,_,_,_,_,_,_,_,_,_,_,_,_,_,_,_,_,_,_,_,_,_,_,_,_,_,_,_,_,_,_,_,_,_,J,
       (by grind [abX,size_alloc,Fh,abY,dX,blk_alloc_new]),
       (by grind [dX,SP.ext,Hid.out]),((HF.out.trans aCf).alloc _).alloc _,HE.out⟩
   .have nB:dQ T k s=false:=zg;have HC:=a08 nB;clear hc nB
    go_wp2_with fail
    refine(qM HP.out s HC.out HSD.out).mono ?_;rintro e w1 ⟨rfl,rfl⟩
    go_wp2_with fail
    go_round
    case rel=>exact⟨j+1,zo,by go_num,J,fun j' h'=>by
     rcases Nat.lt_or_ge j' j with h | h
     .exact Fl.out j' h
     .obtain rfl:j'=j:=zo;rw[<- HS.out];exact HC.out⟩
    case measure=>grind [intOf]
  .go_wp2_with fail
   rw[aua]
   go_ret
   have e:=HR.out;have hl:=HL.out;rw[pz,aiU (fun j' h'=>Fl.out j' zo)] at e;simp only[a07] at e;subst e;exact⟨_,J,HX.out,HP.out,HF.out⟩
def aCg(hl:cap<2)(xQ:∀ m,m<=f->Nn m){w:Z}{r:cd Ex}(hp:SP w pb tb T k vars d)(hd:d<=8)
  {q:cd Ex} (hq:gW T f (cap+1) k vars d=O q) (hr:cd.bind (O q) (fun x k' vars'=>mS T f cap x k' vars' d)=O r) :
  Calls bbc 91 #[pp pb,zi cap] w (j8 eL pb tb T d w r):=by
 have H:=a08 hp;have HR:=a08 hr;have HQ:=a08 hq;have pG:((cap:Int) == 2)=false:=zg;have xY:=hp.d2.2.2;clear hp hr hq
 go_enter func91,ntmps91
 go_wp2_with fail
 have PU:=a08 (aCc (T:=T) (tb:=tb) (r:=r) hl xQ hd xY);refine at7 0 (fun n a w'=>n<=f/\OJ pb tb T cap d w r n a w') J ?first ?pass
 case first=>
  intro _
  go_wp2_with fail
  refine((xQ f (Nat.le_refl _)).go (cap+1) zo H.out hd HQ.out).mono ?_;cases q with
  | err c0 a0=>
   rintro e w4 ⟨⟨b,rfl,eP,gH⟩,ea,gT⟩;have e:=HR.out;simp only[cd.bind,a07] at e;subst e;exact⟨J,⟨b,J,eP,gH⟩,ea,gT⟩
  | ok x k' vs=>
   rintro e w4 ⟨v,rfl,hv,im,eF⟩;have HV:=a08 hv;have tS:=a08 im;have tT:=a08 eF;clear hv im eF
   go_wp2_with fail
   refine wp_label ?_;rename_i K hK;refine hK _ _ ?_;refine wp_mono (PU.out f zo _ _ ⟨x,k',vs,v,_,_,_,_,_,_,_,_,_,_,_,_,_,_,_,_,_,_,_,_,_,_,_,_,_,_,_,_,_,_,_,_,_,_,_,J,HV.out,tS.out,tT.out,HR.out⟩) fun e a' w' hq=>?_;cases e with
   | goto l'=>obtain⟨e,m,hm,hi⟩:=hq;exact⟨e,m,zo,hi⟩
   | _=>exact hq
 case pass=>
  rintro n a w' ⟨hn,hj⟩;refine wp_seq (wp_skip ?_);refine wp_mono (PU.out n hn _ _ hj) fun e a' w' hq=>?_;grind
def aCh:Nn 0:=⟨fun _ _ _ _ h=>by simp [gW] at h⟩
theorem aCi(a:SL f)(i:∀ m,m<=f->Nn m):Nn (f+1):=by
 refine⟨fun{pb tb T k vars d w r} lvl j e g h=>?_⟩;rw[gW] at h;by_cases b:lvl=2
 .rw[zip b] at h;subst b;exact aCa a e g h
 .rw[bI b] at h;cases c:gW T f (lvl+1) k vars d with
  | none=>rw[c] at h;simp [cd.bind] at h
  | some q=>rw[c] at h;exact aCg zo i e g c h
theorem akC(xQ:Nn f):IG f:=by
 refine⟨fun{pb tb T k vars d w r} hp hd h=>?_⟩;have H:=a08 hp;have HR:=a08 h;clear hp h
 go_enter func60,ntmps60
 go_wp2_with fail
 refine(xQ.go 0 zo H.out hd HR.out).mono ?_;cases r with
 | err c0 a0=>
  rintro e w4 ⟨⟨b,rfl,eP,gH⟩,ea,gT⟩;exact⟨J,⟨b,J,eP,gH⟩,ea,gT⟩
 | ok x k' vs=>
  rintro e w4 ⟨v,rfl,hv,im,eF⟩;have HV:=a08 hv;have tS:=a08 im;have tT:=a08 eF;clear hv im eF
  go_wp2_with fail
  go_ret
  exact⟨v,J,HV.out,tS.out,tT.out⟩
namespace P
theorem ee{α β:Type}{r:Option (cd α)}{g:α->Nat->List Bs->Option (cd β)}{b:β}{v:List Bs}
  (h:cd.bind r g=O (.ok b k v)):∃ a c v1,r=O (.ok a c v1)/\g a c v1=O (.ok b k v):=by
 unfold cd.bind at h;grind
theorem mV{α:Type}{T:List Tok}{s:Bs}{x y:α}{v v':List Bs}(h:mj T s x k v=O (.ok y k' v')):k'=k+1/\y=x/\v'=v:=by
 grind [mj,a07,cd.ok.injEq]
theorem akD{t:Tok}{v v':List Bs}{x:Ex}(h:wN t k v = .ok x k' v'):k'=k:=by
 grind [wN]
structure aCj(T:List Tok)(f:Nat):Prop where
 Bx:∀ k v d x k' v',lC T f k v d=O (.ok x k' v')->k<k'
 args:∀ k v d a acc x k' v',mR T f k v d a acc=O (.ok x k' v')->k<k'
 list:∀ k v d x k' v',oq T f k v d=O (.ok x k' v')->k<k'
 elems:∀ k v d acc x k' v',oT T f k v d acc=O (.ok x k' v')->k<k'
 oper:∀ l k v d x k' v',gW T f l k v d=O (.ok x k' v')->k<k'
 more:∀ l y k v d x k' v',mS T f l y k v d=O (.ok x k' v')->k<=k'
theorem mono(T:List Tok):∀ f,aCj T f
 | 0=>⟨by simp_all [lC],by simp_all [mR],by simp_all [oq],by simp_all [oT],by simp_all [gW],by simp_all [mS]⟩
 | f+1=>by
  have ih:=mono T f;refine⟨?_,?_,?_,?_,?_,?_⟩
  .intro k v d x k' v' h;rw[lC] at h;split at h
   .grind
   split at h
   .grind
   split at h
   .grind [a07,akD]
   split at h
   .split at h
    .obtain⟨a,e,v1,c,b⟩:=ee h;have:=ih.args _ _ _ _ _ _ _ _ c;grind [mV]
    grind
   split at h
   .grind
   split at h
   .obtain⟨a,e,v1,c,b⟩:=ee h;have:=ih.oper _ _ _ _ _ _ _ c;grind [mV]
   split at h
   .have:=ih.list _ _ _ _ _ _ h;omega
   grind
  .intro k v d a acc x k' v' h;rw[mR] at h;obtain⟨y,e,v1,c,b⟩:=ee h;have:=ih.oper _ _ _ _ _ _ _ c;split at b
   .have:=ih.args _ _ _ _ _ _ _ _ b;omega
   grind
  .intro k v d x k' v' h;rw[oq] at h;split at h
   .grind
   .obtain⟨y,e,v1,c,b⟩:=ee h;have:=ih.elems _ _ _ _ _ _ _ c;split at b
    .obtain⟨z,i,v2,g,j⟩:=ee b;have:=ih.oper _ _ _ _ _ _ _ g;grind [mV]
    grind [mV]
  .intro k v d acc x k' v' h;rw[oT] at h;obtain⟨y,e,v1,c,b⟩:=ee h;have:=ih.oper _ _ _ _ _ _ _ c;split at b
   .have:=ih.elems _ _ _ _ _ _ _ b;omega
   grind
  .intro l k v d x k' v' h;rw[gW] at h;split at h
   .exact ih.Bx _ _ _ _ _ _ h
   .obtain⟨y,e,v1,c,b⟩:=ee h;have:=ih.oper _ _ _ _ _ _ _ c;have:=ih.more _ _ _ _ _ _ _ _ b;omega
  .intro l y k v d x k' v' h;rw[mS] at h;split at h
   .grind
   .obtain⟨z,e,v1,c,b⟩:=ee h;have:=ih.oper _ _ _ _ _ _ _ c;have:=ih.more _ _ _ _ _ _ _ _ b;omega
end P
def AJ(pb tb:Nat)(T:List P.Tok)(d at_:Nat)(w0:Z)(r:cd (List Ex))(n:Nat)(a:Act)(w:Z):Prop:=
 ∃ (acc:List Ex) (k:Nat) (vs:List P.Bs) (xs:List Y) (sl c e f g h u8 i j l m o p q u16 s t:Y),a={ tmps:=#[pp pb,zi at_,c,e,sl,f,g,h,u8,i,j,l,m,o,p,q,u16,s,t],defers:=[] } /\
  w.ownsRow w0.heap.size 106 1 sl acc.length xs/\eM (fun b=>Nu w0 w b/\sl.ownBlock≠O b) w xs acc/\SP w pb tb T k vs d/\dc pb w0 w/\acc.length<=k /\
  mR T n k vs d at_ acc=O r
def aCl(D2:∀ m,m<f->IG m){r:cd (List Ex)}(at_:Nat)(pH:SP w0 pb tb T k vars d)(hd:d<=8)
  (h:mR T f k vars d at_ []=O r):Calls bbc 50 #[pp pb,zi at_] w0 (j8 lH pb tb T d w0 r):=by
 have H:=a08 pH;have HR:=a08 h;have xY:=pH.d2.2.2;have hT:=pH.tw.len;obtain⟨i0,hi,KH,KI,KJ⟩:=info_parts aks;clear pH h
 go_enter func50,ntmps50
 go_wp2_with fail
 refine wp_loop_ghost (fun n a w=>n<=f/\AJ pb tb T d at_ w0 r n a w) ⟨f,Nat.le_refl _,[],k,vars,[],bX,_,_,_,_,_,_,_,_,_,_,_,_,_,_,_,_,J,World.ownsRow_nil _ _ _ _,by unfold eM;rfl,H.out,bB.refl _ _,Nat.zero_le _,HR.out⟩ ?_;rintro n a w ⟨hnf,acc,k,vs,xs,sl,u2,u3,u5,u6,u7,u8,u9,y5,y6,y7,xg,xh,y8,u16,y9,za,rfl,dY,lJ,hp,hf,WX,hr⟩;cases n with
 | zero=>grind [mR]
 | succ n=>
 rw[mR] at hr;have GS:=hp.kt;have hz:=hf.size;have HO:=a08 dY;have HX:=a08 lJ;have HP:=a08 hp;have HF:=a08 hf;have AD:=a08 hr;clear dY lJ hp hf hr H HR
 go_wp2_with fail
 cases hq:gW T n 0 k vs d with
 | none=>have e:=AD.out;rw[hq] at e;simp [cd.bind] at e
 | some q=>
 have e:=AD.out;rw[hq] at e;refine((D2 n zo).go HP.out hd hq).mono ?_;cases q with
 | err c0 a0=>
  rintro e2 w4 ⟨⟨b,rfl,eP,gH⟩,ea,gT⟩;simp only[cd.bind,a07] at e;subst e;exact⟨J,⟨b,J,eP,zo⟩,HF.out.trans ea,gT⟩
 | ok x k' qO=>
  rintro e2 w1 ⟨v,rfl,hv,dI,gw⟩;obtain⟨bx,rfl,jL⟩:=hv.shape;have nT:=(P.mono T n).oper _ _ _ _ _ _ _ hq;have ke:=dI.kt;have p8:=gw.size;have aU4:=dI.d2.2.2;have xZ:w1.ownsRow w0.heap.size 106 1 sl acc.length xs:=by
   obtain⟨g1,g2 | ⟨g,cp,cur,e1,e2,e3,e4⟩⟩:=HO.out
   .exact⟨g1,.inl g2⟩
   .exact⟨g1,.inr ⟨g,cp,cur,e1,e2,dc.lG gw ⟨zg,J⟩ e3 zo,e4⟩⟩
  have KK:eM (fun b=>Nu w0 w1 b/\sl.ownBlock≠O b) w1 xs acc:=
   eM.mono zg (by grind [dc.lG]) _ _ HX.out
  have vz:=a08 xZ;have mv:=a08 KK;have HV:=a08 hv;have kK:=a08 dI;have iD:=a08 (HF.out.trans gw);have HE:=a08 e;have AB:=a08 jL;have HK:=a08 nT;clear hv dI gw xZ KK e hq jL
  go_wp2_with (at_builtin;go_must (refine Sd J _ _ 83 J w0.heap.size 106 i0 _ 1 8 underlying83 hi KH KI KJ J zo _ _ _ J (vz.out.alloc _) ⟨w1.heap.size,0,V⟩ 1 1 [pp bx] J J (Pw J) (by simp [Value.oneCell']) (by grind [maxLen]) zo (by simp;omega) ?_;intro v' w2 tg zc By;obtain⟨g',rU,rfl⟩:=MZ tg;have GU:=a08 tg;have uB:=a08 zc;have SQ:=a08 By;clear tg zc By))
  have eY:SP w2 pb tb T k' qO d:=(kK.out.ext fun b o h=>dX (o:=a1K #[a1T (O ⟨bx,0,V⟩)] 106) h).PQ (vz.out.alloc _) zg zo uB.out;have eZ:dc pb w0 w2:=(iD.out.alloc _).PR uB.out fun k hk=>(vz.out.lt k hk).1;have jZ:=uB.out.size;rw[size_alloc] at jZ;have PV:∀ (b:Nat) (o:Obj),w1.heap[b]?=O o->sl.ownBlock≠O b->w2.heap[b]?=O o:=fun b o h ed=>by
   have h':=dX (o:=a1K #[a1T (O ⟨bx,0,V⟩)] 106) h;rw[uB.out.block b (bh h') (fun e=>ed e.symm)];omega
  have pJ:∀ b,b<w1.heap.size->sl.ownBlock≠O b->(Value.slice (O ⟨g',0,V⟩) (acc.length+1) rU).ownBlock≠O b:=fun b hb ed=>by
   rcases SQ.out with h | h
   .rw[h];exact ed
   grind [size_alloc]
  have hbn:∀ b,Nu w w1 b->sl.ownBlock≠O b:=fun b hb e=>by
   have:=(HO.out.lt b e).2;omega
  have akE:eM (fun b=>Nu w0 w2 b/\(Value.slice (O ⟨g',0,V⟩) (acc.length+1) rU).ownBlock≠O b) w2 (xs++[pp bx]) (acc++[x]):=
   eM.snoc (eL.mono zg zg _ _ HV.out)
    (eM.mono zg zg _ _ mv.out)
  have jb:=a08 eY;have fR:=a08 eZ;have SR:=a08 akE;clear eY eZ PV pJ hbn akE;have e:=HE.out;simp only[cd.bind] at e;by_cases hc:dQ T k' [44]=A
  .rw[zip hc] at e;refine(vu jb.out [44] hc).mono ?_;rintro e2 w3 ⟨rfl,gQ,ea⟩;have uC:=a08 gQ;have oA:=a08 ea;have GV:=a08 e;clear gQ ea e hc
   go_wp2_with fail
   have Fo:=oA.out.size;have jx:=jb.out.d2.2.2;have Nt:w3.ownsRow w0.heap.size 106 1 (cV g' (acc.length+1) rU) (acc.length+1) (xs++[pp bx]):=by
    obtain⟨g1,g2 | ⟨g,cp,cur,e1,e2,e3,e4⟩⟩:=GU.out
    .omega
    .exact⟨g1,.inr ⟨g,cp,cur,e1,e2,dc.lG oA.out ⟨zg,J⟩ e3 zo,e4⟩⟩
   exact⟨n,Nat.lt_succ_self n,zo,acc++[x],k'+1,qO,_,_,_,_,_,_,_,_,_,_,_,_,_,_,_,_,_,_,J,zg,
    eM.mono zg (by grind [dc.lG,Hid.out]) _ _ SR.out,
    uC.out,fR.out.trans oA.out,zg,GV.out⟩
  .rw[bI hc] at e;refine(qM jb.out [44] zg zd).mono ?_;rintro e2 w3 ⟨rfl,rfl⟩;have GV:=a08 e;clear e hc;have hl5:(acc++[x]).length=acc.length+1:=zs;have jx:=jb.out.d2.2.2;by_cases h4:acc.length+1<=4
   .go_wp2_with fail
    go_ret
    have e:=GV.out;rw[bI (by grind [Sa])] at e;simp only[a07] at e;subst e;exact⟨_,J,⟨_,Fi GU.out fun b hb=>⟨(GU.out.lt b hb).1,(GU.out.lt b hb).2⟩,eM.mono zg zg _ _ SR.out⟩,jb.out,fR.out⟩
   .have h4':4<acc.length+1:=zo
    go_wp2_with fail
    refine(Cm _ _ _ pb jb.out.sb).mono ?_;rintro e2 w4 ⟨⟨b,rfl,eP,gH⟩,ea,gT⟩;have e:=GV.out;rw[zip (by grind [Sa])] at e;simp only[a07] at e;subst e;exact⟨J,⟨b,J,eP,zo⟩,fR.out.trans ea,gT⟩
def aCm:PO 0:=⟨fun _ _ _ h=>by simp [mR] at h⟩
def aCn(a:∀ m,m<f->IG m):PO f:=⟨fun at_ b c h=>aCl a at_ b c h⟩
