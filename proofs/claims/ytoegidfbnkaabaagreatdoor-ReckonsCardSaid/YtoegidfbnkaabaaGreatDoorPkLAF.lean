/- A part of one proof (SW2, SCon, SDoor, SBack, SOper, PureM, SArgs). -/
import Derived.Test.YtoegidfbnkaabaaGreatDoorPkLAE
import Derived.RangeFuncBox
import Derived.RangeFuncFrom
import Derived.RangeFuncLeaves
import Derived.Shelf.Abstract
import Derived.OwnWalkIn
import Derived.TacticsInMore
import Derived.LoopNIn
import Derived.LoopIn
set_option linter.all false
set_option maxRecDepth 100000
set_option maxHeartbeats 8000000
open Option renaming some → O, none → V
open Go renaming Value → Y, World → Z
open Bool renaming true → A, false → G
open Go.Obj renaming cells → ae
open Go.Ending renaming returned → ah
open Go.Value renaming nilIface → ai, tuple → ak, pointer → aq
open Option.some renaming injEq → a1o
open Go.Lib renaming hid → a1p
open Nat renaming le_trans → a1t
open Go.Obj renaming cells → a17
open Go.Value renaming pointer → a2h
open Go.Proofs.Tryz renaming prog → bbq
open Go.Proofs.Tryz
namespace Go.Proofs.YtoegidfbnkaabaaGreatDoor
open P
open Go.RowKit
variable{F:Nat->Prop}{T:List P.Tok}{W w w':Z}{av u v:Y}{b base bx c d j k n o pb tb:Nat}{cs:Array Y}{fn:Func}{vars:List P.Bs}{vs xs:List Y}
def SP.sb(h:SP w pb tb T k vars d):SB w pb:=by
 obtain⟨cap,vv,_,_,h,_⟩:=h.yD;exact⟨_,_,_,h⟩
def SP.l0(h:SP w pb tb T k vars d) :
  ∃ n c:Nat,w.cell? ⟨pb,0,V⟩=O (.slice (O ⟨tb,k*3,V⟩) n c)/\0<n/\n<=100000/\((tk T k).kind≠0->1<n)/\n<=c/\c<=9223372036854775807:=by
 obtain⟨cap,vv,b,e,a,_⟩:=h.yD;refine⟨_,_,cellOf a J,?_,?_,?_,?_,?_⟩
 .have:=h.kt;omega
 .have:=h.tw.len;omega
 .intro hk;have:=h.tw.next h.kt hk;omega
 .omega
 omega
def Sy(hp:SP w pb tb T k vars d) :
  Calls bbq 48 #[pp pb] w fun e w'=>nw 2 (tk T k).pos w w' e/\db pb w w'/\SB w' pb:=by
 obtain⟨n,c,h0,l0,l1,-,-,-⟩:=hp.l0;obtain⟨-,-,t2⟩:=hp.toks.at hp.kt;have yG:=a1p hp.sb;clear hp
 go_enter func48,ntmps48
 go_wp2_with fail
 refine(Cb _ _ _ pb yG.out).mono ?_;rintro e w' ⟨⟨b,rfl,hb⟩,hf,hs⟩;exact⟨J,⟨b,J,hb⟩,hf,hs⟩
def Sz(hp:SP w pb tb T k vars d)(s:P.Bs)(h:dZ T k s=A) :
  Calls bbq 51 #[pp pb,aT s] w fun e w'=>
   e = ah (ak #[])/\SP w' pb tb T (k+1) vars d/\db pb w w':=by
 have H:=a1p hp;have H2:=a1p h;clear hp h
 go_enter func51,ntmps51
 go_wp2_with fail
 refine(vh H.out s H2.out).mono ?_;rintro e w' ⟨rfl,h1,h2⟩;have H1:=a1p h1;have H2:=a1p h2;clear h1 h2
 go_wp2_with fail
 go_end0
 exact⟨J,H1.out,H2.out⟩
def SA(hp:SP w pb tb T k vars d)(s:P.Bs)(h:dZ T k s=G)
  (hs:s.all P.digit=G) :
  Calls bbq 51 #[pp pb,aT s] w fun e w'=>
   nw 2 (tk T k).pos w w' e/\db pb w w'/\SB w' pb:=by
 have H:=a1p hp;have H2:=a1p h;have H3:=a1p hs;clear hp h hs
 go_enter func51,ntmps51
 go_wp2_with fail
 refine(qD H.out s H2.out H3.out).mono ?_;rintro e w' ⟨rfl,rfl⟩
 go_wp2_with fail
 refine(Sy H.out).mono ?_;rintro e w' ⟨⟨b,rfl,hb⟩,hf,hs⟩;exact⟨J,⟨b,J,hb⟩,hf,hs⟩
def SP.d2(h:SP w pb tb T k vars d) :
  w.cell? ⟨pb,2,V⟩=O (zi d)/\w.frozen? ⟨pb,2,V⟩=G/\pb<w.heap.size:=by
 obtain⟨cap,vv,b,c,a,_⟩:=h.yD;exact⟨cellOf a J,jJ a 2,bg a⟩
abbrev MJ(w:Z)(pb:Nat)(d:Nat):Z:=
 (w.setCell ⟨pb,2,V⟩ (zi ((d:Int)+1))).alloc (ae #[pp pb] 139)
theorem SP.ext{w w':Z}{pb tb:Nat}{T:List P.Tok}{k:Nat}{vars:List P.Bs}{d:Nat}(h:SP w pb tb T k vars d)
  (hw:∀ (b:Nat) (o:Obj),w.heap[b]?=O o->w'.heap[b]?=O o):SP w' pb tb T k vars d:=by
 obtain⟨tw,lt,kt,nv,toks,cap,vv,a,c,e,g1,g2⟩:=h;obtain⟨ts,cs,t1,t2⟩:=toks;refine⟨tw,lt,kt,nv,⟨(by grind [Al.ext]),cs,hw _ _ t1,t2⟩,cap,vv,a,c,hw _ _ e,g1,?_⟩;rcases g2 with g | ⟨g,cp,cur,f,i,j,l⟩
 .grind
 .exact .inr ⟨g,cp,cur,f,i,hw _ _ j,l⟩
def SP.MJ{w:Z}{pb tb:Nat}{T:List P.Tok}{k:Nat}{vars:List P.Bs}{d:Nat}(h:SP w pb tb T k vars d):SP (MJ w pb d) pb tb T k vars (d+1):=by
 have a:SP (w.setCell ⟨pb,2,V⟩ (zi ((d:Int)+1))) pb tb T k vars (d+1):=by
  refine h.set h.kt (db.Gu (bB.refl _ _) _) (fun cp v2 hv=>?_) (by grind [blk_setCell_other]);rw[Ba hv];rfl
 exact a.ext (by grind [dR])
def akd(w:Z)(pb d:Nat):(MJ w pb d).heap.size=w.heap.size+1:=by rw[size_alloc,size_setCell]
def aBN(w:Z)(pb d:Nat):(MJ w pb d).heap[w.heap.size]?=aO #[pp pb] 139:=by
 grind [blk_alloc_new,size_setCell]
def ake(w:Z)(pb d:Nat):db pb w (MJ w pb d):=(db.Gu (bB.refl _ _) _).alloc _
def An(hp:SP w pb tb T k vars d)(hd:d+1<=8) :
  Calls bbq 86 #[pp pb] w fun e w'=>
   e = ah (.func (.func 116) #[] #[pp w.heap.size])/\w'.heap.size=w.heap.size+1 /\
   w'.heap[w.heap.size]?=aO #[pp pb] 139/\SP w' pb tb T k vars (d+1)/\db pb w w':=by
 obtain⟨h2,f2,hb⟩:=hp.d2;have H:=a1p hp;clear hp
 go_enter func86,ntmps86
 go_wp2_with fail
 go_ret
 exact⟨J,akd w pb d,aBN w pb d,H.out.MJ,ake w pb d⟩
def WI(hp:SP w pb tb T k vars d)(hd:8<d+1)(vi:d<=100) :
  Calls bbq 86 #[pp pb] w fun e w'=>nw 4 (tk T k).pos w w' e/\db pb w w'/\SB w' pb:=by
 obtain⟨h2,f2,hb⟩:=hp.d2;have ee:¬ tb=pb:=by have:=hp.lt;omega
 have SD:¬ pb=tb:=zo;have tM:tb<w.heap.size:=by have:=hp.lt;omega
 have fa:=a1p hp.MJ;have eW:=a1p (ake w pb d);obtain⟨n,c,h0,l0,l1,-,-,-⟩:=hp.l0;obtain⟨-,-,t2⟩:=hp.toks.at hp.kt;clear hp
 go_enter func86,ntmps86
 go_wp2_with fail
 refine(Cb _ _ _ pb fa.out.sb).mono ?_;rintro e w' ⟨⟨b,rfl,hb,hl⟩,hf,hs⟩;exact⟨J,⟨b,J,hb,a1t (a1t (Nat.le_succ _) (Nat.le_of_eq (akd w pb d).symm)) hl⟩,eW.out.trans hf,hs⟩
abbrev abM(w:Z)(pb:Nat)(d:Int):Z:=w.setCell ⟨pb,2,V⟩ (zi d)
def aBO(hp:SP w pb tb T k vars (d+1))
  (hx:w.heap[bx]?=aO #[pp pb] 139) (hd:d<=100) (u:FrameMode) :
  CallsD bbq 116 #[pp bx] u w fun e u' w'=>u'=u/\(e = ah (ak #[])/\SP w' pb tb T k vars d/\db pb w w'/\w'.heap.size=w.heap.size):=by
 obtain⟨h2,f2,hb⟩:=hp.d2;have nR:w.cell? ⟨bx,0,V⟩=_:=cellOf hx J;have e1:((d+1:Nat):Int)=(d:Int)+1:=rfl;rw[e1] at h2;have kY:SP (abM w pb d) pb tb T k vars d:=by
  refine hp.set hp.kt (db.Gu (bB.refl _ _) _) (fun cp v2 hv=>?_) (by grind [blk_setCell_other]);rw[Ba hv];rfl
 have tL:db pb w (abM w pb d):=db.Gu (bB.refl _ _) _;have jr:(abM w pb d).heap.size=w.heap.size:=size_setCell _ _ _;have H1:=a1p kY;have H2:=a1p tL;have H3:=a1p jr;clear kY tL jr hp e1 hx;have e2:((d:Int)+1-1)=d:=zo
 go_enter_d func116,ntmps116
 go_wp2_with fail
 go_end0
 exact⟨J,H1.out,H2.out,H3.out⟩
def aBP(hp:SB w pb)
  (hx:w.heap[bx]?=aO #[pp pb] 139) (u:FrameMode) :
  CallsD bbq 116 #[pp bx] u w fun e u' w'=>u'=u/\(e = ah (ak #[])/\SB w' pb/\db pb w w'/\w'.heap.size=w.heap.size/\∀ b,b≠pb->w'.heap[b]?=w.heap[b]?):=by
 obtain⟨lv,vv,d,h⟩:=hp;have h2:w.cell? ⟨pb,2,V⟩=_:=cellOf h J;have f2:=jJ h 2;have nR:w.cell? ⟨bx,0,V⟩=_:=cellOf hx J;have kY:∀ x,SB (w.setCell ⟨pb,2,V⟩ (zi x)) pb:=fun x=>⟨lv,vv,x,by rw[Ba h];rfl⟩;have tL:∀ x,db pb w (w.setCell ⟨pb,2,V⟩ (zi x)):=(by grind [db.Gu,bB.refl]);have H1:=a1p kY;have H2:=a1p tL;clear kY tL hx h
 go_enter_d func116,ntmps116
 go_wp2_with fail
 go_end0
 exact⟨J,H1.out _,H2.out _,size_setCell _ _ _,(by grind [blk_setCell_other])⟩
def lO(F:Nat->Prop)(w:Z)(v:Y)(l:List Ex):Prop:=∃ vs,fJ F w 106 v vs/\eQ F w vs l
def J9(F:Nat->Prop)(w:Z)(v:Y)(l:List Bd):Prop:=∃ vs,fJ F w 84 v vs/\gy F w vs l
structure SE(f:Nat):Prop where
 go:∀ {pb tb:Nat} {T:List P.Tok} {k:Nat} {vars:List P.Bs} {d:Nat} {w:Z} {r:cj Ex},SP w pb tb T k vars d->d<=8 ->
  oP T f k vars d=O r->Calls bbq 117 #[pp pb] w (jW eP pb tb T d w r)
structure Pq(f:Nat):Prop where
 go:∀ {pb tb:Nat} {T:List P.Tok} {k:Nat} {vars:List P.Bs} {d:Nat} {w:Z} {r:cj (List Ex)} (at_:Nat),SP w pb tb T k vars d->d<=8 ->
  oQ T f k vars d at_ []=O r->Calls bbq 50 #[pp pb,zi at_] w (jW lO pb tb T d w r)
structure SF(f:Nat):Prop where
 go:∀ {pb tb:Nat} {T:List P.Tok} {k:Nat} {vars:List P.Bs} {d:Nat} {w:Z} {r:cj Ex},SP w pb tb T k vars d->d<=8 ->
  qu T f k vars d=O r->Calls bbq 142 #[pp pb] w (jW eP pb tb T d w r)
structure MK(f:Nat):Prop where
 go:∀ {pb tb:Nat} {T:List P.Tok} {k:Nat} {vars:List P.Bs} {d:Nat} {w:Z} {r:cj Ex} (lvl:Nat),lvl<=2->SP w pb tb T k vars d->d<=8 ->
  iZ T f lvl k vars d=O r->Calls bbq 91 #[pp pb,zi lvl] w (jW eP pb tb T d w r)
structure Ig(f:Nat):Prop where
 go:∀ {pb tb:Nat} {T:List P.Tok} {k:Nat} {vars:List P.Bs} {d:Nat} {w:Z} {r:cj Ex},SP w pb tb T k vars d->d<=8 ->
  iZ T f 0 k vars d=O r->Calls bbq 60 #[pp pb] w (jW eP pb tb T d w r)
structure abN:Prop where
 go:∀ {pb tb:Nat} {T:List P.Tok} {k:Nat} {vars:List P.Bs} {d:Nat} {w:Z} (t:P.Tok),SP w pb tb T k vars d->t.text≠[] ->
  Calls bbq 141 #[pp pb,.agg #[zi t.kind,aT t.text,zi t.pos]] w (jW eP pb tb T d w (Aa t k vars))
structure WJ:Prop where
 go:∀ {w:Z} (s:P.Bs),s≠[]->s.all P.digit=A->s.length<=9 ->
  Calls bbq 135 #[aT s,zi 10,zi 64] w fun e w'=>e = ah (ak #[zi (P.num s),ai])/\Ext w w'
abbrev Gv(w:Z)(pb tb k n c:Nat):Z:=w.setCell ⟨pb,0,V⟩ (.slice (O ⟨tb,k*3+3,V⟩) (n-1) (c-1))
def SP.on(h:SP w pb tb T k vars d)(hk:(tk T k).kind≠0) :
  ∃ n c:Nat,w.cell? ⟨pb,0,V⟩=O (.slice (O ⟨tb,k*3,V⟩) n c)/\w.frozen? ⟨pb,0,V⟩=G/\pb<w.heap.size/\1<n/\n<=100000/\n<=c/\c<=9223372036854775807 /\
   SP (Gv w pb tb k n c) pb tb T (k+1) vars d/\db pb w (Gv w pb tb k n c):=by
 obtain⟨tw,lt,kt,nv,toks,cap,vv,e,f,a,g1,g2⟩:=h;have i:=tw.next kt hk
 have o:=tw.len;have b:db pb w (Gv w pb tb k (T.length-k) (cap-k)):=db.Gu (bB.refl _ _) _;refine⟨T.length-k,cap-k,cellOf a J,jJ a 0,bg a,zo,zo,zo,zo,?_,b⟩;refine⟨tw,lt,i,nv,b.toks lt toks,cap,vv,e,f,?_,g1,?_⟩
 .rw[Ba a];grind
 .rcases g2 with g | ⟨g,cp,cur,j,l,p,m⟩
  .grind
  .refine .inr ⟨g,cp,cur,j,l,?_,m⟩;grind [blk_setCell_other]
def WL{α:Type}(I:(Nat->Prop)->Z->Y->α->Prop):Prop:=
 ∀ (F F':Nat->Prop) (pb:Nat) (w w':Z) (v:Y) (x:α),I F w v x->db pb w w'->(∀ b,F b->b≠pb/\F' b)->I F' w' v x
def Ka:WL eP:=fun F F' pb w w' v x h a b=>(by grind [eP.mono,db.lF])
def Gw:WL dJ:=fun F F' pb w w' v x h a b=>(by grind [dJ.mono,db.lF])
def aBQ:WL lO:=fun F F' pb w w' v x h a e=>by
 obtain⟨vs,c,f⟩:=h;exact⟨vs,c.mono zg fun b cs g d=>a.lF ⟨zg,J⟩ d zg,
  (by grind [eQ.mono,db.lF])⟩
abbrev SG(bx:Nat):Deferred:={ target:=.fn (.func 116) #[pp bx],args:=#[] }
def akf(bx:Nat)(w:Z):(invoke (SG bx).target (SG bx).args).run bbq w = .ok (.enter 116 #[pp bx]) w:=by
 simp [go_sem]
def yI{α:Type}{I:(Nat->Prop)->Z->Y->α->Prop}(c:WL I){vs:List P.Bs}{a:Z}
 {tmps:Array Y} {x:α} (f:fn.results=#[.tmp j])
  (m:pb<w.heap.size) (g:SP a pb tb T k vs (d+1)) (n:d<=8)
  (hx:a.heap[bx]?=aO #[pp pb] 139) (hv:I (Nu w a) a (tmps.getD j undef) x) (h:db pb w a) :
  bodyPostD bbq fn (jW I pb tb T d w (.ok x k vs)) .ret { tmps:=tmps,defers:=[SG bx] } a:=by
 refine leaves_cons zs (akf bx a) ((aBO g hx zo _).mono ?_);rintro e u w' ⟨rfl,rfl,i,b,l⟩;refine⟨_,(by grind [results_tmp]),_,J,c _ _ _ _ _ _ _ hv b ?_,i,h.trans b⟩;omega
def tN{α:Type}{I:(Nat->Prop)->Z->Y->α->Prop}{f:Z}{a:Nat}
 {tmps:Array Y} {chain:List PanicEntry} (m:pb<w.heap.size) (h:SB f pb)
  (hx:f.heap[bx]?=aO #[pp pb] 139) (hv:nw c a w f (.panicked chain)) (i:db pb w f) :
  bodyPostD bbq fn (jW I pb tb T d w (.err c a)) (.panic chain) { tmps:=tmps,defers:=[SG bx] } f:=by
 obtain⟨b,j,n,k⟩:=hv;cases j;refine leaves_cons zs (akf bx f) ((aBP h hx _).mono ?_);rintro e u w' ⟨rfl,rfl,g,l,o,p⟩;exact⟨⟨b,J,zg,k⟩,i.trans l,g⟩
def Kc{name:P.Bs}{n:Int}(a:F b)
  (h:w.heap[b]?=aO #[.int .u8 pb,aT name,zi n,zi k,bW] 178) :
  eP F w (pp b) (.mk pb name n k []):=by
 unfold eP;exact⟨b,_,[],J,a,h,.inl ⟨J,J⟩,by unfold eQ;rfl⟩
theorem EY{o:Obj}(h:n=w.heap.size):(w.alloc o).heap[n]?=O o:=by grind [blk_alloc_new]
theorem SP.setOther{x:Nat}{t:TypeId}{z:Nat×Nat}(h:SP w pb tb T k vars d)
  (hx:w.heap[x]?=O (ae cs t z)) (ht:t≠9) (i:x≠pb) (j:tb<x) (v:Y):SP (w.setCell ⟨x,o,V⟩ v) pb tb T k vars d:=by
 obtain⟨tw,lt,kt,nv,⟨l,ts,t1,t2⟩,cap,vv,a,b,m,g1,g2⟩:=h;refine⟨tw,lt,kt,nv,⟨(by grind [blk_setCell_other,Al.ext]),ts,by grind [blk_setCell_other],t2⟩,cap,vv,a,b,
  by grind [blk_setCell_other],g1,?_⟩
 rcases g2 with g | ⟨g,cp,cur,c,e,n,f⟩
 .grind
 .refine .inr ⟨g,cp,cur,c,e,?_,f⟩;rw[blk_setCell_other]<;>grind
theorem lO.mono{F F':Nat->Prop}{w w':Z}{v:Y}{l:List Ex}(a:∀ b,F b->F' b)(hw:∀ b o,F b->DE o->w.heap[b]?=O o->w'.heap[b]?=O o)
  (h:lO F w v l):lO F' w' v l:=by
 obtain⟨vs,c,f⟩:=h;exact⟨vs,c.mono a fun b cs d e=>hw b _ d ⟨zg,J⟩ e,(by grind [eQ.mono])⟩
def lO.set{l:List Ex}{x:Nat}(h:lO F w v l)(hx:∀ b,F b->b≠x)(u:Y):lO F (w.setCell ⟨x,o,V⟩ u) v l:=
 h.mono zg (by grind [blk_setCell_other])
theorem abO{name:P.Bs}{n:Int}{l:List Ex}(c:F b)
  (h:w.heap[b]?=aO #[.int .u8 pb,aT name,zi n,zi k,av] 178) (a:lO F w av l) :
  eP F w (pp b) (.mk pb name n k l):=by
 obtain⟨vs,d,e⟩:=a;unfold eP;grind
theorem fJ.shape{d:TypeId}(h:fJ F w d v vs):∃ a n c,v = .slice a n c/\n=vs.length/\n<=c/\(a=V->n=0):=by
 rcases h with⟨rfl,rfl⟩| ⟨b,cs,rfl,_,_,h,_⟩<;>grind
def eQ.length{F:Nat->Prop}{w:Z}:∀ {l:List Ex} {vs:List Y},eQ F w vs l->vs.length=l.length
 | [],vs,h=>by unfold eQ at h;rw[h];rfl
 | x::xs,vs,h=>by
  unfold eQ at h;obtain⟨v,r,rfl,_,a⟩:=h;simp [eQ.length a]
theorem lO.shape{F:Nat->Prop}{w:Z}{v:Y}{l:List Ex}(h:lO F w v l):∃ a n c,v = .slice a n c/\n=l.length/\n<=c:=by
 obtain⟨vs,b,d⟩:=h;obtain⟨a,n,c,rfl,e,f,_⟩:=b.shape;exact⟨a,n,c,J,by rw[e,d.length],f⟩
theorem abP{x y:Ex}(a:F b)(h:w.heap[b]?=aO #[u,v] 106)(hx:eP F w u x)(c:eP F w v y) :
  lO F w (cS b 2 2) [x,y]:=by
 refine⟨[u,v],.inr ⟨b,#[u,v],J,a,h,Nat.le_refl _,J⟩,?_⟩;unfold eQ;refine⟨u,[v],J,hx,?_⟩;unfold eQ;refine⟨v,[],J,c,?_⟩;unfold eQ;rfl
theorem SP.other{x:Nat}{t:TypeId}{z:Nat×Nat}(h:SP w pb tb T k vars d)
  (hx:w.heap[x]?=O (ae cs t z)) (ht:t≠9) (l:x≠pb) (m:tb<x) (hw:∀ (b:Nat) (o:Obj),b≠x->w.heap[b]?=O o->w'.heap[b]?=O o):SP w' pb tb T k vars d:=by
 obtain⟨tw,lt,kt,nv,⟨n,ts,t1,t2⟩,cap,vv,a,c,p,g1,g2⟩:=h;refine⟨tw,lt,kt,nv,⟨(by grind [Al.ext]),ts,zg,t2⟩,cap,vv,a,c,zg,g1,?_⟩;rcases g2 with g | ⟨g,cp,cur,e,f,i,j⟩
 .grind
 .refine .inr ⟨g,cp,cur,e,f,hw _ _ ?_ i,j⟩;grind
def SP.Ps{t:TypeId}(h:SP w pb tb T k vars d)
  (c:w.ownsRow base t 1 v n xs) (ht:t≠9) (l:pb<base) (f:w.grownBy w' v.ownBlock):SP w' pb tb T k vars d:=by
 have hlt:=h.lt;rcases c.2 with⟨rfl,_⟩| ⟨g,cap,cur,rfl,m,i,_⟩
 .exact h.ext (by grind [bg,Value.ownBlock,World.grownBy.block])
 .exact h.other i ht zo zo fun b o j a=>by rw[f.block b (bg a) (by simp only[Value.ownBlock];intro e;injection e with e;exact j e)];exact a
theorem bB.Pt{M:Nat->Obj->Prop}{a b c:Z}{row:Option Nat}(h:bB M a b)(d:b.grownBy c row)(hr:∀ k,row=O k->a.heap.size<=k):bB M a c:=
 ⟨d.os.trans h.os,d.tape.trans h.tape,d.output.trans h.output,a1t h.size d.size,fun i o hi hm=>by
  have f:=h.block i o hi hm;rw[d.block i (bg f) (fun e=>by have:=hr i e.symm;have:=bg hi;omega)];exact f⟩
theorem EZ{t:TypeId}(h:w.ownsRow base t 1 v n xs)(a:∀ b,v.ownBlock=O b->F b):fJ F w t v xs:=by
 obtain⟨j,⟨rfl,c⟩| ⟨g,cap,cur,rfl,c,d,e,k,l,m⟩⟩:=h
 .exact .inl zg
 .have f:xs.length=n:=zo;have i:cur.size=cap:=zo;subst f;subst i;exact .inr ⟨g,cur,J,a g J,d,e,zg⟩
def eQ.snoc{F:Nat->Prop}{w:Z}{v:Y}{x:Ex}(hv:eP F w v x):∀ {l:List Ex} {vs:List Y},eQ F w vs l->eQ F w (vs++[v]) (l++[x])
 | [],vs,h=>by
  unfold eQ at h;subst h;simp only[List.nil_append];unfold eQ;exact⟨v,[],J,hv,by unfold eQ;rfl⟩
 | y::l,vs,h=>by
  unfold eQ at h;obtain⟨u,r,rfl,a,b⟩:=h;simp only[List.cons_append];unfold eQ;exact⟨u,r++[v],J,a,eQ.snoc hv b⟩
def aki:(Tryz.prog.info? 106).map (fun i=>(i.zero,i.size,i.bytes))=O (O (aq V),1,8):=zk
def akj{a:Addr}(h:w.cell? a=O v)(hw:∀ cs t z,w.heap[a.block]?=O (ae cs t z)->w'.heap[a.block]?=O (ae cs t z)):w'.cell? a=O v:=by
 grind [World.cell?,World.cell?_of_block]
def SP.aBR(h:SP w pb tb T k vars d)
  (hw:∀ (b:Nat) (cs:Array Y) (t:TypeId) (z:Nat×Nat),w.heap[b]?=O (ae cs t z)->w'.heap[b]?=O (ae cs t z)):SP w' pb tb T k vars d:=by
 obtain⟨tw,lt,kt,nv,toks,cap,vv,i,m,r,g1,g2⟩:=h;obtain⟨ts,cs,t1,t2⟩:=toks;refine⟨tw,lt,kt,nv,⟨⟨ts.lt,fun l n=>?_⟩,cs,zg,t2⟩,cap,vv,i,m,zg,g1,?_⟩
 .obtain⟨b,o,c,a,e,f⟩:=ts.Gt l n;exact⟨b,o,c,a,akj e (hw _),fun j p=>akj (f j p) (hw _)⟩
 .rcases g2 with g | ⟨g,cp,cur,a,e,f,q⟩
  .grind
  .exact .inr ⟨g,cp,cur,a,e,zg,q⟩
def aBS{o:Obj}(h:DE o):∃ cs t z,o = ae cs t z:=by
 cases o with
 | cells cs t z=>grind
 | _=>exact h.elim
def eQ.blocks{F:Nat->Prop}{w:Z}:∀ {l:List Ex} {vs:List Y},eQ F w vs l->∃ bl:List Nat,vs=bl.map (fun b=>a2h (O ⟨b,0,V⟩))/\bl.length=l.length
 | [],vs,h=>by unfold eQ at h;exact⟨[],zg,J⟩
 | x::l,vs,h=>by
  unfold eQ at h;obtain⟨u,r,rfl,a,c⟩:=h;obtain⟨bl,rfl,e⟩:=eQ.blocks c;cases x with
  | mk kind name n k args=>
   unfold eP at a;obtain⟨b,_,_,rfl,_⟩:=a;exact⟨b::bl,J,zg⟩
theorem eQ.get{F:Nat->Prop}{w:Z}:∀ {l:List Ex} {bl:List Nat},eQ F w (bl.map (fun b=>a2h (O ⟨b,0,V⟩))) l->∀ i (hi:i<l.length),eP F w (pp (bl.getD i 0)) l[i]
 | [],bl,h,i,hi=>zg
 | x::l,bl,h,i,hi=>by
  unfold eQ at h;obtain⟨u,r,e,c,a⟩:=h;cases bl with
  | nil=>grind
  | cons b bl=>
   simp only[List.map_cons,List.cons.injEq] at e;obtain⟨rfl,rfl⟩:=e;cases i with
   | zero=>grind
   | succ i=>simpa using eQ.get a i zg
open Go.Shelf
attribute [local go_sem] Oper.semAt_some
def Kd(X:Nat)(W a:Z):Prop:=∀ (b:Nat) (cs:Array Y) (t:TypeId) (z:Nat×Nat),b≠X->W.heap[b]?=O (ae cs t z)->a.heap[b]?=O (ae cs t z)
theorem Kd.trans{X:Nat}{B C:Z}(h:Kd X W B)(k:Kd X B C):Kd X W C:=fun b cs t z a c=>k b cs t z a (h b cs t z a c)
def Ii(bl:List Nat)(k:Nat):List (Nat×Nat):=(List.range k).map fun j=>(bl.length-1-j,bl.getD (bl.length-1-j) 0)
def akk(bl:List Nat)(k:Nat):Ii bl (k+1)=Ii bl k++[(bl.length-1-k,bl.getD (bl.length-1-k) 0)]:=by simp [Ii,List.range_succ]
def WM(bl:List Nat)(k:Nat):(Ii bl k).length=k:=by simp [Ii]
abbrev akl(x:Nat×Nat):Array Y:=#[zi x.1,pp x.2]
def aBT(F:Fence)(n:Nat)(h8:F.fn 175)(Mz:F.round=V)(hn:1<=n)(l Bs g cap X:Nat)(bl:List Nat)(MM:Bs≠X)(hX2:g≠X)(hlen:bl.length<=100000)
  (a Jx:List (Nat×Nat)->Z->Prop)
  (hY:∀ pre x W,a pre W->pre.length<bl.length->YieldAt F (n-1) bbq l (akl x) W fun e W'=>
   (e = ah (.bool A)/\a (pre++[x]) W'/\Kd X W W')\/(e = ah (.bool G)/\Jx (pre++[x]) W'))
  (W:Z) (Pu:W.heap[Bs]?=aO #[cS g bl.length cap] 83) (cur:Array Y) (hg:W.heap[g]?=aO cur 106)
  (hc:∀ j,j<bl.length->cur[j]?=O (pp (bl.getD j 0))) (h0:a [] W) :
  CallsIn F n bbq 175 #[.func (.yield l) #[] #[],pp Bs] W fun e W'=>(∃ v,e = ah v) /\
   ((∃ ys,ys=Ii bl bl.length/\a ys W')\/(∃ pre,True/\Jx pre W')):=by
 have HC:=a1p hc;have HG:=a1p hg;have HB:=a1p Pu;have HY:=a1p hY;have hBc:W.cell? ⟨Bs,0,V⟩=O (cS g bl.length cap):=cellOf Pu J;obtain⟨len,hl⟩:=cg bl.length;rw[<- hl] at hlen hBc;have HL:=a1p hl;clear hl hc hg Pu hY;refine callsIn_of_wp func175 J h8 ?_ Mz;simp only[ntmps175,List.size_toArray,List.length_cons,List.length_nil,Nat.reduceAdd,Nat.reduceSub,Array.replicate_succ,Array.replicate_zero,List.push_toArray,List.append_toArray,List.nil_append,List.cons_append]
 gi_wp2
 gi_loopw [3] (fun i wr=>∃ k:Nat,k<=len/\i=zi ((len:Int)-1-k)/\a (Ii bl k) wr/\Kd X W wr)
  (fun i _=>(intOf i+1).toNat)
 case atStart=>exact⟨0,Nat.zero_le _,zs,h0,fun _ _ _ _ _ h=>h⟩
 case round=>
  obtain⟨k,hk,rfl,hJs,hnx⟩:=hrel;have HJ:=a1p hJs;have HN:=a1p hnx;have aUN:wr.cell? ⟨Bs,0,V⟩=O (cS g len cap):=by rw[HL.out];exact cellOf (HN.out _ _ _ _ MM HB.out) J
  clear hJs hnx hBc;by_cases hlt:k<len
  .obtain⟨i,hi⟩:∃ i:Nat,i=len-1-k:=⟨_,J⟩;have hii:((len:Int)-1-k)=(i:Int):=zo;rw[hii];have hcx:wr.cell? ⟨g,i,V⟩=O (pp (bl.getD i 0)):=cellOf (HN.out _ _ _ _ hX2 HG.out) (by grind [Hid.out]);obtain⟨fn,tmps,assign,body,hy,hR⟩:=HY.out _ (i,bl.getD i 0) wr HJ.out (by rw[WM,<- HL.out];exact hlt);have mj:i<len:=zo;have hy2:(Instr.yield l #[zi (i:Int),pp (bl.getD i 0)]).run bbq wr = .ok (.round l fn tmps assign body) wr:=hy;clear hy;have HI:=a1p hi;have HII:=a1p hii;obtain⟨bb,wI⟩:=cg (bl.getD i 0);rw[<- wI] at hcx hy2;have HBB:=a1p wI;clear hi hii wI
   gi_wp2
   refine hR.mono ?_;rintro e W3 (⟨rfl,hJ3,ri⟩| ⟨rfl,aBX⟩)
   .gi_wp2
    go_roundw
    case rel=>
     refine⟨k+1,zo,?_,?_,HN.out.trans ri⟩
     .have:=HI.out;congr 1;omega
     .have:=HL.out;have e:=HI.out;rw[akk,<- this,<- e];exact hJ3
    case measure=>simp [intOf]
   .gi_wp2
    refine bodyPost_ret (results_none J _ _ _) J ?_;exact⟨⟨_,J⟩,.inr ⟨_,trivial,aBX⟩⟩
  .obtain rfl:k=len:=zo
   gi_wp2
   go_end0
   exact⟨⟨_,J⟩,.inl ⟨_,J,by rw[<- HL.out];exact HJ.out⟩⟩
def backward(a:Option Addr)(n c:Nat)(w:Z) :
  Calls bbq 162 #[.slice a n c] w fun e w'=>e = ah (.func (.func 175) #[] #[pp w.heap.size])/\w.alloc (ae #[.slice a n c] 83)=w':=by
 have hmf:∀ (fn:Fn) (first cap:Array Y) (w:Z),(Instr.makeFunc fn first cap).run bbq w = .ok (.func fn first cap) w:=fun _ _ _ _=>rfl
 go_enter func162,ntmps162
 go_wp2
 go_ret
 exact⟨J,J⟩
def aBY(F:Fence)(n:Nat)(f:F.fn 175)(h:F.round=V)(i:1<=n)(Bs g cap X:Nat)(bl:List Nat)(k:Bs≠X)(b:g≠X)(hlen:bl.length<=100000)(w:Z)
  (c:w.heap[Bs]?=aO #[cS g bl.length cap] 83) (cur:Array Y) (d:w.heap[g]?=aO cur 106)
  (m:∀ j,j<bl.length->cur[j]?=O (pp (bl.getD j 0))) :
  SeqStopsK F n bbq 175 #[pp Bs] akl (Kd X) (fun o=>o=Ii bl bl.length) (fun _=>True) bl.length w:=fun l a p W e _ _ q r=>
 aBT F n f h i l Bs g cap X bl k b hlen a p q W (by rw[e.block Bs (bg c)];exact c) cur (by rw[e.block g (bg d)];exact d) m r
end Go.Proofs.YtoegidfbnkaabaaGreatDoor
namespace Go.Proofs.YtoegidfbnkaabaaGreatDoor
open P
open Go.RowKit
variable{F:Nat->Prop}{T:List P.Tok}{cap d f k k' pb tb:Nat}{v:Y}{vars:List P.Bs}{w w0:Z}
def aBZ(abU:SE f){r:cj Ex}(hp:SP w pb tb T k vars d)(hd:d<=8)
  (h:oP T f k vars d=O r):Calls bbq 91 #[pp pb,zi 2] w (jW eP pb tb T d w r):=by
 have H:=a1p hp;have HR:=a1p h;clear hp h
 go_enter func91,ntmps91
 go_wp2_with fail
 refine wp_scope_straight ?_
 go_wp2_with fail
 refine(abU.go H.out hd HR.out).mono ?_;cases r with
 | err c0 a0=>
  rintro e w4 ⟨⟨b,rfl,eL,gz⟩,dU,gJ⟩;exact⟨J,⟨b,J,eL,gz⟩,dU,gJ⟩
 | ok x k' vs=>
  rintro e w4 ⟨v,rfl,hv,jY,ez⟩;have HV:=a1p hv;have tP:=a1p jY;have tQ:=a1p ez;clear hv jY ez
  go_wp2_with fail
  rw[Exit.noGoto_ret]
  go_ret
  exact⟨v,J,HV.out,tP.out,tQ.out⟩
theorem eP.shape{x:Ex}(h:eP F w v x):∃ b,v=pp b/\F b:=by
 cases x with
 | mk kind name n k args=>
  unfold eP at h;obtain⟨b,_,_,a,c,_⟩:=h;exact⟨b,a,c⟩
noncomputable def aB0:Code:=match findLabel (match Tryz.f91.body with | some (.seq _ (.scope c))=>c | _=>.skip) 0 with | some (.seq _ x)=>x | _=>.skip
def OJ(pb tb:Nat)(T:List P.Tok)(lvl d:Nat)(w0:Z)(r:cj Ex)(n:Nat)(a:Act)(w:Z):Prop:=
 ∃ (x:Ex) (k:Nat) (vs:List P.Bs) (v b c e f g u8 h i j l m o p u16 q s t u y z B C D E F H I K L u32 M N Q R S:Y),a={ tmps:=#[pp pb,zi lvl,b,c,e,v,f,g,u8,h,i,j,l,m,o,p,u16,q,s,t,u,y,z,B,C,D,E,F,H,I,K,L,u32,M,N,Q,R,S],defers:=[] } /\
  eP (Nu w0 w) w v x/\SP w pb tb T k vs d/\db pb w0 w/\pj T n lvl x k vs d=O r
def aB1(hl:cap<2)(xD:∀ m,m<=f->MK m){r:cj Ex}(hd:d<=8)(xJ:pb<w0.heap.size)(n:Nat)(hn:n<=f)(a:Act)(w:Z)(hj:OJ pb tb T cap d w0 r n a w) :
  aB0.wp bbq (Exit.jump 0 (fun a' w'=>∃ m,m<n/\OJ pb tb T cap d w0 r m a' w') (bodyPost bbq Tryz.f91 (jW eP pb tb T d w0 r))) a w:=by
 obtain⟨x,k,vs,v,u2,u3,u4,u6,u7,u8,u9,yN,yO,yP,wJ,wK,yQ,u16,yR,yS,Ce,Cf,Cg,Ch,Ci,Cj,Ck,Cm,Cn,DL,DM,DN,Ij,u32,Ik,Bl,E1,Gx,Gy,rfl,hx,hp,hf,hr⟩:=hj;obtain⟨bx,rfl,jB⟩:=hx.shape;cases n with
 | zero=>grind [pj]
 | succ n=>
 have iu:=hr;rw[pj] at iu;obtain⟨lb,lo,lc,WS,g1,g2⟩:=hp.toks.1.Gt cap hl;obtain⟨L,hL⟩:=cg ((P.ops cap).length);rw[<- hL] at g1 g2;have hL3:L<=3:=by
  grind [P.ops]
 have gl:=hp.toks.1.lt;have glt:=hp.lt;have gpb:=hp.d2.2.2;have HP:=a1p hp;have HX:=a1p hx;have HF:=a1p hf;have HR:=a1p iu;have HG:=a1p g2;have HL:=a1p hL;have Ar:=a1p jB;have gsz:lb<w.heap.size:=zo;have aUU:2<w.heap.size:=zo;clear hp hx hf hr iu g2 hL jB;change Code.wp _ (Code.seq _ _) _ _ _;have aUV:(cap:Int)<2:=zo
 go_wp2_with fail
 go_loop [5,20] (fun q i=>∃ j:Nat,j<=L/\i=zi j/\q=pp bx/\∀ j',j'<j->dZ T k ((P.ops cap).getD j' [])=G) (fun _ i=>L-(intOf i).toNat)
 case atStart=>grind
 case round=>
  obtain⟨j,hj,rfl,rfl,mg⟩:=hrel;have E2:=a1p mg;clear mg;by_cases hlt:j<L
  .have nJ:=HG.out j hlt;obtain⟨s,hs⟩:=cg ((P.ops cap).getD j []);rw[<- hs] at nJ;have MN:s.all P.digit=false:=by
    have hL:=HL.out;rw[hs];have h2:cap=0\/cap=1:=zo;rcases h2 with rfl | rfl
    .have:j=0\/j=1:=by grind [P.ops]
     rcases this with rfl | rfl<;>decide
    .have:j=0\/j=1\/j=2:=zo;rcases this with rfl | rfl | rfl<;>decide
   have HS:=a1p hs;have HSD:=a1p MN;clear hs MN;by_cases hc:dZ T k s=A
   .have HC:=a1p hc;clear hc
    go_wp2_with fail
    refine(vh HP.out s HC.out).mono ?_;rintro e w1 ⟨rfl,dE,gj⟩;have ku:=a1p dE;have ix:=a1p gj;clear dE gj
    go_wp2_with fail
    have e:=HR.out;have hl:=HL.out;rw[O5,aai (j:=j) zo (by rw[<- HS.out];exact HC.out) E2.out,<- HS.out] at e;dsimp only at e;have aB2:=ix.out.size;cases hq:iZ T n (cap+1) (k+1) vs d with
    | none=>rw[hq] at e;simp [cj.bind] at e
    | some q=>
     rw[hq] at e;refine((xD n zo).go (cap+1) zo ku.out hd hq).mono ?_;cases q with
     | err c0 a0=>
      rintro e2 w4 ⟨⟨b,rfl,eL,gz⟩,dU,gJ⟩;simp only[cj.bind,a1o] at e;subst e;have WT:=HF.out.size;exact⟨J,⟨b,J,eL,zo⟩,(HF.out.trans ix.out).trans dU,gJ⟩
     | ok y k' wN=>
      rintro e2 w4 ⟨v,rfl,hv,jY,ez⟩;obtain⟨bY,rfl,hbY⟩:=hv.shape;have HV:=a1p hv;have tP:=a1p jY;have tQ:=a1p ez;have HE:=a1p e;have HBY:=a1p hbY;clear hv jY ez e hbY hl hq
      go_wp2_with fail
      refine wp_goto ?_;have pR:=ix.out.size;have Bm:=tQ.out.size;have jB:=Ar.out;have aB4:=ix.out.trans tQ.out;have xH:eP (Nu w0 (((w4.alloc (a17 #[pp bx,pp bY] 106)).alloc (a17 #[.int .u8 99,aT s,zi 0,zi 0,cS w4.heap.size 2 2] 178)))) (((w4.alloc (a17 #[pp bx,pp bY] 106)).alloc (a17 #[.int .u8 99,aT s,zi 0,zi 0,cS w4.heap.size 2 2] 178))) (pp bx) x:=
       eP.mono (by grind [size_alloc]) (by grind [dR,db.lF]) _ _ HX.out
      have hyy:eP (Nu w0 (((w4.alloc (a17 #[pp bx,pp bY] 106)).alloc (a17 #[.int .u8 99,aT s,zi 0,zi 0,cS w4.heap.size 2 2] 178)))) (((w4.alloc (a17 #[pp bx,pp bY] 106)).alloc (a17 #[.int .u8 99,aT s,zi 0,zi 0,cS w4.heap.size 2 2] 178))) (pp bY) y:=
       eP.mono (by grind [size_alloc,bB.size,Hid.out]) (by grind [dR]) _ _ HV.out
      have MO:=HF.out.size;exact⟨J,n,Nat.lt_succ_self n,.mk 99 s 0 0 [x,y],k',wN,pp (w4.heap.size+1),_,_,_,_,_,_,_,_,_,_,_,_,_,_,_,_,_,_,_,_,_,_,_,_,_,_,_,_,_,_,_,_,_,_,_,J,
       (by grind [abO,size_alloc,EY,abP,dR,blk_alloc_new]),
       (by grind [dR,SP.ext,Hid.out]),((HF.out.trans aB4).alloc _).alloc _,HE.out⟩
   .have oy:dZ T k s=false:=zg;have HC:=a1p oy;clear hc oy
    go_wp2_with fail
    refine(qD HP.out s HC.out HSD.out).mono ?_;rintro e w1 ⟨rfl,rfl⟩
    go_wp2_with fail
    go_round
    case rel=>exact⟨j+1,zo,by go_num,J,fun j' h'=>by
     rcases Nat.lt_or_ge j' j with h | h
     .exact E2.out j' h
     .obtain rfl:j'=j:=zo;rw[<- HS.out];exact HC.out⟩
    case measure=>grind [intOf]
  .go_wp2_with fail
   rw[atV]
   go_ret
   have e:=HR.out;have hl:=HL.out;rw[O5,aiH (fun j' h'=>E2.out j' zo)] at e;simp only[a1o] at e;subst e;exact⟨_,J,HX.out,HP.out,HF.out⟩
def aB5(hl:cap<2)(xD:∀ m,m<=f->MK m){r:cj Ex}(hp:SP w pb tb T k vars d)(hd:d<=8)
  {q:cj Ex} (hq:iZ T f (cap+1) k vars d=O q) (hr:cj.bind (O q) (fun x k' vars'=>pj T f cap x k' vars' d)=O r) :
  Calls bbq 91 #[pp pb,zi cap] w (jW eP pb tb T d w r):=by
 have H:=a1p hp;have HR:=a1p hr;have HQ:=a1p hq;have qF:((cap:Int) == 2)=false:=zg;have xJ:=hp.d2.2.2;clear hp hr hq
 go_enter func91,ntmps91
 go_wp2_with fail
 have Pw:=a1p (aB1 (T:=T) (tb:=tb) (r:=r) hl xD hd xJ);refine atU 0 (fun n a w'=>n<=f/\OJ pb tb T cap d w r n a w') J ?first ?pass
 case first=>
  intro _
  go_wp2_with fail
  refine((xD f (Nat.le_refl _)).go (cap+1) zo H.out hd HQ.out).mono ?_;cases q with
  | err c0 a0=>
   rintro e w4 ⟨⟨b,rfl,eL,gz⟩,dU,gJ⟩;have e:=HR.out;simp only[cj.bind,a1o] at e;subst e;exact⟨J,⟨b,J,eL,gz⟩,dU,gJ⟩
  | ok x k' vs=>
   rintro e w4 ⟨v,rfl,hv,jY,ez⟩;have HV:=a1p hv;have tP:=a1p jY;have tQ:=a1p ez;clear hv jY ez
   go_wp2_with fail
   refine wp_label ?_;rename_i K hK;refine hK _ _ ?_;refine wp_mono (Pw.out f zo _ _ ⟨x,k',vs,v,_,_,_,_,_,_,_,_,_,_,_,_,_,_,_,_,_,_,_,_,_,_,_,_,_,_,_,_,_,_,_,_,_,_,_,J,HV.out,tP.out,tQ.out,HR.out⟩) fun e a' w' hq=>?_;cases e with
   | goto l'=>obtain⟨e,m,hm,hi⟩:=hq;exact⟨e,m,zo,hi⟩
   | _=>exact hq
 case pass=>
  rintro n a w' ⟨hn,hj⟩;refine wp_seq (wp_skip ?_);refine wp_mono (Pw.out n hn _ _ hj) fun e a' w' hq=>?_;grind
def aB6:MK 0:=⟨fun _ _ _ _ h=>by simp [iZ] at h⟩
theorem aB7(a:SE f)(i:∀ m,m<=f->MK m):MK (f+1):=by
 refine⟨fun{pb tb T k vars d w r} lvl j e g h=>?_⟩;rw[iZ] at h;by_cases b:lvl=2
 .rw[zip b] at h;subst b;exact aBZ a e g h
 .rw[bM b] at h;cases c:iZ T f (lvl+1) k vars d with
  | none=>rw[c] at h;simp [cj.bind] at h
  | some q=>rw[c] at h;exact aB5 zo i e g c h
theorem aks(xD:MK f):Ig f:=by
 refine⟨fun{pb tb T k vars d w r} hp hd h=>?_⟩;have H:=a1p hp;have HR:=a1p h;clear hp h
 go_enter func60,ntmps60
 go_wp2_with fail
 refine(xD.go 0 zo H.out hd HR.out).mono ?_;cases r with
 | err c0 a0=>
  rintro e w4 ⟨⟨b,rfl,eL,gz⟩,dU,gJ⟩;exact⟨J,⟨b,J,eL,gz⟩,dU,gJ⟩
 | ok x k' vs=>
  rintro e w4 ⟨v,rfl,hv,jY,ez⟩;have HV:=a1p hv;have tP:=a1p jY;have tQ:=a1p ez;clear hv jY ez
  go_wp2_with fail
  go_ret
  exact⟨v,J,HV.out,tP.out,tQ.out⟩
namespace P
theorem eh{α β:Type}{r:Option (cj α)}{g:α->Nat->List Bs->Option (cj β)}{b:β}{v:List Bs}
  (h:cj.bind r g=O (.ok b k v)):∃ a c v1,r=O (.ok a c v1)/\g a c v1=O (.ok b k v):=by
 unfold cj.bind at h;grind
theorem oz{α:Type}{T:List Tok}{s:Bs}{x y:α}{v v':List Bs}(h:mR T s x k v=O (.ok y k' v')):k'=k+1/\y=x/\v'=v:=by
 grind [mR,a1o,cj.ok.injEq]
theorem akt{t:Tok}{v v':List Bs}{x:Ex}(h:Aa t k v = .ok x k' v'):k'=k:=by
 grind [Aa]
structure aB8(T:List Tok)(f:Nat):Prop where
 Cp:∀ k v d x k' v',oP T f k v d=O (.ok x k' v')->k<k'
 args:∀ k v d a acc x k' v',oQ T f k v d a acc=O (.ok x k' v')->k<k'
 list:∀ k v d x k' v',qu T f k v d=O (.ok x k' v')->k<k'
 elems:∀ k v d acc x k' v',q8 T f k v d acc=O (.ok x k' v')->k<k'
 oper:∀ l k v d x k' v',iZ T f l k v d=O (.ok x k' v')->k<k'
 more:∀ l y k v d x k' v',pj T f l y k v d=O (.ok x k' v')->k<=k'
theorem mono(T:List Tok):∀ f,aB8 T f
 | 0=>⟨by simp_all [oP],by simp_all [oQ],by simp_all [qu],by simp_all [q8],by simp_all [iZ],by simp_all [pj]⟩
 | f+1=>by
  have ih:=mono T f;refine⟨?_,?_,?_,?_,?_,?_⟩
  .intro k v d x k' v' h;rw[oP] at h;split at h
   .grind
   split at h
   .grind
   split at h
   .grind [a1o,akt]
   split at h
   .split at h
    .obtain⟨a,e,v1,c,b⟩:=eh h;have:=ih.args _ _ _ _ _ _ _ _ c;grind [oz]
    grind
   split at h
   .grind
   split at h
   .obtain⟨a,e,v1,c,b⟩:=eh h;have:=ih.oper _ _ _ _ _ _ _ c;grind [oz]
   split at h
   .have:=ih.list _ _ _ _ _ _ h;omega
   grind
  .intro k v d a acc x k' v' h;rw[oQ] at h;obtain⟨y,e,v1,c,b⟩:=eh h;have:=ih.oper _ _ _ _ _ _ _ c;split at b
   .have:=ih.args _ _ _ _ _ _ _ _ b;omega
   grind
  .intro k v d x k' v' h;rw[qu] at h;split at h
   .grind
   .obtain⟨y,e,v1,c,b⟩:=eh h;have:=ih.elems _ _ _ _ _ _ _ c;split at b
    .obtain⟨z,i,v2,g,j⟩:=eh b;have:=ih.oper _ _ _ _ _ _ _ g;grind [oz]
    grind [oz]
  .intro k v d acc x k' v' h;rw[q8] at h;obtain⟨y,e,v1,c,b⟩:=eh h;have:=ih.oper _ _ _ _ _ _ _ c;split at b
   .have:=ih.elems _ _ _ _ _ _ _ b;omega
   grind
  .intro l k v d x k' v' h;rw[iZ] at h;split at h
   .exact ih.Cp _ _ _ _ _ _ h
   .obtain⟨y,e,v1,c,b⟩:=eh h;have:=ih.oper _ _ _ _ _ _ _ c;have:=ih.more _ _ _ _ _ _ _ _ b;omega
  .intro l y k v d x k' v' h;rw[pj] at h;split at h
   .grind
   .obtain⟨z,e,v1,c,b⟩:=eh h;have:=ih.oper _ _ _ _ _ _ _ c;have:=ih.more _ _ _ _ _ _ _ _ b;omega
end P
def AJ(pb tb:Nat)(T:List P.Tok)(d at_:Nat)(w0:Z)(r:cj (List Ex))(n:Nat)(a:Act)(w:Z):Prop:=
 ∃ (acc:List Ex) (k:Nat) (vs:List P.Bs) (xs:List Y) (sl c e f g h u8 i j l m o p q u16 s t:Y),a={ tmps:=#[pp pb,zi at_,c,e,sl,f,g,h,u8,i,j,l,m,o,p,q,u16,s,t],defers:=[] } /\
  w.ownsRow w0.heap.size 106 1 sl acc.length xs/\eQ (fun b=>Nu w0 w b/\sl.ownBlock≠O b) w xs acc/\SP w pb tb T k vs d/\db pb w0 w/\acc.length<=k /\
  oQ T n k vs d at_ acc=O r
def aCa(DP:∀ m,m<f->Ig m){r:cj (List Ex)}(at_:Nat)(pw:SP w0 pb tb T k vars d)(hd:d<=8)
  (h:oQ T f k vars d at_ []=O r):Calls bbq 50 #[pp pb,zi at_] w0 (jW lO pb tb T d w0 r):=by
 have H:=a1p pw;have HR:=a1p h;have xJ:=pw.d2.2.2;have hT:=pw.tw.len;obtain⟨i0,hi,Kg,Kh,Ki⟩:=info_parts aki;clear pw h
 go_enter func50,ntmps50
 go_wp2_with fail
 refine wp_loop_ghost (fun n a w=>n<=f/\AJ pb tb T d at_ w0 r n a w) ⟨f,Nat.le_refl _,[],k,vars,[],bW,_,_,_,_,_,_,_,_,_,_,_,_,_,_,_,_,J,World.ownsRow_nil _ _ _ _,by unfold eQ;rfl,H.out,bB.refl _ _,Nat.zero_le _,HR.out⟩ ?_;rintro n a w ⟨hnf,acc,k,vs,xs,sl,u2,u3,u5,u6,u7,u8,u9,yN,yO,yP,wJ,wK,yQ,u16,yR,yS,rfl,dS,ml,hp,hf,WV,hr⟩;cases n with
 | zero=>grind [oQ]
 | succ n=>
 rw[oQ] at hr;have Im:=hp.kt;have hz:=hf.size;have HO:=a1p dS;have HX:=a1p ml;have HP:=a1p hp;have HF:=a1p hf;have As:=a1p hr;clear dS ml hp hf hr H HR
 go_wp2_with fail
 cases hq:iZ T n 0 k vs d with
 | none=>have e:=As.out;rw[hq] at e;simp [cj.bind] at e
 | some q=>
 have e:=As.out;rw[hq] at e;refine((DP n zo).go HP.out hd hq).mono ?_;cases q with
 | err c0 a0=>
  rintro e2 w4 ⟨⟨b,rfl,eL,gz⟩,dU,gJ⟩;simp only[cj.bind,a1o] at e;subst e;exact⟨J,⟨b,J,eL,zo⟩,HF.out.trans dU,gJ⟩
 | ok x k' wN=>
  rintro e2 w1 ⟨v,rfl,hv,dE,gj⟩;obtain⟨bx,rfl,jB⟩:=hv.shape;have nT:=(P.mono T n).oper _ _ _ _ _ _ _ hq;have jN:=dE.kt;have pR:=gj.size;have aUX:=dE.d2.2.2;have xK:w1.ownsRow w0.heap.size 106 1 sl acc.length xs:=by
   obtain⟨g1,g2 | ⟨g,cp,cur,e1,e2,e3,e4⟩⟩:=HO.out
   .exact⟨g1,.inl g2⟩
   .exact⟨g1,.inr ⟨g,cp,cur,e1,e2,db.lF gj ⟨zg,J⟩ e3 zo,e4⟩⟩
  have Kj:eQ (fun b=>Nu w0 w1 b/\sl.ownBlock≠O b) w1 xs acc:=
   eQ.mono zg (by grind [db.lF]) _ _ HX.out
  have vl:=a1p xK;have mm:=a1p Kj;have HV:=a1p hv;have ku:=a1p dE;have ix:=a1p (HF.out.trans gj);have HE:=a1p e;have Ar:=a1p jB;have HK:=a1p nT;clear hv dE gj xK Kj e hq jB
  go_wp2_with (at_builtin;go_must (refine R3 J _ _ 83 J w0.heap.size 106 i0 _ 1 8 underlying83 hi Kg Kh Ki J zo _ _ _ J (vl.out.alloc _) ⟨w1.heap.size,0,V⟩ 1 1 [pp bx] J J (O8 J) (by simp [Value.oneCell']) (by grind [maxLen]) zo (by simp;omega) ?_;intro v' w2 sU yT Bn;obtain⟨g',rJ,rfl⟩:=Mv sU;have Gz:=a1p sU;have uz:=a1p yT;have SI:=a1p Bn;clear sU yT Bn))
  have fa:SP w2 pb tb T k' wN d:=(ku.out.ext fun b o h=>dR (o:=a17 #[a2h (O ⟨bx,0,V⟩)] 106) h).Ps (vl.out.alloc _) zg zo uz.out;have eW:db pb w0 w2:=(ix.out.alloc _).Pt uz.out fun k hk=>(vl.out.lt k hk).1;have jO:=uz.out.size;rw[size_alloc] at jO;have Px:∀ (b:Nat) (o:Obj),w1.heap[b]?=O o->sl.ownBlock≠O b->w2.heap[b]?=O o:=fun b o h ee=>by
   have h':=dR (o:=a17 #[a2h (O ⟨bx,0,V⟩)] 106) h;rw[uz.out.block b (bg h') (fun e=>ee e.symm)];omega
  have px:∀ b,b<w1.heap.size->sl.ownBlock≠O b->(Value.slice (O ⟨g',0,V⟩) (acc.length+1) rJ).ownBlock≠O b:=fun b hb ee=>by
   rcases SI.out with h | h
   .rw[h];exact ee
   grind [size_alloc]
  have hbn:∀ b,Nu w w1 b->sl.ownBlock≠O b:=fun b hb e=>by
   have:=(HO.out.lt b e).2;omega
  have aku:eQ (fun b=>Nu w0 w2 b/\(Value.slice (O ⟨g',0,V⟩) (acc.length+1) rJ).ownBlock≠O b) w2 (xs++[pp bx]) (acc++[x]):=
   eQ.snoc (eP.mono zg zg _ _ HV.out)
    (eQ.mono zg zg _ _ mm.out)
  have iO:=a1p fa;have fO:=a1p eW;have SJ:=a1p aku;clear fa eW Px px hbn aku;have e:=HE.out;simp only[cj.bind] at e;by_cases hc:dZ T k' [44]=A
  .rw[zip hc] at e;refine(vh iO.out [44] hc).mono ?_;rintro e2 w3 ⟨rfl,gH,dU⟩;have uA:=a1p gH;have oB:=a1p dU;have GA:=a1p e;clear gH dU e hc
   go_wp2_with fail
   have E3:=oB.out.size;have jZ:=iO.out.d2.2.2;have MP:w3.ownsRow w0.heap.size 106 1 (cS g' (acc.length+1) rJ) (acc.length+1) (xs++[pp bx]):=by
    obtain⟨g1,g2 | ⟨g,cp,cur,e1,e2,e3,e4⟩⟩:=Gz.out
    .omega
    .exact⟨g1,.inr ⟨g,cp,cur,e1,e2,db.lF oB.out ⟨zg,J⟩ e3 zo,e4⟩⟩
   exact⟨n,Nat.lt_succ_self n,zo,acc++[x],k'+1,wN,_,_,_,_,_,_,_,_,_,_,_,_,_,_,_,_,_,_,J,zg,
    eQ.mono zg (by grind [db.lF,Hid.out]) _ _ SJ.out,
    uA.out,fO.out.trans oB.out,zg,GA.out⟩
  .rw[bM hc] at e;refine(qD iO.out [44] zg zd).mono ?_;rintro e2 w3 ⟨rfl,rfl⟩;have GA:=a1p e;clear e hc;have hl5:(acc++[x]).length=acc.length+1:=zs;have jZ:=iO.out.d2.2.2;by_cases h4:acc.length+1<=4
   .go_wp2_with fail
    go_ret
    have e:=GA.out;rw[bM (by grind [R1])] at e;simp only[a1o] at e;subst e;exact⟨_,J,⟨_,EZ Gz.out fun b hb=>⟨(Gz.out.lt b hb).1,(Gz.out.lt b hb).2⟩,eQ.mono zg zg _ _ SJ.out⟩,iO.out,fO.out⟩
   .have h4':4<acc.length+1:=zo
    go_wp2_with fail
    refine(Cb _ _ _ pb iO.out.sb).mono ?_;rintro e2 w4 ⟨⟨b,rfl,eL,gz⟩,dU,gJ⟩;have e:=GA.out;rw[zip (by grind [R1])] at e;simp only[a1o] at e;subst e;exact⟨J,⟨b,J,eL,zo⟩,fO.out.trans dU,gJ⟩
def aCb:Pq 0:=⟨fun _ _ _ h=>by simp [oQ] at h⟩
def aCc(a:∀ m,m<f->Ig m):Pq f:=⟨fun at_ b c h=>aCa a at_ b c h⟩
