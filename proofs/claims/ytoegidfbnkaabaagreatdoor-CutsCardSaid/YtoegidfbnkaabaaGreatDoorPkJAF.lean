/- A part of one proof (SW2, SCon, SDoor, SBack, SOper, PureM, SArgs). -/
import Derived.Test.YtoegidfbnkaabaaGreatDoorPkJAE
import Derived.RangeFuncBox
import Derived.RangeFuncFrom
import Derived.RangeFuncLeaves
import Derived.Shelf.Abstract
import Derived.OwnWalkIn
import Derived.TacticsInMore
import Derived.LoopNIn
import Derived.LoopIn
set_option linter.all false
set_option maxRecDepth 100000
set_option maxHeartbeats 8000000
open Option renaming some → O, none → V
open Go renaming Value → Y, World → Z
open Bool renaming true → A, false → G
open Go.Obj renaming cells → ae
open Go.Ending renaming returned → ah
open Go.Value renaming nilIface → ai, tuple → ak, pointer → aq
open Option.some renaming injEq → aZG
open Go.Lib renaming hid → aZH
open Nat renaming le_trans → aZL
open Go.Obj renaming cells → a0i
open Go.Value renaming pointer → a0s
open Go.Proofs.Tryz renaming prog → a9t
open Go.Proofs.Tryz
namespace Go.Proofs.YtoegidfbnkaabaaGreatDoor
open P
open Go.RowKit
variable{F:Nat->Prop}{T:List P.Tok}{W w w':Z}{av u v:Y}{b base bx c d j k n o pb tb:Nat}{cs:Array Y}{fn:Func}{vars:List P.Bs}{vs xs:List Y}
def SP.sb(h:SP w pb tb T k vars d):SB w pb:=by
 obtain⟨cap,vv,_,_,h,_⟩:=h.yg;exact⟨_,_,_,h⟩
def SP.l0(h:SP w pb tb T k vars d) :
  ∃ n c:Nat,w.cell? ⟨pb,0,V⟩=O (.slice (O ⟨tb,k*3,V⟩) n c)/\0<n/\n<=100000/\((tk T k).kind≠0->1<n)/\n<=c/\c<=9223372036854775807:=by
 obtain⟨cap,vv,b,e,a,_⟩:=h.yg;refine⟨_,_,cellOf a J,?_,?_,?_,?_,?_⟩
 .have:=h.kt;omega
 .have:=h.tw.len;omega
 .intro hk;have:=h.tw.next h.kt hk;omega
 .omega
 omega
def RE(hp:SP w pb tb T k vars d) :
  Calls a9t 48 #[pp pb] w fun e w'=>mN 2 (tk T k).pos w w' e/\cZ pb w w'/\SB w' pb:=by
 obtain⟨n,c,h0,l0,l1,-,-,-⟩:=hp.l0;obtain⟨-,-,t2⟩:=hp.toks.at hp.kt;have yi:=aZH hp.sb;clear hp
 go_enter func48,ntmps48
 go_wp2_with fail
 refine(BF _ _ _ pb yi.out).mono ?_;rintro e w' ⟨⟨b,rfl,hb⟩,hf,hs⟩;exact⟨J,⟨b,J,hb⟩,hf,hs⟩
def RF(hp:SP w pb tb T k vars d)(s:P.Bs)(h:eh T k s=A) :
  Calls a9t 51 #[pp pb,aT s] w fun e w'=>
   e = ah (ak #[])/\SP w' pb tb T (k+1) vars d/\cZ pb w w':=by
 have H:=aZH hp;have H2:=aZH h;clear hp h
 go_enter func51,ntmps51
 go_wp2_with fail
 refine(uE H.out s H2.out).mono ?_;rintro e w' ⟨rfl,h1,h2⟩;have H1:=aZH h1;have H2:=aZH h2;clear h1 h2
 go_wp2_with fail
 go_end0
 exact⟨J,H1.out,H2.out⟩
def RG(hp:SP w pb tb T k vars d)(s:P.Bs)(h:eh T k s=G)
  (hs:s.all P.digit=G) :
  Calls a9t 51 #[pp pb,aT s] w fun e w'=>
   mN 2 (tk T k).pos w w' e/\cZ pb w w'/\SB w' pb:=by
 have H:=aZH hp;have H2:=aZH h;have H3:=aZH hs;clear hp h hs
 go_enter func51,ntmps51
 go_wp2_with fail
 refine(pW H.out s H2.out H3.out).mono ?_;rintro e w' ⟨rfl,rfl⟩
 go_wp2_with fail
 refine(RE H.out).mono ?_;rintro e w' ⟨⟨b,rfl,hb⟩,hf,hs⟩;exact⟨J,⟨b,J,hb⟩,hf,hs⟩
def SP.d2(h:SP w pb tb T k vars d) :
  w.cell? ⟨pb,2,V⟩=O (zi d)/\w.frozen? ⟨pb,2,V⟩=G/\pb<w.heap.size:=by
 obtain⟨cap,vv,b,c,a,_⟩:=h.yg;exact⟨cellOf a J,jH a 2,bg a⟩
abbrev LY(w:Z)(pb:Nat)(d:Nat):Z:=
 (w.setCell ⟨pb,2,V⟩ (zi ((d:Int)+1))).alloc (ae #[pp pb] 139)
theorem SP.ext{w w':Z}{pb tb:Nat}{T:List P.Tok}{k:Nat}{vars:List P.Bs}{d:Nat}(h:SP w pb tb T k vars d)
  (hw:∀ (b:Nat) (o:Obj),w.heap[b]?=O o->w'.heap[b]?=O o):SP w' pb tb T k vars d:=by
 obtain⟨tw,lt,kt,nv,toks,cap,vv,a,c,e,g1,g2⟩:=h;obtain⟨n,cs,t1,t2⟩:=toks;refine⟨tw,lt,kt,nv,⟨(by grind [zy.ext]),cs,hw _ _ t1,t2⟩,cap,vv,a,c,hw _ _ e,g1,?_⟩;rcases g2 with g | ⟨g,f,cur,i,j,l,m⟩
 .grind
 .exact .inr ⟨g,f,cur,i,j,hw _ _ l,m⟩
def SP.LY{w:Z}{pb tb:Nat}{T:List P.Tok}{k:Nat}{vars:List P.Bs}{d:Nat}(h:SP w pb tb T k vars d):SP (LY w pb d) pb tb T k vars (d+1):=by
 have a:SP (w.setCell ⟨pb,2,V⟩ (zi ((d:Int)+1))) pb tb T k vars (d+1):=by
  refine h.set h.kt (cZ.FW (bB.refl _ _) _) (fun b v2 hv=>?_) (by grind [blk_setCell_other]);rw[Az hv];rfl
 exact a.ext (by grind [dQ])
def aji(w:Z)(pb d:Nat):(LY w pb d).heap.size=w.heap.size+1:=by rw[size_alloc,size_setCell]
def aAJ(w:Z)(pb d:Nat):(LY w pb d).heap[w.heap.size]?=aM #[pp pb] 139:=by
 grind [blk_alloc_new,size_setCell]
def ajj(w:Z)(pb d:Nat):cZ pb w (LY w pb d):=(cZ.FW (bB.refl _ _) _).alloc _
def zD(hp:SP w pb tb T k vars d)(hd:d+1<=8) :
  Calls a9t 86 #[pp pb] w fun e w'=>
   e = ah (.func (.func 116) #[] #[pp w.heap.size])/\w'.heap.size=w.heap.size+1 /\
   w'.heap[w.heap.size]?=aM #[pp pb] 139/\SP w' pb tb T k vars (d+1)/\cZ pb w w':=by
 obtain⟨h2,f2,hb⟩:=hp.d2;have H:=aZH hp;clear hp
 go_enter func86,ntmps86
 go_wp2_with fail
 go_ret
 exact⟨J,aji w pb d,aAJ w pb d,H.out.LY,ajj w pb d⟩
def VH(hp:SP w pb tb T k vars d)(hd:8<d+1)(xe:d<=100) :
  Calls a9t 86 #[pp pb] w fun e w'=>mN 4 (tk T k).pos w w' e/\cZ pb w w'/\SB w' pb:=by
 obtain⟨h2,f2,hb⟩:=hp.d2;have ed:¬ tb=pb:=by have:=hp.lt;omega
 have RI:¬ pb=tb:=zo;have sI:tb<w.heap.size:=by have:=hp.lt;omega
 have fc:=aZH hp.LY;have eV:=aZH (ajj w pb d);obtain⟨n,c,h0,l0,l1,-,-,-⟩:=hp.l0;obtain⟨-,-,t2⟩:=hp.toks.at hp.kt;clear hp
 go_enter func86,ntmps86
 go_wp2_with fail
 refine(BF _ _ _ pb fc.out.sb).mono ?_;rintro e w' ⟨⟨b,rfl,hb,hl⟩,hf,hs⟩;exact⟨J,⟨b,J,hb,aZL (aZL (Nat.le_succ _) (Nat.le_of_eq (aji w pb d).symm)) hl⟩,eV.out.trans hf,hs⟩
abbrev aaW(w:Z)(pb:Nat)(d:Int):Z:=w.setCell ⟨pb,2,V⟩ (zi d)
def aAK(hp:SP w pb tb T k vars (d+1))
  (hx:w.heap[bx]?=aM #[pp pb] 139) (hd:d<=100) (u:FrameMode) :
  CallsD a9t 116 #[pp bx] u w fun e u' w'=>u'=u/\(e = ah (ak #[])/\SP w' pb tb T k vars d/\cZ pb w w'/\w'.heap.size=w.heap.size):=by
 obtain⟨h2,f2,hb⟩:=hp.d2;have oH:w.cell? ⟨bx,0,V⟩=_:=cellOf hx J;have e1:((d+1:Nat):Int)=(d:Int)+1:=rfl;rw[e1] at h2;have kK:SP (aaW w pb d) pb tb T k vars d:=by
  refine hp.set hp.kt (cZ.FW (bB.refl _ _) _) (fun cp v2 hv=>?_) (by grind [blk_setCell_other]);rw[Az hv];rfl
 have sH:cZ pb w (aaW w pb d):=cZ.FW (bB.refl _ _) _;have jm:(aaW w pb d).heap.size=w.heap.size:=size_setCell _ _ _;have H1:=aZH kK;have H2:=aZH sH;have H3:=aZH jm;clear kK sH jm hp e1 hx;have e2:((d:Int)+1-1)=d:=zo
 go_enter_d func116,ntmps116
 go_wp2_with fail
 go_end0
 exact⟨J,H1.out,H2.out,H3.out⟩
def aAL(hp:SB w pb)
  (hx:w.heap[bx]?=aM #[pp pb] 139) (u:FrameMode) :
  CallsD a9t 116 #[pp bx] u w fun e u' w'=>u'=u/\(e = ah (ak #[])/\SB w' pb/\cZ pb w w'/\w'.heap.size=w.heap.size/\∀ b,b≠pb->w'.heap[b]?=w.heap[b]?):=by
 obtain⟨lv,vv,d,h⟩:=hp;have h2:w.cell? ⟨pb,2,V⟩=_:=cellOf h J;have f2:=jH h 2;have oH:w.cell? ⟨bx,0,V⟩=_:=cellOf hx J;have kK:∀ x,SB (w.setCell ⟨pb,2,V⟩ (zi x)) pb:=fun x=>⟨lv,vv,x,by rw[Az h];rfl⟩;have sH:∀ x,cZ pb w (w.setCell ⟨pb,2,V⟩ (zi x)):=(by grind [cZ.FW,bB.refl]);have H1:=aZH kK;have H2:=aZH sH;clear kK sH hx h
 go_enter_d func116,ntmps116
 go_wp2_with fail
 go_end0
 exact⟨J,H1.out _,H2.out _,size_setCell _ _ _,(by grind [blk_setCell_other])⟩
def lp(F:Nat->Prop)(w:Z)(v:Y)(l:List Ex):Prop:=∃ vs,fK F w 106 v vs/\eO F w vs l
def JD(F:Nat->Prop)(w:Z)(v:Y)(l:List Bd):Prop:=∃ vs,fK F w 84 v vs/\gx F w vs l
structure RL(f:Nat):Prop where
 go:∀ {pb tb:Nat} {T:List P.Tok} {k:Nat} {vars:List P.Bs} {d:Nat} {w:Z} {r:cj Ex},SP w pb tb T k vars d->d<=8 ->
  pN T f k vars d=O r->Calls a9t 117 #[pp pb] w (jN eL pb tb T d w r)
structure OC(f:Nat):Prop where
 go:∀ {pb tb:Nat} {T:List P.Tok} {k:Nat} {vars:List P.Bs} {d:Nat} {w:Z} {r:cj (List Ex)} (at_:Nat),SP w pb tb T k vars d->d<=8 ->
  oW T f k vars d at_ []=O r->Calls a9t 50 #[pp pb,zi at_] w (jN lp pb tb T d w r)
structure RM(f:Nat):Prop where
 go:∀ {pb tb:Nat} {T:List P.Tok} {k:Nat} {vars:List P.Bs} {d:Nat} {w:Z} {r:cj Ex},SP w pb tb T k vars d->d<=8 ->
  qV T f k vars d=O r->Calls a9t 142 #[pp pb] w (jN eL pb tb T d w r)
structure LZ(f:Nat):Prop where
 go:∀ {pb tb:Nat} {T:List P.Tok} {k:Nat} {vars:List P.Bs} {d:Nat} {w:Z} {r:cj Ex} (lvl:Nat),lvl<=2->SP w pb tb T k vars d->d<=8 ->
  jt T f lvl k vars d=O r->Calls a9t 91 #[pp pb,zi lvl] w (jN eL pb tb T d w r)
structure Ho(f:Nat):Prop where
 go:∀ {pb tb:Nat} {T:List P.Tok} {k:Nat} {vars:List P.Bs} {d:Nat} {w:Z} {r:cj Ex},SP w pb tb T k vars d->d<=8 ->
  jt T f 0 k vars d=O r->Calls a9t 60 #[pp pb] w (jN eL pb tb T d w r)
structure aaX:Prop where
 go:∀ {pb tb:Nat} {T:List P.Tok} {k:Nat} {vars:List P.Bs} {d:Nat} {w:Z} (t:P.Tok),SP w pb tb T k vars d->t.text≠[] ->
  Calls a9t 141 #[pp pb,.agg #[zi t.kind,aT t.text,zi t.pos]] w (jN eL pb tb T d w (zj t k vars))
structure VI:Prop where
 go:∀ {w:Z} (s:P.Bs),s≠[]->s.all P.digit=A->s.length<=9 ->
  Calls a9t 135 #[aT s,zi 10,zi 64] w fun e w'=>e = ah (ak #[zi (P.num s),ai])/\Ext w w'
abbrev FX(w:Z)(pb tb k n c:Nat):Z:=w.setCell ⟨pb,0,V⟩ (.slice (O ⟨tb,k*3+3,V⟩) (n-1) (c-1))
def SP.on(h:SP w pb tb T k vars d)(hk:(tk T k).kind≠0) :
  ∃ n c:Nat,w.cell? ⟨pb,0,V⟩=O (.slice (O ⟨tb,k*3,V⟩) n c)/\w.frozen? ⟨pb,0,V⟩=G/\pb<w.heap.size/\1<n/\n<=100000/\n<=c/\c<=9223372036854775807 /\
   SP (FX w pb tb k n c) pb tb T (k+1) vars d/\cZ pb w (FX w pb tb k n c):=by
 obtain⟨tw,lt,kt,nv,toks,cap,vv,e,f,a,g1,g2⟩:=h;have i:=tw.next kt hk
 have p:=tw.len;have b:cZ pb w (FX w pb tb k (T.length-k) (cap-k)):=cZ.FW (bB.refl _ _) _;refine⟨T.length-k,cap-k,cellOf a J,jH a 0,bg a,zo,zo,zo,zo,?_,b⟩;refine⟨tw,lt,i,nv,b.toks lt toks,cap,vv,e,f,?_,g1,?_⟩
 .rw[Az a];grind
 .rcases g2 with g | ⟨g,j,cur,l,m,q,o⟩
  .grind
  .refine .inr ⟨g,j,cur,l,m,?_,o⟩;grind [blk_setCell_other]
def VJ{α:Type}(I:(Nat->Prop)->Z->Y->α->Prop):Prop:=
 ∀ (F F':Nat->Prop) (pb:Nat) (w w':Z) (v:Y) (x:α),I F w v x->cZ pb w w'->(∀ b,F b->b≠pb/\F' b)->I F' w' v x
def JE:VJ eL:=fun F F' pb w w' v x h a b=>(by grind [eL.mono,cZ.kX])
def FY:VJ dL:=fun F F' pb w w' v x h a b=>(by grind [dL.mono,cZ.kX])
def aAM:VJ lp:=fun F F' pb w w' v x h a e=>by
 obtain⟨vs,c,f⟩:=h;exact⟨vs,c.mono zg fun b cs g d=>a.kX ⟨zg,J⟩ d zg,
  (by grind [eO.mono,cZ.kX])⟩
abbrev RN(bx:Nat):Deferred:={ target:=.fn (.func 116) #[pp bx],args:=#[] }
def ajk(bx:Nat)(w:Z):(invoke (RN bx).target (RN bx).args).run a9t w = .ok (.enter 116 #[pp bx]) w:=by
 simp [go_sem]
def yj{α:Type}{I:(Nat->Prop)->Z->Y->α->Prop}(c:VJ I){vs:List P.Bs}{a:Z}
 {tmps:Array Y} {x:α} (f:fn.results=#[.tmp j])
  (m:pb<w.heap.size) (g:SP a pb tb T k vs (d+1)) (n:d<=8)
  (hx:a.heap[bx]?=aM #[pp pb] 139) (hv:I (Nu w a) a (tmps.getD j undef) x) (h:cZ pb w a) :
  bodyPostD a9t fn (jN I pb tb T d w (.ok x k vs)) .ret { tmps:=tmps,defers:=[RN bx] } a:=by
 refine leaves_cons zs (ajk bx a) ((aAK g hx zo _).mono ?_);rintro e u w' ⟨rfl,rfl,i,b,l⟩;refine⟨_,(by grind [results_tmp]),_,J,c _ _ _ _ _ _ _ hv b ?_,i,h.trans b⟩;omega
def sK{α:Type}{I:(Nat->Prop)->Z->Y->α->Prop}{f:Z}{a:Nat}
 {tmps:Array Y} {chain:List PanicEntry} (m:pb<w.heap.size) (h:SB f pb)
  (hx:f.heap[bx]?=aM #[pp pb] 139) (hv:mN c a w f (.panicked chain)) (i:cZ pb w f) :
  bodyPostD a9t fn (jN I pb tb T d w (.err c a)) (.panic chain) { tmps:=tmps,defers:=[RN bx] } f:=by
 obtain⟨b,j,n,k⟩:=hv;cases j;refine leaves_cons zs (ajk bx f) ((aAL h hx _).mono ?_);rintro e u w' ⟨rfl,rfl,g,l,o,p⟩;exact⟨⟨b,J,zg,k⟩,i.trans l,g⟩
def JG{name:P.Bs}{n:Int}(a:F b)
  (h:w.heap[b]?=aM #[.int .u8 pb,aT name,zi n,zi k,bV] 178) :
  eL F w (pp b) (.mk pb name n k []):=by
 unfold eL;exact⟨b,_,[],J,a,h,.inl ⟨J,J⟩,by unfold eO;rfl⟩
theorem Es{o:Obj}(h:n=w.heap.size):(w.alloc o).heap[n]?=O o:=by grind [blk_alloc_new]
theorem SP.setOther{x:Nat}{t:TypeId}{z:Nat×Nat}(h:SP w pb tb T k vars d)
  (hx:w.heap[x]?=O (ae cs t z)) (ht:t≠9) (l:x≠pb) (m:tb<x) (v:Y):SP (w.setCell ⟨x,o,V⟩ v) pb tb T k vars d:=by
 obtain⟨tw,lt,kt,nv,⟨n,a,t1,t2⟩,cap,vv,b,c,p,g1,g2⟩:=h;refine⟨tw,lt,kt,nv,⟨(by grind [blk_setCell_other,zy.ext]),a,by grind [blk_setCell_other],t2⟩,cap,vv,b,c,
  by grind [blk_setCell_other],g1,?_⟩
 rcases g2 with g | ⟨g,e,cur,f,i,q,j⟩
 .grind
 .refine .inr ⟨g,e,cur,f,i,?_,j⟩;rw[blk_setCell_other]<;>grind
theorem lp.mono{F F':Nat->Prop}{w w':Z}{v:Y}{l:List Ex}(a:∀ b,F b->F' b)(hw:∀ b o,F b->C5 o->w.heap[b]?=O o->w'.heap[b]?=O o)
  (h:lp F w v l):lp F' w' v l:=by
 obtain⟨vs,c,f⟩:=h;exact⟨vs,c.mono a fun b cs d e=>hw b _ d ⟨zg,J⟩ e,(by grind [eO.mono])⟩
def lp.set{l:List Ex}{x:Nat}(h:lp F w v l)(hx:∀ b,F b->b≠x)(u:Y):lp F (w.setCell ⟨x,o,V⟩ u) v l:=
 h.mono zg (by grind [blk_setCell_other])
theorem aaY{name:P.Bs}{n:Int}{l:List Ex}(c:F b)
  (h:w.heap[b]?=aM #[.int .u8 pb,aT name,zi n,zi k,av] 178) (a:lp F w av l) :
  eL F w (pp b) (.mk pb name n k l):=by
 obtain⟨vs,d,e⟩:=a;unfold eL;grind
theorem fK.shape{d:TypeId}(h:fK F w d v vs):∃ a n c,v = .slice a n c/\n=vs.length/\n<=c/\(a=V->n=0):=by
 rcases h with⟨rfl,rfl⟩| ⟨b,cs,rfl,_,_,h,_⟩<;>grind
def eO.length{F:Nat->Prop}{w:Z}:∀ {l:List Ex} {vs:List Y},eO F w vs l->vs.length=l.length
 | [],vs,h=>by unfold eO at h;rw[h];rfl
 | x::xs,vs,h=>by
  unfold eO at h;obtain⟨v,r,rfl,_,a⟩:=h;simp [eO.length a]
theorem lp.shape{F:Nat->Prop}{w:Z}{v:Y}{l:List Ex}(h:lp F w v l):∃ a n c,v = .slice a n c/\n=l.length/\n<=c:=by
 obtain⟨vs,b,d⟩:=h;obtain⟨a,n,c,rfl,e,f,_⟩:=b.shape;exact⟨a,n,c,J,by rw[e,d.length],f⟩
theorem aaZ{x y:Ex}(a:F b)(h:w.heap[b]?=aM #[u,v] 106)(hx:eL F w u x)(c:eL F w v y) :
  lp F w (cR b 2 2) [x,y]:=by
 refine⟨[u,v],.inr ⟨b,#[u,v],J,a,h,Nat.le_refl _,J⟩,?_⟩;unfold eO;refine⟨u,[v],J,hx,?_⟩;unfold eO;refine⟨v,[],J,c,?_⟩;unfold eO;rfl
theorem SP.other{x:Nat}{t:TypeId}{z:Nat×Nat}(h:SP w pb tb T k vars d)
  (hx:w.heap[x]?=O (ae cs t z)) (ht:t≠9) (n:x≠pb) (p:tb<x) (hw:∀ (b:Nat) (o:Obj),b≠x->w.heap[b]?=O o->w'.heap[b]?=O o):SP w' pb tb T k vars d:=by
 obtain⟨tw,lt,kt,nv,⟨q,a,t1,t2⟩,cap,vv,c,e,r,g1,g2⟩:=h;refine⟨tw,lt,kt,nv,⟨(by grind [zy.ext]),a,zg,t2⟩,cap,vv,c,e,zg,g1,?_⟩;rcases g2 with g | ⟨g,f,cur,i,j,l,m⟩
 .grind
 .refine .inr ⟨g,f,cur,i,j,hw _ _ ?_ l,m⟩;grind
def SP.OD{t:TypeId}(h:SP w pb tb T k vars d)
  (c:w.ownsRow base t 1 v n xs) (ht:t≠9) (l:pb<base) (f:w.grownBy w' v.ownBlock):SP w' pb tb T k vars d:=by
 have hlt:=h.lt;rcases c.2 with⟨rfl,_⟩| ⟨g,cap,cur,rfl,m,i,_⟩
 .exact h.ext (by grind [bg,Value.ownBlock,World.grownBy.block])
 .exact h.other i ht zo zo fun b o j a=>by rw[f.block b (bg a) (by simp only[Value.ownBlock];intro e;injection e with e;exact j e)];exact a
theorem bB.OE{M:Nat->Obj->Prop}{a b c:Z}{row:Option Nat}(h:bB M a b)(d:b.grownBy c row)(hr:∀ k,row=O k->a.heap.size<=k):bB M a c:=
 ⟨d.os.trans h.os,d.tape.trans h.tape,d.output.trans h.output,aZL h.size d.size,fun i o f hm=>by
  have g:=h.block i o f hm;rw[d.block i (bg g) (fun e=>by have:=hr i e.symm;have:=bg f;omega)];exact g⟩
theorem Et{t:TypeId}(h:w.ownsRow base t 1 v n xs)(a:∀ b,v.ownBlock=O b->F b):fK F w t v xs:=by
 obtain⟨j,⟨rfl,c⟩| ⟨g,cap,cur,rfl,c,d,e,k,l,m⟩⟩:=h
 .exact .inl zg
 .have f:xs.length=n:=zo;have i:cur.size=cap:=zo;subst f;subst i;exact .inr ⟨g,cur,J,a g J,d,e,zg⟩
def eO.snoc{F:Nat->Prop}{w:Z}{v:Y}{x:Ex}(hv:eL F w v x):∀ {l:List Ex} {vs:List Y},eO F w vs l->eO F w (vs++[v]) (l++[x])
 | [],vs,h=>by
  unfold eO at h;subst h;simp only[List.nil_append];unfold eO;exact⟨v,[],J,hv,by unfold eO;rfl⟩
 | y::l,vs,h=>by
  unfold eO at h;obtain⟨u,r,rfl,a,b⟩:=h;simp only[List.cons_append];unfold eO;exact⟨u,r++[v],J,a,eO.snoc hv b⟩
def ajn:(Tryz.prog.info? 106).map (fun i=>(i.zero,i.size,i.bytes))=O (O (aq V),1,8):=zk
def ajo{a:Addr}(h:w.cell? a=O v)(hw:∀ cs t z,w.heap[a.block]?=O (ae cs t z)->w'.heap[a.block]?=O (ae cs t z)):w'.cell? a=O v:=by
 grind [World.cell?,World.cell?_of_block]
def SP.aAN(h:SP w pb tb T k vars d)
  (hw:∀ (b:Nat) (cs:Array Y) (t:TypeId) (z:Nat×Nat),w.heap[b]?=O (ae cs t z)->w'.heap[b]?=O (ae cs t z)):SP w' pb tb T k vars d:=by
 obtain⟨tw,lt,kt,nv,toks,cap,vv,m,n,u,g1,g2⟩:=h;obtain⟨f,cs,t1,t2⟩:=toks;refine⟨tw,lt,kt,nv,⟨⟨f.lt,fun l p=>?_⟩,cs,zg,t2⟩,cap,vv,m,n,zg,g1,?_⟩
 .obtain⟨b,o,c,a,e,i⟩:=f.FV l p;exact⟨b,o,c,a,ajo e (hw _),fun j q=>ajo (i j q) (hw _)⟩
 .rcases g2 with g | ⟨g,r,cur,a,e,i,s⟩
  .grind
  .exact .inr ⟨g,r,cur,a,e,zg,s⟩
def aAO{o:Obj}(h:C5 o):∃ cs t z,o = ae cs t z:=by
 cases o with
 | cells cs t z=>grind
 | _=>exact h.elim
def eO.blocks{F:Nat->Prop}{w:Z}:∀ {l:List Ex} {vs:List Y},eO F w vs l->∃ bl:List Nat,vs=bl.map (fun b=>a0s (O ⟨b,0,V⟩))/\bl.length=l.length
 | [],vs,h=>by unfold eO at h;exact⟨[],zg,J⟩
 | x::l,vs,h=>by
  unfold eO at h;obtain⟨u,r,rfl,a,c⟩:=h;obtain⟨bl,rfl,e⟩:=eO.blocks c;cases x with
  | mk kind name n k args=>
   unfold eL at a;obtain⟨b,_,_,rfl,_⟩:=a;exact⟨b::bl,J,zg⟩
theorem eO.get{F:Nat->Prop}{w:Z}:∀ {l:List Ex} {bl:List Nat},eO F w (bl.map (fun b=>a0s (O ⟨b,0,V⟩))) l->∀ i (a:i<l.length),eL F w (pp (bl.getD i 0)) l[i]
 | [],bl,h,i,a=>zg
 | x::l,bl,h,i,a=>by
  unfold eO at h;obtain⟨u,r,e,d,c⟩:=h;cases bl with
  | nil=>grind
  | cons b bl=>
   simp only[List.map_cons,List.cons.injEq] at e;obtain⟨rfl,rfl⟩:=e;cases i with
   | zero=>grind
   | succ i=>simpa using eO.get c i zg
open Go.Shelf
attribute [local go_sem] Oper.semAt_some
def JH(X:Nat)(W a:Z):Prop:=∀ (b:Nat) (cs:Array Y) (t:TypeId) (z:Nat×Nat),b≠X->W.heap[b]?=O (ae cs t z)->a.heap[b]?=O (ae cs t z)
theorem JH.trans{X:Nat}{B C:Z}(h:JH X W B)(k:JH X B C):JH X W C:=fun b cs t z a c=>k b cs t z a (h b cs t z a c)
def Hr(bl:List Nat)(k:Nat):List (Nat×Nat):=(List.range k).map fun j=>(bl.length-1-j,bl.getD (bl.length-1-j) 0)
def ajp(bl:List Nat)(k:Nat):Hr bl (k+1)=Hr bl k++[(bl.length-1-k,bl.getD (bl.length-1-k) 0)]:=by simp [Hr,List.range_succ]
def VM(bl:List Nat)(k:Nat):(Hr bl k).length=k:=by simp [Hr]
abbrev ajq(x:Nat×Nat):Array Y:=#[zi x.1,pp x.2]
def aAP(F:Fence)(n:Nat)(h8:F.fn 175)(LN:F.round=V)(hn:1<=n)(l Bs g cap X:Nat)(bl:List Nat)(L7:Bs≠X)(hX2:g≠X)(hlen:bl.length<=100000)
  (a Jx:List (Nat×Nat)->Z->Prop)
  (hY:∀ pre x W,a pre W->pre.length<bl.length->YieldAt F (n-1) a9t l (ajq x) W fun e W'=>
   (e = ah (.bool A)/\a (pre++[x]) W'/\JH X W W')\/(e = ah (.bool G)/\Jx (pre++[x]) W'))
  (W:Z) (OF:W.heap[Bs]?=aM #[cR g bl.length cap] 83) (cur:Array Y) (hg:W.heap[g]?=aM cur 106)
  (hc:∀ j,j<bl.length->cur[j]?=O (pp (bl.getD j 0))) (h0:a [] W) :
  CallsIn F n a9t 175 #[.func (.yield l) #[] #[],pp Bs] W fun e W'=>(∃ v,e = ah v) /\
   ((∃ ys,ys=Hr bl bl.length/\a ys W')\/(∃ pre,True/\Jx pre W')):=by
 have HC:=aZH hc;have HG:=aZH hg;have HB:=aZH OF;have HY:=aZH hY;have hBc:W.cell? ⟨Bs,0,V⟩=O (cR g bl.length cap):=cellOf OF J;obtain⟨len,hl⟩:=cd bl.length;rw[<- hl] at hlen hBc;have HL:=aZH hl;clear hl hc hg OF hY;refine callsIn_of_wp func175 J h8 ?_ LN;simp only[ntmps175,List.size_toArray,List.length_cons,List.length_nil,Nat.reduceAdd,Nat.reduceSub,Array.replicate_succ,Array.replicate_zero,List.push_toArray,List.append_toArray,List.nil_append,List.cons_append]
 gi_wp2
 gi_loopw [3] (fun i wr=>∃ k:Nat,k<=len/\i=zi ((len:Int)-1-k)/\a (Hr bl k) wr/\JH X W wr)
  (fun i _=>(intOf i+1).toNat)
 case atStart=>exact⟨0,Nat.zero_le _,zs,h0,fun _ _ _ _ _ h=>h⟩
 case round=>
  obtain⟨k,hk,rfl,hJs,hnx⟩:=hrel;have HJ:=aZH hJs;have HN:=aZH hnx;have aTr:wr.cell? ⟨Bs,0,V⟩=O (cR g len cap):=by rw[HL.out];exact cellOf (HN.out _ _ _ _ L7 HB.out) J
  clear hJs hnx hBc;by_cases hlt:k<len
  .obtain⟨i,hi⟩:∃ i:Nat,i=len-1-k:=⟨_,J⟩;have hii:((len:Int)-1-k)=(i:Int):=zo;rw[hii];have OG:wr.cell? ⟨g,i,V⟩=O (pp (bl.getD i 0)):=cellOf (HN.out _ _ _ _ hX2 HG.out) (by grind [Hid.out]);obtain⟨fn,tmps,assign,body,hy,hR⟩:=HY.out _ (i,bl.getD i 0) wr HJ.out (by rw[VM,<- HL.out];exact hlt);have lQ:i<len:=zo;have hy2:(Instr.yield l #[zi (i:Int),pp (bl.getD i 0)]).run a9t wr = .ok (.round l fn tmps assign body) wr:=hy;clear hy;have HI:=aZH hi;have HII:=aZH hii;obtain⟨bb,vH⟩:=cd (bl.getD i 0);rw[<- vH] at OG hy2;have HBB:=aZH vH;clear hi hii vH
   gi_wp2
   refine hR.mono ?_;rintro e W3 (⟨rfl,hJ3,qC⟩| ⟨rfl,aAT⟩)
   .gi_wp2
    go_roundw
    case rel=>
     refine⟨k+1,zo,?_,?_,HN.out.trans qC⟩
     .have:=HI.out;congr 1;omega
     .have:=HL.out;have e:=HI.out;rw[ajp,<- this,<- e];exact hJ3
    case measure=>simp [intOf]
   .gi_wp2
    refine bodyPost_ret (results_none J _ _ _) J ?_;exact⟨⟨_,J⟩,.inr ⟨_,trivial,aAT⟩⟩
  .obtain rfl:k=len:=zo
   gi_wp2
   go_end0
   exact⟨⟨_,J⟩,.inl ⟨_,J,by rw[<- HL.out];exact HJ.out⟩⟩
def backward(a:Option Addr)(n c:Nat)(w:Z) :
  Calls a9t 162 #[.slice a n c] w fun e w'=>e = ah (.func (.func 175) #[] #[pp w.heap.size])/\w.alloc (ae #[.slice a n c] 83)=w':=by
 have hmf:∀ (fn:Fn) (first cap:Array Y) (w:Z),(Instr.makeFunc fn first cap).run a9t w = .ok (.func fn first cap) w:=fun _ _ _ _=>rfl
 go_enter func162,ntmps162
 go_wp2
 go_ret
 exact⟨J,J⟩
def aAU(F:Fence)(n:Nat)(f:F.fn 175)(h:F.round=V)(i:1<=n)(Bs g cap X:Nat)(bl:List Nat)(k:Bs≠X)(b:g≠X)(hlen:bl.length<=100000)(w:Z)
  (c:w.heap[Bs]?=aM #[cR g bl.length cap] 83) (cur:Array Y) (d:w.heap[g]?=aM cur 106)
  (m:∀ j,j<bl.length->cur[j]?=O (pp (bl.getD j 0))) :
  SeqStopsK F n a9t 175 #[pp Bs] ajq (JH X) (fun o=>o=Hr bl bl.length) (fun _=>True) bl.length w:=fun l a p W e _ _ q r=>
 aAP F n f h i l Bs g cap X bl k b hlen a p q W (by rw[e.block Bs (bg c)];exact c) cur (by rw[e.block g (bg d)];exact d) m r
end Go.Proofs.YtoegidfbnkaabaaGreatDoor
namespace Go.Proofs.YtoegidfbnkaabaaGreatDoor
open P
open Go.RowKit
variable{F:Nat->Prop}{T:List P.Tok}{cap d f k k' pb tb:Nat}{v:Y}{vars:List P.Bs}{w w0:Z}
def aAV(aa3:RL f){r:cj Ex}(hp:SP w pb tb T k vars d)(hd:d<=8)
  (h:pN T f k vars d=O r):Calls a9t 91 #[pp pb,zi 2] w (jN eL pb tb T d w r):=by
 have H:=aZH hp;have HR:=aZH h;clear hp h
 go_enter func91,ntmps91
 go_wp2_with fail
 refine wp_scope_straight ?_
 go_wp2_with fail
 refine(aa3.go H.out hd HR.out).mono ?_;cases r with
 | err c0 a0=>
  rintro e w4 ⟨⟨b,rfl,eK,gn⟩,dU,gJ⟩;exact⟨J,⟨b,J,eK,gn⟩,dU,gJ⟩
 | ok x k' vs=>
  rintro e w4 ⟨v,rfl,hv,jP,eo⟩;have HV:=aZH hv;have sL:=aZH jP;have sN:=aZH eo;clear hv jP eo
  go_wp2_with fail
  rw[Exit.noGoto_ret]
  go_ret
  exact⟨v,J,HV.out,sL.out,sN.out⟩
theorem eL.shape{x:Ex}(h:eL F w v x):∃ b,v=pp b/\F b:=by
 cases x with
 | mk kind name n k args=>
  unfold eL at h;obtain⟨b,_,_,a,c,_⟩:=h;exact⟨b,a,c⟩
noncomputable def aAW:Code:=match findLabel (match Tryz.f91.body with | some (.seq _ (.scope c))=>c | _=>.skip) 0 with | some (.seq _ x)=>x | _=>.skip
def OJ(pb tb:Nat)(T:List P.Tok)(lvl d:Nat)(w0:Z)(r:cj Ex)(n:Nat)(a:Act)(w:Z):Prop:=
 ∃ (x:Ex) (k:Nat) (vs:List P.Bs) (v b c e f g u8 h i j l m o p u16 q s t u y z B C D E F H I K L u32 M N Q R S:Y),a={ tmps:=#[pp pb,zi lvl,b,c,e,v,f,g,u8,h,i,j,l,m,o,p,u16,q,s,t,u,y,z,B,C,D,E,F,H,I,K,L,u32,M,N,Q,R,S],defers:=[] } /\
  eL (Nu w0 w) w v x/\SP w pb tb T k vs d/\cZ pb w0 w/\qx T n lvl x k vs d=O r
def aAX(hl:cap<2)(wT:∀ m,m<=f->LZ m){r:cj Ex}(hd:d<=8)(xg:pb<w0.heap.size)(n:Nat)(hn:n<=f)(a:Act)(w:Z)(hj:OJ pb tb T cap d w0 r n a w) :
  aAW.wp a9t (Exit.jump 0 (fun a' w'=>∃ m,m<n/\OJ pb tb T cap d w0 r m a' w') (bodyPost a9t Tryz.f91 (jN eL pb tb T d w0 r))) a w:=by
 obtain⟨x,k,vs,v,u2,u3,u4,u6,u7,u8,u9,ym,yn,yo,vI,vJ,yp,u16,yq,yr,BI,BJ,BK,BL,BM,BN,BO,BP,BQ,Dc,Dd,De,Hs,u32,Ht,AL,Ev,FZ,F0,rfl,hx,hp,hf,hr⟩:=hj;obtain⟨bx,rfl,jy⟩:=hx.shape;cases n with
 | zero=>grind [qx]
 | succ n=>
 have iz:=hr;rw[qx] at iz;obtain⟨lb,lo,lc,VQ,g1,g2⟩:=hp.toks.1.FV cap hl;obtain⟨L,hL⟩:=cd ((P.ops cap).length);rw[<- hL] at g1 g2;have hL3:L<=3:=by
  grind [P.ops]
 have gl:=hp.toks.1.lt;have glt:=hp.lt;have gpb:=hp.d2.2.2;have HP:=aZH hp;have HX:=aZH hx;have HF:=aZH hf;have HR:=aZH iz;have HG:=aZH g2;have HL:=aZH hL;have zI:=aZH jy;have gsz:lb<w.heap.size:=zo;have aTy:2<w.heap.size:=zo;clear hp hx hf hr iz g2 hL jy;change Code.wp _ (Code.seq _ _) _ _ _;have aTz:(cap:Int)<2:=zo
 go_wp2_with fail
 go_loop [5,20] (fun q i=>∃ j:Nat,j<=L/\i=zi j/\q=pp bx/\∀ j',j'<j->eh T k ((P.ops cap).getD j' [])=G) (fun _ i=>L-(intOf i).toNat)
 case atStart=>grind
 case round=>
  obtain⟨j,hj,rfl,rfl,lM⟩:=hrel;have Ew:=aZH lM;clear lM;by_cases hlt:j<L
  .have ns:=HG.out j hlt;obtain⟨s,hs⟩:=cd ((P.ops cap).getD j []);rw[<- hs] at ns;have Ma:s.all P.digit=false:=by
    have hL:=HL.out;rw[hs];have h2:cap=0\/cap=1:=zo;rcases h2 with rfl | rfl
    .have:j=0\/j=1:=by grind [P.ops]
     rcases this with rfl | rfl<;>decide
    .have:j=0\/j=1\/j=2:=zo;rcases this with rfl | rfl | rfl<;>decide
   have HS:=aZH hs;have HSD:=aZH Ma;clear hs Ma;by_cases hc:eh T k s=A
   .have HC:=aZH hc;clear hc
    go_wp2_with fail
    refine(uE HP.out s HC.out).mono ?_;rintro e w1 ⟨rfl,dD,gi⟩;have kh:=aZH dD;have im:=aZH gi;clear dD gi
    go_wp2_with fail
    have e:=HR.out;have hl:=HL.out;rw[Ra,Zr (j:=j) zo (by rw[<- HS.out];exact HC.out) Ew.out,<- HS.out] at e;dsimp only at e;have aAY:=im.out.size;cases hq:jt T n (cap+1) (k+1) vs d with
    | none=>rw[hq] at e;simp [cj.bind] at e
    | some q=>
     rw[hq] at e;refine((wT n zo).go (cap+1) zo kh.out hd hq).mono ?_;cases q with
     | err c0 a0=>
      rintro e2 w4 ⟨⟨b,rfl,eK,gn⟩,dU,gJ⟩;simp only[cj.bind,aZG] at e;subst e;have VR:=HF.out.size;exact⟨J,⟨b,J,eK,zo⟩,(HF.out.trans im.out).trans dU,gJ⟩
     | ok y k' vK=>
      rintro e2 w4 ⟨v,rfl,hv,jP,eo⟩;obtain⟨bY,rfl,hbY⟩:=hv.shape;have HV:=aZH hv;have sL:=aZH jP;have sN:=aZH eo;have HE:=aZH e;have HBY:=aZH hbY;clear hv jP eo e hbY hl hq
      go_wp2_with fail
      refine wp_goto ?_;have oZ:=im.out.size;have AM:=sN.out.size;have jy:=zI.out;have aA0:=im.out.trans sN.out;have xd:eL (Nu w0 (((w4.alloc (a0i #[pp bx,pp bY] 106)).alloc (a0i #[.int .u8 99,aT s,zi 0,zi 0,cR w4.heap.size 2 2] 178)))) (((w4.alloc (a0i #[pp bx,pp bY] 106)).alloc (a0i #[.int .u8 99,aT s,zi 0,zi 0,cR w4.heap.size 2 2] 178))) (pp bx) x:=
       eL.mono (by grind [size_alloc]) (by grind [dQ,cZ.kX]) _ _ HX.out
      have hyy:eL (Nu w0 (((w4.alloc (a0i #[pp bx,pp bY] 106)).alloc (a0i #[.int .u8 99,aT s,zi 0,zi 0,cR w4.heap.size 2 2] 178)))) (((w4.alloc (a0i #[pp bx,pp bY] 106)).alloc (a0i #[.int .u8 99,aT s,zi 0,zi 0,cR w4.heap.size 2 2] 178))) (pp bY) y:=
       eL.mono (by grind [size_alloc,bB.size,Hid.out]) (by grind [dQ]) _ _ HV.out
      have Ey:=HF.out.size;exact⟨J,n,Nat.lt_succ_self n,.mk 99 s 0 0 [x,y],k',vK,pp (w4.heap.size+1),_,_,_,_,_,_,_,_,_,_,_,_,_,_,_,_,_,_,_,_,_,_,_,_,_,_,_,_,_,_,_,_,_,_,_,J,
       (by grind [aaY,size_alloc,Es,aaZ,dQ,blk_alloc_new]),
       (by grind [dQ,SP.ext,Hid.out]),((HF.out.trans aA0).alloc _).alloc _,HE.out⟩
   .have nO:eh T k s=false:=zg;have HC:=aZH nO;clear hc nO
    go_wp2_with fail
    refine(pW HP.out s HC.out HSD.out).mono ?_;rintro e w1 ⟨rfl,rfl⟩
    go_wp2_with fail
    go_round
    case rel=>exact⟨j+1,zo,by go_num,J,fun j' h'=>by
     rcases Nat.lt_or_ge j' j with h | h
     .exact Ew.out j' h
     .obtain rfl:j'=j:=zo;rw[<- HS.out];exact HC.out⟩
    case measure=>grind [intOf]
  .go_wp2_with fail
   rw[asO]
   go_ret
   have e:=HR.out;have hl:=HL.out;rw[Ra,ahM (fun j' h'=>Ew.out j' zo)] at e;simp only[aZG] at e;subst e;exact⟨_,J,HX.out,HP.out,HF.out⟩
def aA1(hl:cap<2)(wT:∀ m,m<=f->LZ m){r:cj Ex}(hp:SP w pb tb T k vars d)(hd:d<=8)
  {q:cj Ex} (hq:jt T f (cap+1) k vars d=O q) (hr:cj.bind (O q) (fun x k' vars'=>qx T f cap x k' vars' d)=O r) :
  Calls a9t 91 #[pp pb,zi cap] w (jN eL pb tb T d w r):=by
 have H:=aZH hp;have HR:=aZH hr;have HQ:=aZH hq;have pY:((cap:Int) == 2)=false:=zg;have xg:=hp.d2.2.2;clear hp hr hq
 go_enter func91,ntmps91
 go_wp2_with fail
 have OH:=aZH (aAX (T:=T) (tb:=tb) (r:=r) hl wT hd xg);refine asN 0 (fun n a w'=>n<=f/\OJ pb tb T cap d w r n a w') J ?first ?pass
 case first=>
  intro _
  go_wp2_with fail
  refine((wT f (Nat.le_refl _)).go (cap+1) zo H.out hd HQ.out).mono ?_;cases q with
  | err c0 a0=>
   rintro e w4 ⟨⟨b,rfl,eK,gn⟩,dU,gJ⟩;have e:=HR.out;simp only[cj.bind,aZG] at e;subst e;exact⟨J,⟨b,J,eK,gn⟩,dU,gJ⟩
  | ok x k' vs=>
   rintro e w4 ⟨v,rfl,hv,jP,eo⟩;have HV:=aZH hv;have sL:=aZH jP;have sN:=aZH eo;clear hv jP eo
   go_wp2_with fail
   refine wp_label ?_;rename_i K hK;refine hK _ _ ?_;refine wp_mono (OH.out f zo _ _ ⟨x,k',vs,v,_,_,_,_,_,_,_,_,_,_,_,_,_,_,_,_,_,_,_,_,_,_,_,_,_,_,_,_,_,_,_,_,_,_,_,J,HV.out,sL.out,sN.out,HR.out⟩) fun e a' w' hq=>?_;cases e with
   | goto l'=>obtain⟨e,m,hm,hi⟩:=hq;exact⟨e,m,zo,hi⟩
   | _=>exact hq
 case pass=>
  rintro n a w' ⟨hn,hj⟩;refine wp_seq (wp_skip ?_);refine wp_mono (OH.out n hn _ _ hj) fun e a' w' hq=>?_;grind
def aA2:LZ 0:=⟨fun _ _ _ _ h=>by simp [jt] at h⟩
theorem aA3(a:RL f)(i:∀ m,m<=f->LZ m):LZ (f+1):=by
 refine⟨fun{pb tb T k vars d w r} lvl j e g h=>?_⟩;rw[jt] at h;by_cases b:lvl=2
 .rw[zip b] at h;subst b;exact aAV a e g h
 .rw[bZ b] at h;cases c:jt T f (lvl+1) k vars d with
  | none=>rw[c] at h;simp [cj.bind] at h
  | some q=>rw[c] at h;exact aA1 zo i e g c h
theorem ajx(wT:LZ f):Ho f:=by
 refine⟨fun{pb tb T k vars d w r} hp hd h=>?_⟩;have H:=aZH hp;have HR:=aZH h;clear hp h
 go_enter func60,ntmps60
 go_wp2_with fail
 refine(wT.go 0 zo H.out hd HR.out).mono ?_;cases r with
 | err c0 a0=>
  rintro e w4 ⟨⟨b,rfl,eK,gn⟩,dU,gJ⟩;exact⟨J,⟨b,J,eK,gn⟩,dU,gJ⟩
 | ok x k' vs=>
  rintro e w4 ⟨v,rfl,hv,jP,eo⟩;have HV:=aZH hv;have sL:=aZH jP;have sN:=aZH eo;clear hv jP eo
  go_wp2_with fail
  go_ret
  exact⟨v,J,HV.out,sL.out,sN.out⟩
namespace P
theorem ee{α β:Type}{r:Option (cj α)}{g:α->Nat->List Bs->Option (cj β)}{b:β}{v:List Bs}
  (h:cj.bind r g=O (.ok b k v)):∃ a c v1,r=O (.ok a c v1)/\g a c v1=O (.ok b k v):=by
 unfold cj.bind at h;grind
theorem nP{α:Type}{T:List Tok}{s:Bs}{x y:α}{v v':List Bs}(h:mW T s x k v=O (.ok y k' v')):k'=k+1/\y=x/\v'=v:=by
 grind [mW,aZG,cj.ok.injEq]
theorem ajy{t:Tok}{v v':List Bs}{x:Ex}(h:zj t k v = .ok x k' v'):k'=k:=by
 grind [zj]
structure aA4(T:List Tok)(f:Nat):Prop where
 Ez:∀ k v d x k' v',pN T f k v d=O (.ok x k' v')->k<k'
 args:∀ k v d a acc x k' v',oW T f k v d a acc=O (.ok x k' v')->k<k'
 list:∀ k v d x k' v',qV T f k v d=O (.ok x k' v')->k<k'
 elems:∀ k v d acc x k' v',rK T f k v d acc=O (.ok x k' v')->k<k'
 oper:∀ l k v d x k' v',jt T f l k v d=O (.ok x k' v')->k<k'
 more:∀ l y k v d x k' v',qx T f l y k v d=O (.ok x k' v')->k<=k'
theorem mono(T:List Tok):∀ f,aA4 T f
 | 0=>⟨by simp_all [pN],by simp_all [oW],by simp_all [qV],by simp_all [rK],by simp_all [jt],by simp_all [qx]⟩
 | f+1=>by
  have ih:=mono T f;refine⟨?_,?_,?_,?_,?_,?_⟩
  .intro k v d x k' v' h;rw[pN] at h;split at h
   .grind
   split at h
   .grind
   split at h
   .grind [aZG,ajy]
   split at h
   .split at h
    .obtain⟨a,e,v1,c,b⟩:=ee h;have:=ih.args _ _ _ _ _ _ _ _ c;grind [nP]
    grind
   split at h
   .grind
   split at h
   .obtain⟨a,e,v1,c,b⟩:=ee h;have:=ih.oper _ _ _ _ _ _ _ c;grind [nP]
   split at h
   .have:=ih.list _ _ _ _ _ _ h;omega
   grind
  .intro k v d a acc x k' v' h;rw[oW] at h;obtain⟨y,e,v1,c,b⟩:=ee h;have:=ih.oper _ _ _ _ _ _ _ c;split at b
   .have:=ih.args _ _ _ _ _ _ _ _ b;omega
   grind
  .intro k v d x k' v' h;rw[qV] at h;split at h
   .grind
   .obtain⟨y,e,v1,c,b⟩:=ee h;have:=ih.elems _ _ _ _ _ _ _ c;split at b
    .obtain⟨z,i,v2,g,j⟩:=ee b;have:=ih.oper _ _ _ _ _ _ _ g;grind [nP]
    grind [nP]
  .intro k v d acc x k' v' h;rw[rK] at h;obtain⟨y,e,v1,c,b⟩:=ee h;have:=ih.oper _ _ _ _ _ _ _ c;split at b
   .have:=ih.elems _ _ _ _ _ _ _ b;omega
   grind
  .intro l k v d x k' v' h;rw[jt] at h;split at h
   .exact ih.Ez _ _ _ _ _ _ h
   .obtain⟨y,e,v1,c,b⟩:=ee h;have:=ih.oper _ _ _ _ _ _ _ c;have:=ih.more _ _ _ _ _ _ _ _ b;omega
  .intro l y k v d x k' v' h;rw[qx] at h;split at h
   .grind
   .obtain⟨z,e,v1,c,b⟩:=ee h;have:=ih.oper _ _ _ _ _ _ _ c;have:=ih.more _ _ _ _ _ _ _ _ b;omega
end P
def AJ(pb tb:Nat)(T:List P.Tok)(d at_:Nat)(w0:Z)(r:cj (List Ex))(n:Nat)(a:Act)(w:Z):Prop:=
 ∃ (acc:List Ex) (k:Nat) (vs:List P.Bs) (xs:List Y) (sl c e f g h u8 i j l m o p q u16 s t:Y),a={ tmps:=#[pp pb,zi at_,c,e,sl,f,g,h,u8,i,j,l,m,o,p,q,u16,s,t],defers:=[] } /\
  w.ownsRow w0.heap.size 106 1 sl acc.length xs/\eO (fun b=>Nu w0 w b/\sl.ownBlock≠O b) w xs acc/\SP w pb tb T k vs d/\cZ pb w0 w/\acc.length<=k /\
  oW T n k vs d at_ acc=O r
def aA6(Dg:∀ m,m<f->Ho m){r:cj (List Ex)}(at_:Nat)(oI:SP w0 pb tb T k vars d)(hd:d<=8)
  (h:oW T f k vars d at_ []=O r):Calls a9t 50 #[pp pb,zi at_] w0 (jN lp pb tb T d w0 r):=by
 have H:=aZH oI;have HR:=aZH h;have xg:=oI.d2.2.2;have hT:=oI.tw.len;obtain⟨i0,hi,JK,JL,JM⟩:=info_parts ajn;clear oI h
 go_enter func50,ntmps50
 go_wp2_with fail
 refine wp_loop_ghost (fun n a w=>n<=f/\AJ pb tb T d at_ w0 r n a w) ⟨f,Nat.le_refl _,[],k,vars,[],bV,_,_,_,_,_,_,_,_,_,_,_,_,_,_,_,_,J,World.ownsRow_nil _ _ _ _,by unfold eO;rfl,H.out,bB.refl _ _,Nat.zero_le _,HR.out⟩ ?_;rintro n a w ⟨Zn,acc,k,vs,xs,sl,u2,u3,u5,u6,u7,u8,u9,ym,yn,yo,vI,vJ,yp,u16,yq,yr,rfl,dR,lR,hp,hf,VS,hr⟩;cases n with
 | zero=>grind [oW]
 | succ n=>
 rw[oW] at hr;have Hv:=hp.kt;have hz:=hf.size;have HO:=aZH dR;have HX:=aZH lR;have HP:=aZH hp;have HF:=aZH hf;have zJ:=aZH hr;clear dR lR hp hf hr H HR
 go_wp2_with fail
 cases hq:jt T n 0 k vs d with
 | none=>have e:=zJ.out;rw[hq] at e;simp [cj.bind] at e
 | some q=>
 have e:=zJ.out;rw[hq] at e;refine((Dg n zo).go HP.out hd hq).mono ?_;cases q with
 | err c0 a0=>
  rintro e2 w4 ⟨⟨b,rfl,eK,gn⟩,dU,gJ⟩;simp only[cj.bind,aZG] at e;subst e;exact⟨J,⟨b,J,eK,zo⟩,HF.out.trans dU,gJ⟩
 | ok x k' vK=>
  rintro e2 w1 ⟨v,rfl,hv,dD,gi⟩;obtain⟨bx,rfl,jy⟩:=hv.shape;have nu:=(P.mono T n).oper _ _ _ _ _ _ _ hq;have jQ:=dD.kt;have oZ:=gi.size;have aTB:=dD.d2.2.2;have xh:w1.ownsRow w0.heap.size 106 1 sl acc.length xs:=by
   obtain⟨g1,g2 | ⟨g,cp,cur,e1,e2,e3,e4⟩⟩:=HO.out
   .exact⟨g1,.inl g2⟩
   .exact⟨g1,.inr ⟨g,cp,cur,e1,e2,cZ.kX gi ⟨zg,J⟩ e3 zo,e4⟩⟩
  have JO:eO (fun b=>Nu w0 w1 b/\sl.ownBlock≠O b) w1 xs acc:=
   eO.mono zg (by grind [cZ.kX]) _ _ HX.out
  have uH:=aZH xh;have lS:=aZH JO;have HV:=aZH hv;have kh:=aZH dD;have im:=aZH (HF.out.trans gi);have HE:=aZH e;have zI:=aZH jy;have HK:=aZH nu;clear hv dD gi xh JO e hq jy
  go_wp2_with (at_builtin;go_must (refine Rc J _ _ 83 J w0.heap.size 106 i0 _ 1 8 underlying83 hi JK JL JM J zo _ _ _ J (uH.out.alloc _) ⟨w1.heap.size,0,V⟩ 1 1 [pp bx] J J (Oj J) (by simp [Value.oneCell']) (by grind [maxLen]) zo (by simp;omega) ?_;intro v' w2 rQ yt AN;obtain⟨g',qZ,rfl⟩:=LG rQ;have F1:=aZH rQ;have tJ:=aZH yt;have RP:=aZH AN;clear rQ yt AN))
  have fc:SP w2 pb tb T k' vK d:=(kh.out.ext fun b o h=>dQ (o:=a0i #[a0s (O ⟨bx,0,V⟩)] 106) h).OD (uH.out.alloc _) zg zo tJ.out;have eV:cZ pb w0 w2:=(im.out.alloc _).OE tJ.out fun k hk=>(uH.out.lt k hk).1;have jf:=tJ.out.size;rw[size_alloc] at jf;have OI:∀ (b:Nat) (o:Obj),w1.heap[b]?=O o->sl.ownBlock≠O b->w2.heap[b]?=O o:=fun b o h ed=>by
   have h':=dQ (o:=a0i #[a0s (O ⟨bx,0,V⟩)] 106) h;rw[tJ.out.block b (bg h') (fun e=>ed e.symm)];omega
  have oJ:∀ b,b<w1.heap.size->sl.ownBlock≠O b->(Value.slice (O ⟨g',0,V⟩) (acc.length+1) qZ).ownBlock≠O b:=fun b hb ed=>by
   rcases RP.out with h | h
   .rw[h];exact ed
   grind [size_alloc]
  have hbn:∀ b,Nu w w1 b->sl.ownBlock≠O b:=fun b hb e=>by
   have:=(HO.out.lt b e).2;omega
  have ajz:eO (fun b=>Nu w0 w2 b/\(Value.slice (O ⟨g',0,V⟩) (acc.length+1) qZ).ownBlock≠O b) w2 (xs++[pp bx]) (acc++[x]):=
   eO.snoc (eL.mono zg zg _ _ HV.out)
    (eO.mono zg zg _ _ lS.out)
  have iO:=aZH fc;have fO:=aZH eV;have RQ:=aZH ajz;clear fc eV OI oJ hbn ajz;have e:=HE.out;simp only[cj.bind] at e;by_cases hc:eh T k' [44]=A
  .rw[zip hc] at e;refine(uE iO.out [44] hc).mono ?_;rintro e2 w3 ⟨rfl,gH,dU⟩;have tK:=aZH gH;have nR:=aZH dU;have F2:=aZH e;clear gH dU e hc
   go_wp2_with fail
   have EA:=nR.out.size;have jR:=iO.out.d2.2.2;have Mb:w3.ownsRow w0.heap.size 106 1 (cR g' (acc.length+1) qZ) (acc.length+1) (xs++[pp bx]):=by
    obtain⟨g1,g2 | ⟨g,cp,cur,e1,e2,e3,e4⟩⟩:=F1.out
    .omega
    .exact⟨g1,.inr ⟨g,cp,cur,e1,e2,cZ.kX nR.out ⟨zg,J⟩ e3 zo,e4⟩⟩
   exact⟨n,Nat.lt_succ_self n,zo,acc++[x],k'+1,vK,_,_,_,_,_,_,_,_,_,_,_,_,_,_,_,_,_,_,J,zg,
    eO.mono zg (by grind [cZ.kX,Hid.out]) _ _ RQ.out,
    tK.out,fO.out.trans nR.out,zg,F2.out⟩
  .rw[bZ hc] at e;refine(pW iO.out [44] zg zd).mono ?_;rintro e2 w3 ⟨rfl,rfl⟩;have F2:=aZH e;clear e hc;have hl5:(acc++[x]).length=acc.length+1:=zs;have jR:=iO.out.d2.2.2;by_cases h4:acc.length+1<=4
   .go_wp2_with fail
    go_ret
    have e:=F2.out;rw[bZ (by grind [Vj])] at e;simp only[aZG] at e;subst e;exact⟨_,J,⟨_,Et F1.out fun b hb=>⟨(F1.out.lt b hb).1,(F1.out.lt b hb).2⟩,eO.mono zg zg _ _ RQ.out⟩,iO.out,fO.out⟩
   .have h4':4<acc.length+1:=zo
    go_wp2_with fail
    refine(BF _ _ _ pb iO.out.sb).mono ?_;rintro e2 w4 ⟨⟨b,rfl,eK,gn⟩,dU,gJ⟩;have e:=F2.out;rw[zip (by grind [Vj])] at e;simp only[aZG] at e;subst e;exact⟨J,⟨b,J,eK,zo⟩,fO.out.trans dU,gJ⟩
def aA7:OC 0:=⟨fun _ _ _ h=>by simp [oW] at h⟩
def aA8(a:∀ m,m<f->Ho m):OC f:=⟨fun at_ b c h=>aA6 a at_ b c h⟩
