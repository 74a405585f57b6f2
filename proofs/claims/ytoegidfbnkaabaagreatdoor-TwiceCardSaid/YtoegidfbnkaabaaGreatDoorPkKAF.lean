/- A part of one proof (SW2, SCon, SDoor, SBack, SOper, PureM, SArgs). -/
import Derived.Test.YtoegidfbnkaabaaGreatDoorPkKAE
import Derived.RangeFuncBox
import Derived.RangeFuncFrom
import Derived.RangeFuncLeaves
import Derived.Shelf.Abstract
import Derived.OwnWalkIn
import Derived.TacticsInMore
import Derived.LoopNIn
import Derived.LoopIn
set_option linter.all false
set_option maxRecDepth 100000
set_option maxHeartbeats 8000000
open Option renaming some → O, none → V
open Go renaming Value → Y, World → Z
open Bool renaming true → A, false → ae
open Go.Obj renaming cells → ah
open Go.Ending renaming returned → ai
open Go.Value renaming nilIface → aj, tuple → aq, pointer → au
open Option.some renaming injEq → a0z
open Go.Lib renaming hid → a0A
open Nat renaming le_trans → a0E
open Go.Obj renaming cells → a1d
open Go.Value renaming pointer → a1l
open Go.Proofs.Tryz renaming prog → bao
open Go.Proofs.Tryz
namespace Go.Proofs.YtoegidfbnkaabaaGreatDoor
open P
open Go.RowKit
variable{F:Nat->Prop}{T:List P.Tok}{W w w':Z}{av u v:Y}{b base bx c d j k n o pb tb:Nat}{cs:Array Y}{fn:Func}{vars:List P.Bs}{vs xs:List Y}
def SP.sb(h:SP w pb tb T k vars d):SB w pb:=by
 obtain⟨cap,vv,_,_,h,_⟩:=h.yG;exact⟨_,_,_,h⟩
def SP.l0(h:SP w pb tb T k vars d) :
  ∃ n c:Nat,w.cell? ⟨pb,0,V⟩=O (.slice (O ⟨tb,k*3,V⟩) n c)/\0<n/\n<=100000/\((tk T k).kind≠0->1<n)/\n<=c/\c<=9223372036854775807:=by
 obtain⟨cap,vv,b,e,a,_⟩:=h.yG;refine⟨_,_,cellOf a J,?_,?_,?_,?_,?_⟩
 .have:=h.kt;omega
 .have:=h.tw.len;omega
 .intro hk;have:=h.tw.next h.kt hk;omega
 .omega
 omega
def R2(hp:SP w pb tb T k vars d) :
  Calls bao 48 #[pp pb] w fun e w'=>np 2 (tk T k).pos w w' e/\dc pb w w'/\SB w' pb:=by
 obtain⟨n,c,h0,l0,l1,-,-,-⟩:=hp.l0;obtain⟨-,-,t2⟩:=hp.toks.at hp.kt;have yJ:=a0A hp.sb;clear hp
 go_enter func48,ntmps48
 go_wp2_with fail
 refine(BV _ _ _ pb yJ.out).mono ?_;rintro e w' ⟨⟨b,rfl,hb⟩,hf,hs⟩;exact⟨J,⟨b,J,hb⟩,hf,hs⟩
def R3(hp:SP w pb tb T k vars d)(s:P.Bs)(h:eD T k s=A) :
  Calls bao 51 #[pp pb,aW s] w fun e w'=>
   e = ai (aq #[])/\SP w' pb tb T (k+1) vars d/\dc pb w w':=by
 have H:=a0A hp;have H2:=a0A h;clear hp h
 go_enter func51,ntmps51
 go_wp2_with fail
 refine(vd H.out s H2.out).mono ?_;rintro e w' ⟨rfl,h1,h2⟩;have H1:=a0A h1;have H2:=a0A h2;clear h1 h2
 go_wp2_with fail
 go_end0
 exact⟨J,H1.out,H2.out⟩
def R4(hp:SP w pb tb T k vars d)(s:P.Bs)(h:eD T k s=ae)
  (hs:s.all P.digit=ae) :
  Calls bao 51 #[pp pb,aW s] w fun e w'=>
   np 2 (tk T k).pos w w' e/\dc pb w w'/\SB w' pb:=by
 have H:=a0A hp;have H2:=a0A h;have H3:=a0A hs;clear hp h hs
 go_enter func51,ntmps51
 go_wp2_with fail
 refine(qs H.out s H2.out H3.out).mono ?_;rintro e w' ⟨rfl,rfl⟩
 go_wp2_with fail
 refine(R2 H.out).mono ?_;rintro e w' ⟨⟨b,rfl,hb⟩,hf,hs⟩;exact⟨J,⟨b,J,hb⟩,hf,hs⟩
def SP.d2(h:SP w pb tb T k vars d) :
  w.cell? ⟨pb,2,V⟩=O (zi d)/\w.frozen? ⟨pb,2,V⟩=ae/\pb<w.heap.size:=by
 obtain⟨cap,vv,b,c,a,_⟩:=h.yG;exact⟨cellOf a J,jO a 2,bn a⟩
abbrev Mp(w:Z)(pb:Nat)(d:Nat):Z:=
 (w.setCell ⟨pb,2,V⟩ (zi ((d:Int)+1))).alloc (ah #[pp pb] 139)
theorem SP.ext{w w':Z}{pb tb:Nat}{T:List P.Tok}{k:Nat}{vars:List P.Bs}{d:Nat}(h:SP w pb tb T k vars d)
  (hw:∀ (b:Nat) (o:Obj),w.heap[b]?=O o->w'.heap[b]?=O o):SP w' pb tb T k vars d:=by
 obtain⟨tw,lt,kt,nv,toks,cap,vv,a,c,e,g1,g2⟩:=h;obtain⟨n,cs,t1,t2⟩:=toks;refine⟨tw,lt,kt,nv,⟨(by grind [zV.ext]),cs,hw _ _ t1,t2⟩,cap,vv,a,c,hw _ _ e,g1,?_⟩;rcases g2 with g | ⟨g,f,cur,i,j,l,m⟩
 .grind
 .exact .inr ⟨g,f,cur,i,j,hw _ _ l,m⟩
def SP.Mp{w:Z}{pb tb:Nat}{T:List P.Tok}{k:Nat}{vars:List P.Bs}{d:Nat}(h:SP w pb tb T k vars d):SP (Mp w pb d) pb tb T k vars (d+1):=by
 have a:SP (w.setCell ⟨pb,2,V⟩ (zi ((d:Int)+1))) pb tb T k vars (d+1):=by
  refine h.set h.kt (dc.Ge (bD.refl _ _) _) (fun b v2 hv=>?_) (by grind [blk_setCell_other]);rw[AN hv];rfl
 exact a.ext (by grind [dS])
def ajY(w:Z)(pb d:Nat):(Mp w pb d).heap.size=w.heap.size+1:=by rw[size_alloc,size_setCell]
def aBE(w:Z)(pb d:Nat):(Mp w pb d).heap[w.heap.size]?=aP #[pp pb] 139:=by
 grind [blk_alloc_new,size_setCell]
def ajZ(w:Z)(pb d:Nat):dc pb w (Mp w pb d):=(dc.Ge (bD.refl _ _) _).alloc _
def zZ(hp:SP w pb tb T k vars d)(hd:d+1<=8) :
  Calls bao 86 #[pp pb] w fun e w'=>
   e = ai (.func (.func 116) #[] #[pp w.heap.size])/\w'.heap.size=w.heap.size+1 /\
   w'.heap[w.heap.size]?=aP #[pp pb] 139/\SP w' pb tb T k vars (d+1)/\dc pb w w':=by
 obtain⟨h2,f2,hb⟩:=hp.d2;have H:=a0A hp;clear hp
 go_enter func86,ntmps86
 go_wp2_with fail
 go_ret
 exact⟨J,ajY w pb d,aBE w pb d,H.out.Mp,ajZ w pb d⟩
def V5(hp:SP w pb tb T k vars d)(hd:8<d+1)(xG:d<=100) :
  Calls bao 86 #[pp pb] w fun e w'=>np 4 (tk T k).pos w w' e/\dc pb w w'/\SB w' pb:=by
 obtain⟨h2,f2,hb⟩:=hp.d2;have eh:¬ tb=pb:=by have:=hp.lt;omega
 have R6:¬ pb=tb:=zo;have tF:tb<w.heap.size:=by have:=hp.lt;omega
 have ff:=a0A hp.Mp;have fa:=a0A (ajZ w pb d);obtain⟨n,c,h0,l0,l1,-,-,-⟩:=hp.l0;obtain⟨-,-,t2⟩:=hp.toks.at hp.kt;clear hp
 go_enter func86,ntmps86
 go_wp2_with fail
 refine(BV _ _ _ pb ff.out.sb).mono ?_;rintro e w' ⟨⟨b,rfl,hb,hl⟩,hf,hs⟩;exact⟨J,⟨b,J,hb,a0E (a0E (Nat.le_succ _) (Nat.le_of_eq (ajY w pb d).symm)) hl⟩,fa.out.trans hf,hs⟩
abbrev abk(w:Z)(pb:Nat)(d:Int):Z:=w.setCell ⟨pb,2,V⟩ (zi d)
def aBF(hp:SP w pb tb T k vars (d+1))
  (hx:w.heap[bx]?=aP #[pp pb] 139) (hd:d<=100) (u:FrameMode) :
  CallsD bao 116 #[pp bx] u w fun e u' w'=>u'=u/\(e = ai (aq #[])/\SP w' pb tb T k vars d/\dc pb w w'/\w'.heap.size=w.heap.size):=by
 obtain⟨h2,f2,hb⟩:=hp.d2;have oX:w.cell? ⟨bx,0,V⟩=_:=cellOf hx J;have e1:((d+1:Nat):Int)=(d:Int)+1:=rfl;rw[e1] at h2;have kT:SP (abk w pb d) pb tb T k vars d:=by
  refine hp.set hp.kt (dc.Ge (bD.refl _ _) _) (fun cp v2 hv=>?_) (by grind [blk_setCell_other]);rw[AN hv];rfl
 have tE:dc pb w (abk w pb d):=dc.Ge (bD.refl _ _) _;have jr:(abk w pb d).heap.size=w.heap.size:=size_setCell _ _ _;have H1:=a0A kT;have H2:=a0A tE;have H3:=a0A jr;clear kT tE jr hp e1 hx;have e2:((d:Int)+1-1)=d:=zo
 go_enter_d func116,ntmps116
 go_wp2_with fail
 go_end0
 exact⟨J,H1.out,H2.out,H3.out⟩
def aBG(hp:SB w pb)
  (hx:w.heap[bx]?=aP #[pp pb] 139) (u:FrameMode) :
  CallsD bao 116 #[pp bx] u w fun e u' w'=>u'=u/\(e = ai (aq #[])/\SB w' pb/\dc pb w w'/\w'.heap.size=w.heap.size/\∀ b,b≠pb->w'.heap[b]?=w.heap[b]?):=by
 obtain⟨lv,vv,d,h⟩:=hp;have h2:w.cell? ⟨pb,2,V⟩=_:=cellOf h J;have f2:=jO h 2;have oX:w.cell? ⟨bx,0,V⟩=_:=cellOf hx J;have kT:∀ x,SB (w.setCell ⟨pb,2,V⟩ (zi x)) pb:=fun x=>⟨lv,vv,x,by rw[AN h];rfl⟩;have tE:∀ x,dc pb w (w.setCell ⟨pb,2,V⟩ (zi x)):=(by grind [dc.Ge,bD.refl]);have H1:=a0A kT;have H2:=a0A tE;clear kT tE hx h
 go_enter_d func116,ntmps116
 go_wp2_with fail
 go_end0
 exact⟨J,H1.out _,H2.out _,size_setCell _ _ _,(by grind [blk_setCell_other])⟩
def lE(F:Nat->Prop)(w:Z)(v:Y)(l:List Ex):Prop:=∃ vs,fO F w 106 v vs/\eT F w vs l
def JR(F:Nat->Prop)(w:Z)(v:Y)(l:List Bd):Prop:=∃ vs,fO F w 84 v vs/\gF F w vs l
structure R7(f:Nat):Prop where
 go:∀ {pb tb:Nat} {T:List P.Tok} {k:Nat} {vars:List P.Bs} {d:Nat} {w:Z} {r:cg Ex},SP w pb tb T k vars d->d<=8 ->
  oE T f k vars d=O r->Calls bao 117 #[pp pb] w (jX eR pb tb T d w r)
structure OY(f:Nat):Prop where
 go:∀ {pb tb:Nat} {T:List P.Tok} {k:Nat} {vars:List P.Bs} {d:Nat} {w:Z} {r:cg (List Ex)} (at_:Nat),SP w pb tb T k vars d->d<=8 ->
  nW T f k vars d at_ []=O r->Calls bao 50 #[pp pb,zi at_] w (jX lE pb tb T d w r)
structure R8(f:Nat):Prop where
 go:∀ {pb tb:Nat} {T:List P.Tok} {k:Nat} {vars:List P.Bs} {d:Nat} {w:Z} {r:cg Ex},SP w pb tb T k vars d->d<=8 ->
  pE T f k vars d=O r->Calls bao 142 #[pp pb] w (jX eR pb tb T d w r)
structure Mq(f:Nat):Prop where
 go:∀ {pb tb:Nat} {T:List P.Tok} {k:Nat} {vars:List P.Bs} {d:Nat} {w:Z} {r:cg Ex} (lvl:Nat),lvl<=2->SP w pb tb T k vars d->d<=8 ->
  jl T f lvl k vars d=O r->Calls bao 91 #[pp pb,zi lvl] w (jX eR pb tb T d w r)
structure HH(f:Nat):Prop where
 go:∀ {pb tb:Nat} {T:List P.Tok} {k:Nat} {vars:List P.Bs} {d:Nat} {w:Z} {r:cg Ex},SP w pb tb T k vars d->d<=8 ->
  jl T f 0 k vars d=O r->Calls bao 60 #[pp pb] w (jX eR pb tb T d w r)
structure abl:Prop where
 go:∀ {pb tb:Nat} {T:List P.Tok} {k:Nat} {vars:List P.Bs} {d:Nat} {w:Z} (t:P.Tok),SP w pb tb T k vars d->t.text≠[] ->
  Calls bao 141 #[pp pb,.agg #[zi t.kind,aW t.text,zi t.pos]] w (jX eR pb tb T d w (xA t k vars))
structure V6:Prop where
 go:∀ {w:Z} (s:P.Bs),s≠[]->s.all P.digit=A->s.length<=9 ->
  Calls bao 135 #[aW s,zi 10,zi 64] w fun e w'=>e = ai (aq #[zi (P.num s),aj])/\Ext w w'
abbrev Gf(w:Z)(pb tb k n c:Nat):Z:=w.setCell ⟨pb,0,V⟩ (.slice (O ⟨tb,k*3+3,V⟩) (n-1) (c-1))
def SP.on(h:SP w pb tb T k vars d)(hk:(tk T k).kind≠0) :
  ∃ n c:Nat,w.cell? ⟨pb,0,V⟩=O (.slice (O ⟨tb,k*3,V⟩) n c)/\w.frozen? ⟨pb,0,V⟩=ae/\pb<w.heap.size/\1<n/\n<=100000/\n<=c/\c<=9223372036854775807 /\
   SP (Gf w pb tb k n c) pb tb T (k+1) vars d/\dc pb w (Gf w pb tb k n c):=by
 obtain⟨tw,lt,kt,nv,toks,cap,vv,e,f,a,g1,g2⟩:=h;have i:=tw.next kt hk
 have p:=tw.len;have b:dc pb w (Gf w pb tb k (T.length-k) (cap-k)):=dc.Ge (bD.refl _ _) _;refine⟨T.length-k,cap-k,cellOf a J,jO a 0,bn a,zo,zo,zo,zo,?_,b⟩;refine⟨tw,lt,i,nv,b.toks lt toks,cap,vv,e,f,?_,g1,?_⟩
 .rw[AN a];grind
 .rcases g2 with g | ⟨g,j,cur,l,m,q,o⟩
  .grind
  .refine .inr ⟨g,j,cur,l,m,?_,o⟩;grind [blk_setCell_other]
def V7{α:Type}(I:(Nat->Prop)->Z->Y->α->Prop):Prop:=
 ∀ (F F':Nat->Prop) (pb:Nat) (w w':Z) (v:Y) (x:α),I F w v x->dc pb w w'->(∀ b,F b->b≠pb/\F' b)->I F' w' v x
def JT:V7 eR:=fun F F' pb w w' v x h a b=>(by grind [eR.mono,dc.lx])
def Gg:V7 dM:=fun F F' pb w w' v x h a b=>(by grind [dM.mono,dc.lx])
def aBH:V7 lE:=fun F F' pb w w' v x h a e=>by
 obtain⟨vs,c,f⟩:=h;exact⟨vs,c.mono zg fun b cs g d=>a.lx ⟨zg,J⟩ d zg,
  (by grind [eT.mono,dc.lx])⟩
abbrev R9(bx:Nat):Deferred:={ target:=.fn (.func 116) #[pp bx],args:=#[] }
def aj0(bx:Nat)(w:Z):(invoke (R9 bx).target (R9 bx).args).run bao w = .ok (.enter 116 #[pp bx]) w:=by
 simp [go_sem]
def yK{α:Type}{I:(Nat->Prop)->Z->Y->α->Prop}(c:V7 I){vs:List P.Bs}{a:Z}
 {tmps:Array Y} {x:α} (f:fn.results=#[.tmp j])
  (m:pb<w.heap.size) (g:SP a pb tb T k vs (d+1)) (n:d<=8)
  (hx:a.heap[bx]?=aP #[pp pb] 139) (hv:I (Nu w a) a (tmps.getD j undef) x) (h:dc pb w a) :
  bodyPostD bao fn (jX I pb tb T d w (.ok x k vs)) .ret { tmps:=tmps,defers:=[R9 bx] } a:=by
 refine leaves_cons zs (aj0 bx a) ((aBF g hx zo _).mono ?_);rintro e u w' ⟨rfl,rfl,i,b,l⟩;refine⟨_,(by grind [results_tmp]),_,J,c _ _ _ _ _ _ _ hv b ?_,i,h.trans b⟩;omega
def tH{α:Type}{I:(Nat->Prop)->Z->Y->α->Prop}{f:Z}{a:Nat}
 {tmps:Array Y} {chain:List PanicEntry} (m:pb<w.heap.size) (h:SB f pb)
  (hx:f.heap[bx]?=aP #[pp pb] 139) (hv:np c a w f (.panicked chain)) (i:dc pb w f) :
  bodyPostD bao fn (jX I pb tb T d w (.err c a)) (.panic chain) { tmps:=tmps,defers:=[R9 bx] } f:=by
 obtain⟨b,j,n,k⟩:=hv;cases j;refine leaves_cons zs (aj0 bx f) ((aBG h hx _).mono ?_);rintro e u w' ⟨rfl,rfl,g,l,o,p⟩;exact⟨⟨b,J,zg,k⟩,i.trans l,g⟩
def JV{name:P.Bs}{n:Int}(a:F b)
  (h:w.heap[b]?=aP #[.int .u8 pb,aW name,zi n,zi k,b9] 178) :
  eR F w (pp b) (.mk pb name n k []):=by
 unfold eR;exact⟨b,_,[],J,a,h,.inl ⟨J,J⟩,by unfold eT;rfl⟩
theorem EN{o:Obj}(h:n=w.heap.size):(w.alloc o).heap[n]?=O o:=by grind [blk_alloc_new]
theorem SP.setOther{x:Nat}{t:TypeId}{z:Nat×Nat}(h:SP w pb tb T k vars d)
  (hx:w.heap[x]?=O (ah cs t z)) (ht:t≠9) (l:x≠pb) (m:tb<x) (v:Y):SP (w.setCell ⟨x,o,V⟩ v) pb tb T k vars d:=by
 obtain⟨tw,lt,kt,nv,⟨n,a,t1,t2⟩,cap,vv,b,c,p,g1,g2⟩:=h;refine⟨tw,lt,kt,nv,⟨(by grind [blk_setCell_other,zV.ext]),a,by grind [blk_setCell_other],t2⟩,cap,vv,b,c,
  by grind [blk_setCell_other],g1,?_⟩
 rcases g2 with g | ⟨g,e,cur,f,i,q,j⟩
 .grind
 .refine .inr ⟨g,e,cur,f,i,?_,j⟩;rw[blk_setCell_other]<;>grind
theorem lE.mono{F F':Nat->Prop}{w w':Z}{v:Y}{l:List Ex}(a:∀ b,F b->F' b)(hw:∀ b o,F b->Dt o->w.heap[b]?=O o->w'.heap[b]?=O o)
  (h:lE F w v l):lE F' w' v l:=by
 obtain⟨vs,c,f⟩:=h;exact⟨vs,c.mono a fun b cs d e=>hw b _ d ⟨zg,J⟩ e,(by grind [eT.mono])⟩
def lE.set{l:List Ex}{x:Nat}(h:lE F w v l)(hx:∀ b,F b->b≠x)(u:Y):lE F (w.setCell ⟨x,o,V⟩ u) v l:=
 h.mono zg (by grind [blk_setCell_other])
theorem abm{name:P.Bs}{n:Int}{l:List Ex}(c:F b)
  (h:w.heap[b]?=aP #[.int .u8 pb,aW name,zi n,zi k,av] 178) (a:lE F w av l) :
  eR F w (pp b) (.mk pb name n k l):=by
 obtain⟨vs,d,e⟩:=a;unfold eR;grind
theorem fO.shape{d:TypeId}(h:fO F w d v vs):∃ a n c,v = .slice a n c/\n=vs.length/\n<=c/\(a=V->n=0):=by
 rcases h with⟨rfl,rfl⟩| ⟨b,cs,rfl,_,_,h,_⟩<;>grind
def eT.length{F:Nat->Prop}{w:Z}:∀ {l:List Ex} {vs:List Y},eT F w vs l->vs.length=l.length
 | [],vs,h=>by unfold eT at h;rw[h];rfl
 | x::xs,vs,h=>by
  unfold eT at h;obtain⟨v,r,rfl,_,a⟩:=h;simp [eT.length a]
theorem lE.shape{F:Nat->Prop}{w:Z}{v:Y}{l:List Ex}(h:lE F w v l):∃ a n c,v = .slice a n c/\n=l.length/\n<=c:=by
 obtain⟨vs,b,d⟩:=h;obtain⟨a,n,c,rfl,e,f,_⟩:=b.shape;exact⟨a,n,c,J,by rw[e,d.length],f⟩
theorem abn{x y:Ex}(a:F b)(h:w.heap[b]?=aP #[u,v] 106)(hx:eR F w u x)(c:eR F w v y) :
  lE F w (cU b 2 2) [x,y]:=by
 refine⟨[u,v],.inr ⟨b,#[u,v],J,a,h,Nat.le_refl _,J⟩,?_⟩;unfold eT;refine⟨u,[v],J,hx,?_⟩;unfold eT;refine⟨v,[],J,c,?_⟩;unfold eT;rfl
theorem SP.other{x:Nat}{t:TypeId}{z:Nat×Nat}(h:SP w pb tb T k vars d)
  (hx:w.heap[x]?=O (ah cs t z)) (ht:t≠9) (n:x≠pb) (p:tb<x) (hw:∀ (b:Nat) (o:Obj),b≠x->w.heap[b]?=O o->w'.heap[b]?=O o):SP w' pb tb T k vars d:=by
 obtain⟨tw,lt,kt,nv,⟨q,a,t1,t2⟩,cap,vv,c,e,r,g1,g2⟩:=h;refine⟨tw,lt,kt,nv,⟨(by grind [zV.ext]),a,zg,t2⟩,cap,vv,c,e,zg,g1,?_⟩;rcases g2 with g | ⟨g,f,cur,i,j,l,m⟩
 .grind
 .refine .inr ⟨g,f,cur,i,j,hw _ _ ?_ l,m⟩;grind
def SP.OZ{t:TypeId}(h:SP w pb tb T k vars d)
  (c:w.ownsRow base t 1 v n xs) (ht:t≠9) (l:pb<base) (f:w.grownBy w' v.ownBlock):SP w' pb tb T k vars d:=by
 have hlt:=h.lt;rcases c.2 with⟨rfl,_⟩| ⟨g,cap,cur,rfl,m,i,_⟩
 .exact h.ext (by grind [bn,Value.ownBlock,World.grownBy.block])
 .exact h.other i ht zo zo fun b o j a=>by rw[f.block b (bn a) (by simp only[Value.ownBlock];intro e;injection e with e;exact j e)];exact a
theorem bD.O0{M:Nat->Obj->Prop}{a b c:Z}{row:Option Nat}(h:bD M a b)(d:b.grownBy c row)(hr:∀ k,row=O k->a.heap.size<=k):bD M a c:=
 ⟨d.os.trans h.os,d.tape.trans h.tape,d.output.trans h.output,a0E h.size d.size,fun i o f hm=>by
  have g:=h.block i o f hm;rw[d.block i (bn g) (fun e=>by have:=hr i e.symm;have:=bn f;omega)];exact g⟩
theorem EO{t:TypeId}(h:w.ownsRow base t 1 v n xs)(a:∀ b,v.ownBlock=O b->F b):fO F w t v xs:=by
 obtain⟨j,⟨rfl,c⟩| ⟨g,cap,cur,rfl,c,d,e,k,l,m⟩⟩:=h
 .exact .inl zg
 .have f:xs.length=n:=zo;have i:cur.size=cap:=zo;subst f;subst i;exact .inr ⟨g,cur,J,a g J,d,e,zg⟩
def eT.snoc{F:Nat->Prop}{w:Z}{v:Y}{x:Ex}(hv:eR F w v x):∀ {l:List Ex} {vs:List Y},eT F w vs l->eT F w (vs++[v]) (l++[x])
 | [],vs,h=>by
  unfold eT at h;subst h;simp only[List.nil_append];unfold eT;exact⟨v,[],J,hv,by unfold eT;rfl⟩
 | y::l,vs,h=>by
  unfold eT at h;obtain⟨u,r,rfl,a,b⟩:=h;simp only[List.cons_append];unfold eT;exact⟨u,r++[v],J,a,eT.snoc hv b⟩
def aj3:(Tryz.prog.info? 106).map (fun i=>(i.zero,i.size,i.bytes))=O (O (au V),1,8):=zk
def aj4{a:Addr}(h:w.cell? a=O v)(hw:∀ cs t z,w.heap[a.block]?=O (ah cs t z)->w'.heap[a.block]?=O (ah cs t z)):w'.cell? a=O v:=by
 grind [World.cell?,World.cell?_of_block]
def SP.aBI(h:SP w pb tb T k vars d)
  (hw:∀ (b:Nat) (cs:Array Y) (t:TypeId) (z:Nat×Nat),w.heap[b]?=O (ah cs t z)->w'.heap[b]?=O (ah cs t z)):SP w' pb tb T k vars d:=by
 obtain⟨tw,lt,kt,nv,toks,cap,vv,m,n,u,g1,g2⟩:=h;obtain⟨f,cs,t1,t2⟩:=toks;refine⟨tw,lt,kt,nv,⟨⟨f.lt,fun l p=>?_⟩,cs,zg,t2⟩,cap,vv,m,n,zg,g1,?_⟩
 .obtain⟨b,o,c,a,e,i⟩:=f.Gd l p;exact⟨b,o,c,a,aj4 e (hw _),fun j q=>aj4 (i j q) (hw _)⟩
 .rcases g2 with g | ⟨g,r,cur,a,e,i,s⟩
  .grind
  .exact .inr ⟨g,r,cur,a,e,zg,s⟩
def aBJ{o:Obj}(h:Dt o):∃ cs t z,o = ah cs t z:=by
 cases o with
 | cells cs t z=>grind
 | _=>exact h.elim
def eT.blocks{F:Nat->Prop}{w:Z}:∀ {l:List Ex} {vs:List Y},eT F w vs l->∃ bl:List Nat,vs=bl.map (fun b=>a1l (O ⟨b,0,V⟩))/\bl.length=l.length
 | [],vs,h=>by unfold eT at h;exact⟨[],zg,J⟩
 | x::l,vs,h=>by
  unfold eT at h;obtain⟨u,r,rfl,a,c⟩:=h;obtain⟨bl,rfl,e⟩:=eT.blocks c;cases x with
  | mk kind name n k args=>
   unfold eR at a;obtain⟨b,_,_,rfl,_⟩:=a;exact⟨b::bl,J,zg⟩
theorem eT.get{F:Nat->Prop}{w:Z}:∀ {l:List Ex} {bl:List Nat},eT F w (bl.map (fun b=>a1l (O ⟨b,0,V⟩))) l->∀ i (a:i<l.length),eR F w (pp (bl.getD i 0)) l[i]
 | [],bl,h,i,a=>zg
 | x::l,bl,h,i,a=>by
  unfold eT at h;obtain⟨u,r,e,d,c⟩:=h;cases bl with
  | nil=>grind
  | cons b bl=>
   simp only[List.map_cons,List.cons.injEq] at e;obtain⟨rfl,rfl⟩:=e;cases i with
   | zero=>grind
   | succ i=>simpa using eT.get c i zg
open Go.Shelf
attribute [local go_sem] Oper.semAt_some
def JW(X:Nat)(W a:Z):Prop:=∀ (b:Nat) (cs:Array Y) (t:TypeId) (z:Nat×Nat),b≠X->W.heap[b]?=O (ah cs t z)->a.heap[b]?=O (ah cs t z)
theorem JW.trans{X:Nat}{B C:Z}(h:JW X W B)(k:JW X B C):JW X W C:=fun b cs t z a c=>k b cs t z a (h b cs t z a c)
def HU(bl:List Nat)(k:Nat):List (Nat×Nat):=(List.range k).map fun j=>(bl.length-1-j,bl.getD (bl.length-1-j) 0)
def aj5(bl:List Nat)(k:Nat):HU bl (k+1)=HU bl k++[(bl.length-1-k,bl.getD (bl.length-1-k) 0)]:=by simp [HU,List.range_succ]
def V8(bl:List Nat)(k:Nat):(HU bl k).length=k:=by simp [HU]
abbrev aj6(x:Nat×Nat):Array Y:=#[zi x.1,pp x.2]
def aBK(F:Fence)(n:Nat)(h8:F.fn 175)(Me:F.round=V)(hn:1<=n)(l Bs g cap X:Nat)(bl:List Nat)(Ms:Bs≠X)(hX2:g≠X)(hlen:bl.length<=100000)
  (a Jx:List (Nat×Nat)->Z->Prop)
  (hY:∀ pre x W,a pre W->pre.length<bl.length->YieldAt F (n-1) bao l (aj6 x) W fun e W'=>
   (e = ai (.bool A)/\a (pre++[x]) W'/\JW X W W')\/(e = ai (.bool ae)/\Jx (pre++[x]) W'))
  (W:Z) (O2:W.heap[Bs]?=aP #[cU g bl.length cap] 83) (cur:Array Y) (hg:W.heap[g]?=aP cur 106)
  (hc:∀ j,j<bl.length->cur[j]?=O (pp (bl.getD j 0))) (h0:a [] W) :
  CallsIn F n bao 175 #[.func (.yield l) #[] #[],pp Bs] W fun e W'=>(∃ v,e = ai v) /\
   ((∃ ys,ys=HU bl bl.length/\a ys W')\/(∃ pre,True/\Jx pre W')):=by
 have HC:=a0A hc;have HG:=a0A hg;have HB:=a0A O2;have HY:=a0A hY;have hBc:W.cell? ⟨Bs,0,V⟩=O (cU g bl.length cap):=cellOf O2 J;obtain⟨len,hl⟩:=ck bl.length;rw[<- hl] at hlen hBc;have HL:=a0A hl;clear hl hc hg O2 hY;refine callsIn_of_wp func175 J h8 ?_ Me;simp only[ntmps175,List.size_toArray,List.length_cons,List.length_nil,Nat.reduceAdd,Nat.reduceSub,Array.replicate_succ,Array.replicate_zero,List.push_toArray,List.append_toArray,List.nil_append,List.cons_append]
 gi_wp2
 gi_loopw [3] (fun i wr=>∃ k:Nat,k<=len/\i=zi ((len:Int)-1-k)/\a (HU bl k) wr/\JW X W wr)
  (fun i _=>(intOf i+1).toNat)
 case atStart=>exact⟨0,Nat.zero_le _,zs,h0,fun _ _ _ _ _ h=>h⟩
 case round=>
  obtain⟨k,hk,rfl,hJs,hnx⟩:=hrel;have HJ:=a0A hJs;have HN:=a0A hnx;have aUl:wr.cell? ⟨Bs,0,V⟩=O (cU g len cap):=by rw[HL.out];exact cellOf (HN.out _ _ _ _ Ms HB.out) J
  clear hJs hnx hBc;by_cases hlt:k<len
  .obtain⟨i,hi⟩:∃ i:Nat,i=len-1-k:=⟨_,J⟩;have hii:((len:Int)-1-k)=(i:Int):=zo;rw[hii];have hcx:wr.cell? ⟨g,i,V⟩=O (pp (bl.getD i 0)):=cellOf (HN.out _ _ _ _ hX2 HG.out) (by grind [Hid.out]);obtain⟨fn,tmps,assign,body,hy,hR⟩:=HY.out _ (i,bl.getD i 0) wr HJ.out (by rw[V8,<- HL.out];exact hlt);have lX:i<len:=zo;have hy2:(Instr.yield l #[zi (i:Int),pp (bl.getD i 0)]).run bao wr = .ok (.round l fn tmps assign body) wr:=hy;clear hy;have HI:=a0A hi;have HII:=a0A hii;obtain⟨bb,wu⟩:=ck (bl.getD i 0);rw[<- wu] at hcx hy2;have HBB:=a0A wu;clear hi hii wu
   gi_wp2
   refine hR.mono ?_;rintro e W3 (⟨rfl,hJ3,qT⟩| ⟨rfl,aBO⟩)
   .gi_wp2
    go_roundw
    case rel=>
     refine⟨k+1,zo,?_,?_,HN.out.trans qT⟩
     .have:=HI.out;congr 1;omega
     .have:=HL.out;have e:=HI.out;rw[aj5,<- this,<- e];exact hJ3
    case measure=>simp [intOf]
   .gi_wp2
    refine bodyPost_ret (results_none J _ _ _) J ?_;exact⟨⟨_,J⟩,.inr ⟨_,trivial,aBO⟩⟩
  .obtain rfl:k=len:=zo
   gi_wp2
   go_end0
   exact⟨⟨_,J⟩,.inl ⟨_,J,by rw[<- HL.out];exact HJ.out⟩⟩
def backward(a:Option Addr)(n c:Nat)(w:Z) :
  Calls bao 162 #[.slice a n c] w fun e w'=>e = ai (.func (.func 175) #[] #[pp w.heap.size])/\w.alloc (ah #[.slice a n c] 83)=w':=by
 have hmf:∀ (fn:Fn) (first cap:Array Y) (w:Z),(Instr.makeFunc fn first cap).run bao w = .ok (.func fn first cap) w:=fun _ _ _ _=>rfl
 go_enter func162,ntmps162
 go_wp2
 go_ret
 exact⟨J,J⟩
def aBP(F:Fence)(n:Nat)(f:F.fn 175)(h:F.round=V)(i:1<=n)(Bs g cap X:Nat)(bl:List Nat)(k:Bs≠X)(b:g≠X)(hlen:bl.length<=100000)(w:Z)
  (c:w.heap[Bs]?=aP #[cU g bl.length cap] 83) (cur:Array Y) (d:w.heap[g]?=aP cur 106)
  (m:∀ j,j<bl.length->cur[j]?=O (pp (bl.getD j 0))) :
  SeqStopsK F n bao 175 #[pp Bs] aj6 (JW X) (fun o=>o=HU bl bl.length) (fun _=>True) bl.length w:=fun l a p W e _ _ q r=>
 aBK F n f h i l Bs g cap X bl k b hlen a p q W (by rw[e.block Bs (bn c)];exact c) cur (by rw[e.block g (bn d)];exact d) m r
end Go.Proofs.YtoegidfbnkaabaaGreatDoor
namespace Go.Proofs.YtoegidfbnkaabaaGreatDoor
open P
open Go.RowKit
variable{F:Nat->Prop}{T:List P.Tok}{cap d f k k' pb tb:Nat}{v:Y}{vars:List P.Bs}{w w0:Z}
def aBQ(abt:R7 f){r:cg Ex}(hp:SP w pb tb T k vars d)(hd:d<=8)
  (h:oE T f k vars d=O r):Calls bao 91 #[pp pb,zi 2] w (jX eR pb tb T d w r):=by
 have H:=a0A hp;have HR:=a0A h;clear hp h
 go_enter func91,ntmps91
 go_wp2_with fail
 refine wp_scope_straight ?_
 go_wp2_with fail
 refine(abt.go H.out hd HR.out).mono ?_;cases r with
 | err c0 a0=>
  rintro e w4 ⟨⟨b,rfl,eQ,gH⟩,dV,gQ⟩;exact⟨J,⟨b,J,eQ,gH⟩,dV,gQ⟩
 | ok x k' vs=>
  rintro e w4 ⟨v,rfl,hv,jd,eF⟩;have HV:=a0A hv;have tI:=a0A jd;have tJ:=a0A eF;clear hv jd eF
  go_wp2_with fail
  rw[Exit.noGoto_ret]
  go_ret
  exact⟨v,J,HV.out,tI.out,tJ.out⟩
theorem eR.shape{x:Ex}(h:eR F w v x):∃ b,v=pp b/\F b:=by
 cases x with
 | mk kind name n k args=>
  unfold eR at h;obtain⟨b,_,_,a,c,_⟩:=h;exact⟨b,a,c⟩
noncomputable def aBR:Code:=match findLabel (match Tryz.f91.body with | some (.seq _ (.scope c))=>c | _=>.skip) 0 with | some (.seq _ x)=>x | _=>.skip
def OJ(pb tb:Nat)(T:List P.Tok)(lvl d:Nat)(w0:Z)(r:cg Ex)(n:Nat)(a:Act)(w:Z):Prop:=
 ∃ (x:Ex) (k:Nat) (vs:List P.Bs) (v b c e f g u8 h i j l m o p u16 q s t u y z B C D E F G H I K u32 L M N Q R:Y),a={ tmps:=#[pp pb,zi lvl,b,c,e,v,f,g,u8,h,i,j,l,m,o,p,u16,q,s,t,u,y,z,B,C,D,E,F,G,H,I,K,u32,L,M,N,Q,R],defers:=[] } /\
  eR (Nu w0 w) w v x/\SP w pb tb T k vs d/\dc pb w0 w/\oT T n lvl x k vs d=O r
def aBS(hl:cap<2)(xz:∀ m,m<=f->Mq m){r:cg Ex}(hd:d<=8)(xJ:pb<w0.heap.size)(n:Nat)(hn:n<=f)(a:Act)(w:Z)(hj:OJ pb tb T cap d w0 r n a w) :
  aBR.wp bao (Exit.jump 0 (fun a' w'=>∃ m,m<n/\OJ pb tb T cap d w0 r m a' w') (bodyPost bao Tryz.f91 (jX eR pb tb T d w0 r))) a w:=by
 obtain⟨x,k,vs,v,u2,u3,u4,u6,u7,u8,u9,yO,yP,yQ,wI,wJ,yR,u16,yS,yT,BY,BZ,B0,B1,B2,B3,B4,B5,B6,Dz,DA,DB,HW,u32,H0,AW,ER,Gh,Gi,rfl,hx,hp,hf,hr⟩:=hj;obtain⟨bx,rfl,jJ⟩:=hx.shape;cases n with
 | zero=>grind [oT]
 | succ n=>
 have iG:=hr;rw[oT] at iG;obtain⟨lb,lo,lc,Wc,g1,g2⟩:=hp.toks.1.Gd cap hl;obtain⟨L,hL⟩:=ck ((P.ops cap).length);rw[<- hL] at g1 g2;have hL3:L<=3:=by
  grind [P.ops]
 have gl:=hp.toks.1.lt;have glt:=hp.lt;have gpb:=hp.d2.2.2;have HP:=a0A hp;have HX:=a0A hx;have HF:=a0A hf;have HR:=a0A iG;have HG:=a0A g2;have HL:=a0A hL;have Ad:=a0A jJ;have gsz:lb<w.heap.size:=zo;have aUs:2<w.heap.size:=zo;clear hp hx hf hr iG g2 hL jJ;change Code.wp _ (Code.seq _ _) _ _ _;have aUt:(cap:Int)<2:=zo
 go_wp2_with fail
 go_loop [5,20] (fun q i=>∃ j:Nat,j<=L/\i=zi j/\q=pp bx/\∀ j',j'<j->eD T k ((P.ops cap).getD j' [])=ae) (fun _ i=>L-(intOf i).toNat)
 case atStart=>grind
 case round=>
  obtain⟨j,hj,rfl,rfl,lT⟩:=hrel;have ES:=a0A lT;clear lT;by_cases hlt:j<L
  .have nH:=HG.out j hlt;obtain⟨s,hs⟩:=ck ((P.ops cap).getD j []);rw[<- hs] at nH;have Mt:s.all P.digit=false:=by
    have hL:=HL.out;rw[hs];have h2:cap=0\/cap=1:=zo;rcases h2 with rfl | rfl
    .have:j=0\/j=1:=by grind [P.ops]
     rcases this with rfl | rfl<;>decide
    .have:j=0\/j=1\/j=2:=zo;rcases this with rfl | rfl | rfl<;>decide
   have HS:=a0A hs;have HSD:=a0A Mt;clear hs Mt;by_cases hc:eD T k s=A
   .have HC:=a0A hc;clear hc
    go_wp2_with fail
    refine(vd HP.out s HC.out).mono ?_;rintro e w1 ⟨rfl,dF,gm⟩;have kA:=a0A dF;have iA:=a0A gm;clear dF gm
    go_wp2_with fail
    have e:=HR.out;have hl:=HL.out;rw[Rw,ZR (j:=j) zo (by rw[<- HS.out];exact HC.out) ES.out,<- HS.out] at e;dsimp only at e;have aBT:=iA.out.size;cases hq:jl T n (cap+1) (k+1) vs d with
    | none=>rw[hq] at e;simp [cg.bind] at e
    | some q=>
     rw[hq] at e;refine((xz n zo).go (cap+1) zo kA.out hd hq).mono ?_;cases q with
     | err c0 a0=>
      rintro e2 w4 ⟨⟨b,rfl,eQ,gH⟩,dV,gQ⟩;simp only[cg.bind,a0z] at e;subst e;have Wd:=HF.out.size;exact⟨J,⟨b,J,eQ,zo⟩,(HF.out.trans iA.out).trans dV,gQ⟩
     | ok y k' wK=>
      rintro e2 w4 ⟨v,rfl,hv,jd,eF⟩;obtain⟨bY,rfl,hbY⟩:=hv.shape;have HV:=a0A hv;have tI:=a0A jd;have tJ:=a0A eF;have HE:=a0A e;have HBY:=a0A hbY;clear hv jd eF e hbY hl hq
      go_wp2_with fail
      refine wp_goto ?_;have pH:=iA.out.size;have AX:=tJ.out.size;have jJ:=Ad.out;have aBV:=iA.out.trans tJ.out;have xF:eR (Nu w0 (((w4.alloc (a1d #[pp bx,pp bY] 106)).alloc (a1d #[.int .u8 99,aW s,zi 0,zi 0,cU w4.heap.size 2 2] 178)))) (((w4.alloc (a1d #[pp bx,pp bY] 106)).alloc (a1d #[.int .u8 99,aW s,zi 0,zi 0,cU w4.heap.size 2 2] 178))) (pp bx) x:=
       eR.mono (by grind [size_alloc]) (by grind [dS,dc.lx]) _ _ HX.out
      have hyy:eR (Nu w0 (((w4.alloc (a1d #[pp bx,pp bY] 106)).alloc (a1d #[.int .u8 99,aW s,zi 0,zi 0,cU w4.heap.size 2 2] 178)))) (((w4.alloc (a1d #[pp bx,pp bY] 106)).alloc (a1d #[.int .u8 99,aW s,zi 0,zi 0,cU w4.heap.size 2 2] 178))) (pp bY) y:=
       eR.mono (by grind [size_alloc,bD.size,Hid.out]) (by grind [dS]) _ _ HV.out
      have Mu:=HF.out.size;exact⟨J,n,Nat.lt_succ_self n,.mk 99 s 0 0 [x,y],k',wK,pp (w4.heap.size+1),_,_,_,_,_,_,_,_,_,_,_,_,_,_,_,_,_,_,_,_,_,_,_,_,_,_,_,_,_,_,_,_,_,_,_,J,
       (by grind [abm,size_alloc,EN,abn,dS,blk_alloc_new]),
       (by grind [dS,SP.ext,Hid.out]),((HF.out.trans aBV).alloc _).alloc _,HE.out⟩
   .have oc:eD T k s=false:=zg;have HC:=a0A oc;clear hc oc
    go_wp2_with fail
    refine(qs HP.out s HC.out HSD.out).mono ?_;rintro e w1 ⟨rfl,rfl⟩
    go_wp2_with fail
    go_round
    case rel=>exact⟨j+1,zo,by go_num,J,fun j' h'=>by
     rcases Nat.lt_or_ge j' j with h | h
     .exact ES.out j' h
     .obtain rfl:j'=j:=zo;rw[<- HS.out];exact HC.out⟩
    case measure=>grind [intOf]
  .go_wp2_with fail
   rw[atJ]
   go_ret
   have e:=HR.out;have hl:=HL.out;rw[Rw,ais (fun j' h'=>ES.out j' zo)] at e;simp only[a0z] at e;subst e;exact⟨_,J,HX.out,HP.out,HF.out⟩
def aBW(hl:cap<2)(xz:∀ m,m<=f->Mq m){r:cg Ex}(hp:SP w pb tb T k vars d)(hd:d<=8)
  {q:cg Ex} (hq:jl T f (cap+1) k vars d=O q) (hr:cg.bind (O q) (fun x k' vars'=>oT T f cap x k' vars' d)=O r) :
  Calls bao 91 #[pp pb,zi cap] w (jX eR pb tb T d w r):=by
 have H:=a0A hp;have HR:=a0A hr;have HQ:=a0A hq;have qu:((cap:Int) == 2)=false:=zg;have xJ:=hp.d2.2.2;clear hp hr hq
 go_enter func91,ntmps91
 go_wp2_with fail
 have O3:=a0A (aBS (T:=T) (tb:=tb) (r:=r) hl xz hd xJ);refine atI 0 (fun n a w'=>n<=f/\OJ pb tb T cap d w r n a w') J ?first ?pass
 case first=>
  intro _
  go_wp2_with fail
  refine((xz f (Nat.le_refl _)).go (cap+1) zo H.out hd HQ.out).mono ?_;cases q with
  | err c0 a0=>
   rintro e w4 ⟨⟨b,rfl,eQ,gH⟩,dV,gQ⟩;have e:=HR.out;simp only[cg.bind,a0z] at e;subst e;exact⟨J,⟨b,J,eQ,gH⟩,dV,gQ⟩
  | ok x k' vs=>
   rintro e w4 ⟨v,rfl,hv,jd,eF⟩;have HV:=a0A hv;have tI:=a0A jd;have tJ:=a0A eF;clear hv jd eF
   go_wp2_with fail
   refine wp_label ?_;rename_i K hK;refine hK _ _ ?_;refine wp_mono (O3.out f zo _ _ ⟨x,k',vs,v,_,_,_,_,_,_,_,_,_,_,_,_,_,_,_,_,_,_,_,_,_,_,_,_,_,_,_,_,_,_,_,_,_,_,_,J,HV.out,tI.out,tJ.out,HR.out⟩) fun e a' w' hq=>?_;cases e with
   | goto l'=>obtain⟨e,m,hm,hi⟩:=hq;exact⟨e,m,zo,hi⟩
   | _=>exact hq
 case pass=>
  rintro n a w' ⟨hn,hj⟩;refine wp_seq (wp_skip ?_);refine wp_mono (O3.out n hn _ _ hj) fun e a' w' hq=>?_;grind
def aBX:Mq 0:=⟨fun _ _ _ _ h=>by simp [jl] at h⟩
theorem aBY(a:R7 f)(i:∀ m,m<=f->Mq m):Mq (f+1):=by
 refine⟨fun{pb tb T k vars d w r} lvl j e g h=>?_⟩;rw[jl] at h;by_cases b:lvl=2
 .rw[zip b] at h;subst b;exact aBQ a e g h
 .rw[bO b] at h;cases c:jl T f (lvl+1) k vars d with
  | none=>rw[c] at h;simp [cg.bind] at h
  | some q=>rw[c] at h;exact aBW zo i e g c h
theorem akd(xz:Mq f):HH f:=by
 refine⟨fun{pb tb T k vars d w r} hp hd h=>?_⟩;have H:=a0A hp;have HR:=a0A h;clear hp h
 go_enter func60,ntmps60
 go_wp2_with fail
 refine(xz.go 0 zo H.out hd HR.out).mono ?_;cases r with
 | err c0 a0=>
  rintro e w4 ⟨⟨b,rfl,eQ,gH⟩,dV,gQ⟩;exact⟨J,⟨b,J,eQ,gH⟩,dV,gQ⟩
 | ok x k' vs=>
  rintro e w4 ⟨v,rfl,hv,jd,eF⟩;have HV:=a0A hv;have tI:=a0A jd;have tJ:=a0A eF;clear hv jd eF
  go_wp2_with fail
  go_ret
  exact⟨v,J,HV.out,tI.out,tJ.out⟩
namespace P
theorem ek{α β:Type}{r:Option (cg α)}{g:α->Nat->List Bs->Option (cg β)}{b:β}{v:List Bs}
  (h:cg.bind r g=O (.ok b k v)):∃ a c v1,r=O (.ok a c v1)/\g a c v1=O (.ok b k v):=by
 unfold cg.bind at h;grind
theorem od{α:Type}{T:List Tok}{s:Bs}{x y:α}{v v':List Bs}(h:mw T s x k v=O (.ok y k' v')):k'=k+1/\y=x/\v'=v:=by
 grind [mw,a0z,cg.ok.injEq]
theorem ake{t:Tok}{v v':List Bs}{x:Ex}(h:xA t k v = .ok x k' v'):k'=k:=by
 grind [xA]
structure aBZ(T:List Tok)(f:Nat):Prop where
 B7:∀ k v d x k' v',oE T f k v d=O (.ok x k' v')->k<k'
 args:∀ k v d a acc x k' v',nW T f k v d a acc=O (.ok x k' v')->k<k'
 list:∀ k v d x k' v',pE T f k v d=O (.ok x k' v')->k<k'
 elems:∀ k v d acc x k' v',qk T f k v d acc=O (.ok x k' v')->k<k'
 oper:∀ l k v d x k' v',jl T f l k v d=O (.ok x k' v')->k<k'
 more:∀ l y k v d x k' v',oT T f l y k v d=O (.ok x k' v')->k<=k'
theorem mono(T:List Tok):∀ f,aBZ T f
 | 0=>⟨by simp_all [oE],by simp_all [nW],by simp_all [pE],by simp_all [qk],by simp_all [jl],by simp_all [oT]⟩
 | f+1=>by
  have ih:=mono T f;refine⟨?_,?_,?_,?_,?_,?_⟩
  .intro k v d x k' v' h;rw[oE] at h;split at h
   .grind
   split at h
   .grind
   split at h
   .grind [a0z,ake]
   split at h
   .split at h
    .obtain⟨a,e,v1,c,b⟩:=ek h;have:=ih.args _ _ _ _ _ _ _ _ c;grind [od]
    grind
   split at h
   .grind
   split at h
   .obtain⟨a,e,v1,c,b⟩:=ek h;have:=ih.oper _ _ _ _ _ _ _ c;grind [od]
   split at h
   .have:=ih.list _ _ _ _ _ _ h;omega
   grind
  .intro k v d a acc x k' v' h;rw[nW] at h;obtain⟨y,e,v1,c,b⟩:=ek h;have:=ih.oper _ _ _ _ _ _ _ c;split at b
   .have:=ih.args _ _ _ _ _ _ _ _ b;omega
   grind
  .intro k v d x k' v' h;rw[pE] at h;split at h
   .grind
   .obtain⟨y,e,v1,c,b⟩:=ek h;have:=ih.elems _ _ _ _ _ _ _ c;split at b
    .obtain⟨z,i,v2,g,j⟩:=ek b;have:=ih.oper _ _ _ _ _ _ _ g;grind [od]
    grind [od]
  .intro k v d acc x k' v' h;rw[qk] at h;obtain⟨y,e,v1,c,b⟩:=ek h;have:=ih.oper _ _ _ _ _ _ _ c;split at b
   .have:=ih.elems _ _ _ _ _ _ _ b;omega
   grind
  .intro l k v d x k' v' h;rw[jl] at h;split at h
   .exact ih.B7 _ _ _ _ _ _ h
   .obtain⟨y,e,v1,c,b⟩:=ek h;have:=ih.oper _ _ _ _ _ _ _ c;have:=ih.more _ _ _ _ _ _ _ _ b;omega
  .intro l y k v d x k' v' h;rw[oT] at h;split at h
   .grind
   .obtain⟨z,e,v1,c,b⟩:=ek h;have:=ih.oper _ _ _ _ _ _ _ c;have:=ih.more _ _ _ _ _ _ _ _ b;omega
end P
def AJ(pb tb:Nat)(T:List P.Tok)(d at_:Nat)(w0:Z)(r:cg (List Ex))(n:Nat)(a:Act)(w:Z):Prop:=
 ∃ (acc:List Ex) (k:Nat) (vs:List P.Bs) (xs:List Y) (sl c e f g h u8 i j l m o p q u16 s t:Y),a={ tmps:=#[pp pb,zi at_,c,e,sl,f,g,h,u8,i,j,l,m,o,p,q,u16,s,t],defers:=[] } /\
  w.ownsRow w0.heap.size 106 1 sl acc.length xs/\eT (fun b=>Nu w0 w b/\sl.ownBlock≠O b) w xs acc/\SP w pb tb T k vs d/\dc pb w0 w/\acc.length<=k /\
  nW T n k vs d at_ acc=O r
def aB1(DD:∀ m,m<f->HH m){r:cg (List Ex)}(at_:Nat)(oY:SP w0 pb tb T k vars d)(hd:d<=8)
  (h:nW T f k vars d at_ []=O r):Calls bao 50 #[pp pb,zi at_] w0 (jX lE pb tb T d w0 r):=by
 have H:=a0A oY;have HR:=a0A h;have xJ:=oY.d2.2.2;have hT:=oY.tw.len;obtain⟨i0,hi,JZ,J0,J1⟩:=info_parts aj3;clear oY h
 go_enter func50,ntmps50
 go_wp2_with fail
 refine wp_loop_ghost (fun n a w=>n<=f/\AJ pb tb T d at_ w0 r n a w) ⟨f,Nat.le_refl _,[],k,vars,[],b9,_,_,_,_,_,_,_,_,_,_,_,_,_,_,_,_,J,World.ownsRow_nil _ _ _ _,by unfold eT;rfl,H.out,bD.refl _ _,Nat.zero_le _,HR.out⟩ ?_;rintro n a w ⟨ZO,acc,k,vs,xs,sl,u2,u3,u5,u6,u7,u8,u9,yO,yP,yQ,wI,wJ,yR,u16,yS,yT,rfl,dU,lY,hp,hf,We,hr⟩;cases n with
 | zero=>grind [nW]
 | succ n=>
 rw[nW] at hr;have H5:=hp.kt;have hz:=hf.size;have HO:=a0A dU;have HX:=a0A lY;have HP:=a0A hp;have HF:=a0A hf;have Ae:=a0A hr;clear dU lY hp hf hr H HR
 go_wp2_with fail
 cases hq:jl T n 0 k vs d with
 | none=>have e:=Ae.out;rw[hq] at e;simp [cg.bind] at e
 | some q=>
 have e:=Ae.out;rw[hq] at e;refine((DD n zo).go HP.out hd hq).mono ?_;cases q with
 | err c0 a0=>
  rintro e2 w4 ⟨⟨b,rfl,eQ,gH⟩,dV,gQ⟩;simp only[cg.bind,a0z] at e;subst e;exact⟨J,⟨b,J,eQ,zo⟩,HF.out.trans dV,gQ⟩
 | ok x k' wK=>
  rintro e2 w1 ⟨v,rfl,hv,dF,gm⟩;obtain⟨bx,rfl,jJ⟩:=hv.shape;have nA:=(P.mono T n).oper _ _ _ _ _ _ _ hq;have jZ:=dF.kt;have pH:=gm.size;have aUv:=dF.d2.2.2;have xK:w1.ownsRow w0.heap.size 106 1 sl acc.length xs:=by
   obtain⟨g1,g2 | ⟨g,cp,cur,e1,e2,e3,e4⟩⟩:=HO.out
   .exact⟨g1,.inl g2⟩
   .exact⟨g1,.inr ⟨g,cp,cur,e1,e2,dc.lx gm ⟨zg,J⟩ e3 zo,e4⟩⟩
  have J2:eT (fun b=>Nu w0 w1 b/\sl.ownBlock≠O b) w1 xs acc:=
   eT.mono zg (by grind [dc.lx]) _ _ HX.out
  have vh:=a0A xK;have lZ:=a0A J2;have HV:=a0A hv;have kA:=a0A dF;have iA:=a0A (HF.out.trans gm);have HE:=a0A e;have Ad:=a0A jJ;have HK:=a0A nA;clear hv dF gm xK J2 e hq jJ
  go_wp2_with (at_builtin;go_must (refine Ry J _ _ 83 J w0.heap.size 106 i0 _ 1 8 underlying83 hi JZ J0 J1 J zo _ _ _ J (vh.out.alloc _) ⟨w1.heap.size,0,V⟩ 1 1 [pp bx] J J (OK J) (by simp [Value.oneCell']) (by grind [maxLen]) zo (by simp;omega) ?_;intro v' w2 sH yU AY;obtain⟨g',rC,rfl⟩:=Ma sH;have Gj:=a0A sH;have ui:=a0A yU;have Sb:=a0A AY;clear sH yU AY))
  have ff:SP w2 pb tb T k' wK d:=(kA.out.ext fun b o h=>dS (o:=a1d #[a1l (O ⟨bx,0,V⟩)] 106) h).OZ (vh.out.alloc _) zg zo ui.out;have fa:dc pb w0 w2:=(iA.out.alloc _).O0 ui.out fun k hk=>(vh.out.lt k hk).1;have jR:=ui.out.size;rw[size_alloc] at jR;have O4:∀ (b:Nat) (o:Obj),w1.heap[b]?=O o->sl.ownBlock≠O b->w2.heap[b]?=O o:=fun b o h eh=>by
   have h':=dS (o:=a1d #[a1l (O ⟨bx,0,V⟩)] 106) h;rw[ui.out.block b (bn h') (fun e=>eh e.symm)];omega
  have oZ:∀ b,b<w1.heap.size->sl.ownBlock≠O b->(Value.slice (O ⟨g',0,V⟩) (acc.length+1) rC).ownBlock≠O b:=fun b hb eh=>by
   rcases Sb.out with h | h
   .rw[h];exact eh
   grind [size_alloc]
  have hbn:∀ b,Nu w w1 b->sl.ownBlock≠O b:=fun b hb e=>by
   have:=(HO.out.lt b e).2;omega
  have akf:eT (fun b=>Nu w0 w2 b/\(Value.slice (O ⟨g',0,V⟩) (acc.length+1) rC).ownBlock≠O b) w2 (xs++[pp bx]) (acc++[x]):=
   eT.snoc (eR.mono zg zg _ _ HV.out)
    (eT.mono zg zg _ _ lZ.out)
  have iT:=a0A ff;have fQ:=a0A fa;have Sc:=a0A akf;clear ff fa O4 oZ hbn akf;have e:=HE.out;simp only[cg.bind] at e;by_cases hc:eD T k' [44]=A
  .rw[zip hc] at e;refine(vd iT.out [44] hc).mono ?_;rintro e2 w3 ⟨rfl,fZ,dV⟩;have uk:=a0A fZ;have og:=a0A dV;have Gk:=a0A e;clear fZ dV e hc
   go_wp2_with fail
   have ET:=og.out.size;have j3:=iT.out.d2.2.2;have Mv:w3.ownsRow w0.heap.size 106 1 (cU g' (acc.length+1) rC) (acc.length+1) (xs++[pp bx]):=by
    obtain⟨g1,g2 | ⟨g,cp,cur,e1,e2,e3,e4⟩⟩:=Gj.out
    .omega
    .exact⟨g1,.inr ⟨g,cp,cur,e1,e2,dc.lx og.out ⟨zg,J⟩ e3 zo,e4⟩⟩
   exact⟨n,Nat.lt_succ_self n,zo,acc++[x],k'+1,wK,_,_,_,_,_,_,_,_,_,_,_,_,_,_,_,_,_,_,J,zg,
    eT.mono zg (by grind [dc.lx,Hid.out]) _ _ Sc.out,
    uk.out,fQ.out.trans og.out,zg,Gk.out⟩
  .rw[bO hc] at e;refine(qs iT.out [44] zg zd).mono ?_;rintro e2 w3 ⟨rfl,rfl⟩;have Gk:=a0A e;clear e hc;have hl5:(acc++[x]).length=acc.length+1:=zs;have j3:=iT.out.d2.2.2;by_cases h4:acc.length+1<=4
   .go_wp2_with fail
    go_ret
    have e:=Gk.out;rw[bO (by grind [VG])] at e;simp only[a0z] at e;subst e;exact⟨_,J,⟨_,EO Gj.out fun b hb=>⟨(Gj.out.lt b hb).1,(Gj.out.lt b hb).2⟩,eT.mono zg zg _ _ Sc.out⟩,iT.out,fQ.out⟩
   .have h4':4<acc.length+1:=zo
    go_wp2_with fail
    refine(BV _ _ _ pb iT.out.sb).mono ?_;rintro e2 w4 ⟨⟨b,rfl,eQ,gH⟩,dV,gQ⟩;have e:=Gk.out;rw[zip (by grind [VG])] at e;simp only[a0z] at e;subst e;exact⟨J,⟨b,J,eQ,zo⟩,fQ.out.trans dV,gQ⟩
def aB2:OY 0:=⟨fun _ _ _ h=>by simp [nW] at h⟩
def aB3(a:∀ m,m<f->HH m):OY f:=⟨fun at_ b c h=>aB1 a at_ b c h⟩
