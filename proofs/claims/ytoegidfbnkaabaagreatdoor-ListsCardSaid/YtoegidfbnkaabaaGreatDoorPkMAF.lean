/- A part of one proof (SW2, SCon, SDoor, SBack, SOper, PureM, SArgs). -/
import Derived.Test.YtoegidfbnkaabaaGreatDoorPkMAE
import Derived.RangeFuncBox
import Derived.RangeFuncFrom
import Derived.RangeFuncLeaves
import Derived.Shelf.Abstract
import Derived.OwnWalkIn
import Derived.TacticsInMore
import Derived.LoopNIn
import Derived.LoopIn
set_option linter.all false
set_option maxRecDepth 100000
set_option maxHeartbeats 8000000
open Option renaming some → O, none → V
open Go renaming Value → Y, World → Z
open Bool renaming true → G, false → ae
open Go.Obj renaming cells → ah
open Go.Ending renaming returned → ai
open Go.Value renaming nilIface → aj, tuple → aq, pointer → au
open Option.some renaming injEq → a3I
open Go.Lib renaming hid → a3J
open Nat renaming le_trans → a3Q
open Go.Obj renaming cells → a4p
open Go.Value renaming pointer → a4x
open Go.Proofs.Tryz renaming prog → bdC
open Go.Proofs.Tryz
namespace Go.Proofs.YtoegidfbnkaabaaGreatDoor
open P
open Go.RowKit
variable{F:Nat->Prop}{T:List P.Tok}{av u v:Y}{b base bx c d j k n o pb tb:Nat}{cs:Array Y}{fn:Func}{vars:List P.Bs}{vs xs:List Y}{w w':Z}
def SP.sb(h:SP w pb tb T k vars d):SB w pb:=by
 obtain⟨cap,vv,_,_,h,_⟩:=h.yV;exact⟨_,_,_,h⟩
def SP.l0(h:SP w pb tb T k vars d) :
  ∃ n c:Nat,w.cell? ⟨pb,0,V⟩=O (.slice (O ⟨tb,k*3,V⟩) n c)/\0<n/\n<=100000/\((tk T k).kind≠0->1<n)/\n<=c/\c<=9223372036854775807:=by
 obtain⟨cap,vv,b,e,a,_⟩:=h.yV;refine⟨_,_,cellOf a J,?_,?_,?_,?_,?_⟩
 .have:=h.kt;omega
 .have:=h.tw.len;omega
 .intro hk;have:=h.tw.next h.kt hk;omega
 .omega
 omega
def Tv(hp:SP w pb tb T k vars d) :
  Calls bdC 48 #[pp pb] w fun e w'=>nD 2 (tk T k).pos w w' e/\db pb w w'/\SB w' pb:=by
 obtain⟨n,c,h0,l0,l1,-,-,-⟩:=hp.l0;obtain⟨-,-,t2⟩:=hp.toks.at hp.kt;have yX:=a3J hp.sb;clear hp
 go_enter func48,ntmps48
 go_wp2_with fail
 refine(Cr _ _ _ pb yX.out).mono ?_;rintro e w' ⟨⟨b,rfl,hb⟩,hf,hs⟩;exact⟨J,⟨b,J,hb⟩,hf,hs⟩
def Tw(hp:SP w pb tb T k vars d)(s:P.Bs)(h:ee T k s=G) :
  Calls bdC 51 #[pp pb,aW s] w fun e w'=>
   e = ai (aq #[])/\SP w' pb tb T (k+1) vars d/\db pb w w':=by
 have H:=a3J hp;have H2:=a3J h;clear hp h
 go_enter func51,ntmps51
 go_wp2_with fail
 refine(vA H.out s H2.out).mono ?_;rintro e w' ⟨rfl,h1,h2⟩;have H1:=a3J h1;have H2:=a3J h2;clear h1 h2
 go_wp2_with fail
 go_end0
 exact⟨J,H1.out,H2.out⟩
def Tx(hp:SP w pb tb T k vars d)(s:P.Bs)(h:ee T k s=ae)
  (hs:s.all P.digit=ae) :
  Calls bdC 51 #[pp pb,aW s] w fun e w'=>
   nD 2 (tk T k).pos w w' e/\db pb w w'/\SB w' pb:=by
 have H:=a3J hp;have H2:=a3J h;have H3:=a3J hs;clear hp h hs
 go_enter func51,ntmps51
 go_wp2_with fail
 refine(qK H.out s H2.out H3.out).mono ?_;rintro e w' ⟨rfl,rfl⟩
 go_wp2_with fail
 refine(Tv H.out).mono ?_;rintro e w' ⟨⟨b,rfl,hb⟩,hf,hs⟩;exact⟨J,⟨b,J,hb⟩,hf,hs⟩
def SP.d2(h:SP w pb tb T k vars d) :
  w.cell? ⟨pb,2,V⟩=O (zi d)/\w.frozen? ⟨pb,2,V⟩=ae/\pb<w.heap.size:=by
 obtain⟨cap,vv,b,c,a,_⟩:=h.yV;exact⟨cellOf a J,jV a 2,bn a⟩
abbrev Nt(w:Z)(pb:Nat)(d:Nat):Z:=
 (w.setCell ⟨pb,2,V⟩ (zi ((d:Int)+1))).alloc (ah #[pp pb] 139)
theorem SP.ext{w w':Z}{pb tb:Nat}{T:List P.Tok}{k:Nat}{vars:List P.Bs}{d:Nat}(h:SP w pb tb T k vars d)
  (hw:∀ (b:Nat) (o:Obj),w.heap[b]?=O o->w'.heap[b]?=O o):SP w' pb tb T k vars d:=by
 obtain⟨tw,lt,kt,nv,toks,cap,vv,a,c,e,g1,g2⟩:=h;obtain⟨ts,cs,t1,t2⟩:=toks;refine⟨tw,lt,kt,nv,⟨(by grind [AB.ext]),cs,hw _ _ t1,t2⟩,cap,vv,a,c,hw _ _ e,g1,?_⟩;rcases g2 with g | ⟨g,cp,cur,f,i,j,l⟩
 .grind
 .exact .inr ⟨g,cp,cur,f,i,hw _ _ j,l⟩
def SP.Nt{w:Z}{pb tb:Nat}{T:List P.Tok}{k:Nat}{vars:List P.Bs}{d:Nat}(h:SP w pb tb T k vars d):SP (Nt w pb d) pb tb T k vars (d+1):=by
 have a:SP (w.setCell ⟨pb,2,V⟩ (zi ((d:Int)+1))) pb tb T k vars (d+1):=by
  refine h.set h.kt (db.G1 (bD.refl _ _) _) (fun cp v2 hv=>?_) (by grind [blk_setCell_other]);rw[Bm hv];rfl
 exact a.ext (by grind [dT])
def alz(w:Z)(pb d:Nat):(Nt w pb d).heap.size=w.heap.size+1:=by rw[size_alloc,size_setCell]
def aDi(w:Z)(pb d:Nat):(Nt w pb d).heap[w.heap.size]?=aO #[pp pb] 139:=by
 grind [blk_alloc_new,size_setCell]
def alA(w:Z)(pb d:Nat):db pb w (Nt w pb d):=(db.G1 (bD.refl _ _) _).alloc _
def AE(hp:SP w pb tb T k vars d)(hd:d+1<=8) :
  Calls bdC 86 #[pp pb] w fun e w'=>
   e = ai (.func (.func 116) #[] #[pp w.heap.size])/\w'.heap.size=w.heap.size+1 /\
   w'.heap[w.heap.size]?=aO #[pp pb] 139/\SP w' pb tb T k vars (d+1)/\db pb w w':=by
 obtain⟨h2,f2,hb⟩:=hp.d2;have H:=a3J hp;clear hp
 go_enter func86,ntmps86
 go_wp2_with fail
 go_ret
 exact⟨J,alz w pb d,aDi w pb d,H.out.Nt,alA w pb d⟩
def XE(hp:SP w pb tb T k vars d)(hd:8<d+1)(xV:d<=100) :
  Calls bdC 86 #[pp pb] w fun e w'=>nD 4 (tk T k).pos w w' e/\db pb w w'/\SB w' pb:=by
 obtain⟨h2,f2,hb⟩:=hp.d2;have ef:¬ tb=pb:=by have:=hp.lt;omega
 have Tz:¬ pb=tb:=zo;have tY:tb<w.heap.size:=by have:=hp.lt;omega
 have fi:=a3J hp.Nt;have eY:=a3J (alA w pb d);obtain⟨n,c,h0,l0,l1,-,-,-⟩:=hp.l0;obtain⟨-,-,t2⟩:=hp.toks.at hp.kt;clear hp
 go_enter func86,ntmps86
 go_wp2_with fail
 refine(Cr _ _ _ pb fi.out.sb).mono ?_;rintro e w' ⟨⟨b,rfl,hb,hl⟩,hf,hs⟩;exact⟨J,⟨b,J,hb,a3Q (a3Q (Nat.le_succ _) (Nat.le_of_eq (alz w pb d).symm)) hl⟩,eY.out.trans hf,hs⟩
abbrev acY(w:Z)(pb:Nat)(d:Int):Z:=w.setCell ⟨pb,2,V⟩ (zi d)
def aDj(hp:SP w pb tb T k vars (d+1))
  (hx:w.heap[bx]?=aO #[pp pb] 139) (hd:d<=100) (u:FrameMode) :
  CallsD bdC 116 #[pp bx] u w fun e u' w'=>u'=u/\(e = ai (aq #[])/\SP w' pb tb T k vars d/\db pb w w'/\w'.heap.size=w.heap.size):=by
 obtain⟨h2,f2,hb⟩:=hp.d2;have pG:w.cell? ⟨bx,0,V⟩=_:=cellOf hx J;have e1:((d+1:Nat):Int)=(d:Int)+1:=rfl;rw[e1] at h2;have lp:SP (acY w pb d) pb tb T k vars d:=by
  refine hp.set hp.kt (db.G1 (bD.refl _ _) _) (fun cp v2 hv=>?_) (by grind [blk_setCell_other]);rw[Bm hv];rfl
 have tX:db pb w (acY w pb d):=db.G1 (bD.refl _ _) _;have jC:(acY w pb d).heap.size=w.heap.size:=size_setCell _ _ _;have H1:=a3J lp;have H2:=a3J tX;have H3:=a3J jC;clear lp tX jC hp e1 hx;have e2:((d:Int)+1-1)=d:=zo
 go_enter_d func116,ntmps116
 go_wp2_with fail
 go_end0
 exact⟨J,H1.out,H2.out,H3.out⟩
def aDk(hp:SB w pb)
  (hx:w.heap[bx]?=aO #[pp pb] 139) (u:FrameMode) :
  CallsD bdC 116 #[pp bx] u w fun e u' w'=>u'=u/\(e = ai (aq #[])/\SB w' pb/\db pb w w'/\w'.heap.size=w.heap.size/\∀ b,b≠pb->w'.heap[b]?=w.heap[b]?):=by
 obtain⟨lv,vv,d,h⟩:=hp;have h2:w.cell? ⟨pb,2,V⟩=_:=cellOf h J;have f2:=jV h 2;have pG:w.cell? ⟨bx,0,V⟩=_:=cellOf hx J;have lp:∀ x,SB (w.setCell ⟨pb,2,V⟩ (zi x)) pb:=fun x=>⟨lv,vv,x,by rw[Bm h];rfl⟩;have tX:∀ x,db pb w (w.setCell ⟨pb,2,V⟩ (zi x)):=(by grind [db.G1,bD.refl]);have H1:=a3J lp;have H2:=a3J tX;clear lp tX hx h
 go_enter_d func116,ntmps116
 go_wp2_with fail
 go_end0
 exact⟨J,H1.out _,H2.out _,size_setCell _ _ _,(by grind [blk_setCell_other])⟩
def lV(F:Nat->Prop)(w:Z)(v:Y)(l:List Ex):Prop:=∃ vs,fO F w 106 v vs/\eS F w vs l
def KE(F:Nat->Prop)(w:Z)(v:Y)(l:List Bd):Prop:=∃ vs,fO F w 84 v vs/\gD F w vs l
structure TA(f:Nat):Prop where
 go:∀ {pb tb:Nat} {T:List P.Tok} {k:Nat} {vars:List P.Bs} {d:Nat} {w:Z} {r:cr Ex},SP w pb tb T k vars d->d<=8 ->
  oU T f k vars d=O r->Calls bdC 117 #[pp pb] w (j6 eQ pb tb T d w r)
structure Qj(f:Nat):Prop where
 go:∀ {pb tb:Nat} {T:List P.Tok} {k:Nat} {vars:List P.Bs} {d:Nat} {w:Z} {r:cr (List Ex)} (at_:Nat),SP w pb tb T k vars d->d<=8 ->
  oV T f k vars d at_ []=O r->Calls bdC 50 #[pp pb,zi at_] w (j6 lV pb tb T d w r)
structure TB(f:Nat):Prop where
 go:∀ {pb tb:Nat} {T:List P.Tok} {k:Nat} {vars:List P.Bs} {d:Nat} {w:Z} {r:cr Ex},SP w pb tb T k vars d->d<=8 ->
  qD T f k vars d=O r->Calls bdC 142 #[pp pb] w (j6 eQ pb tb T d w r)
structure Nv(f:Nat):Prop where
 go:∀ {pb tb:Nat} {T:List P.Tok} {k:Nat} {vars:List P.Bs} {d:Nat} {w:Z} {r:cr Ex} (lvl:Nat),lvl<=2->SP w pb tb T k vars d->d<=8 ->
  jf T f lvl k vars d=O r->Calls bdC 91 #[pp pb,zi lvl] w (j6 eQ pb tb T d w r)
structure IS(f:Nat):Prop where
 go:∀ {pb tb:Nat} {T:List P.Tok} {k:Nat} {vars:List P.Bs} {d:Nat} {w:Z} {r:cr Ex},SP w pb tb T k vars d->d<=8 ->
  jf T f 0 k vars d=O r->Calls bdC 60 #[pp pb] w (j6 eQ pb tb T d w r)
structure acZ:Prop where
 go:∀ {pb tb:Nat} {T:List P.Tok} {k:Nat} {vars:List P.Bs} {d:Nat} {w:Z} (t:P.Tok),SP w pb tb T k vars d->t.text≠[] ->
  Calls bdC 141 #[pp pb,.agg #[zi t.kind,aW t.text,zi t.pos]] w (j6 eQ pb tb T d w (Aq t k vars))
structure XF:Prop where
 go:∀ {w:Z} (s:P.Bs),s≠[]->s.all P.digit=G->s.length<=9 ->
  Calls bdC 135 #[aW s,zi 10,zi 64] w fun e w'=>e = ai (aq #[zi (P.num s),aj])/\Ext w w'
abbrev G2(w:Z)(pb tb k n c:Nat):Z:=w.setCell ⟨pb,0,V⟩ (.slice (O ⟨tb,k*3+3,V⟩) (n-1) (c-1))
def SP.on(h:SP w pb tb T k vars d)(hk:(tk T k).kind≠0) :
  ∃ n c:Nat,w.cell? ⟨pb,0,V⟩=O (.slice (O ⟨tb,k*3,V⟩) n c)/\w.frozen? ⟨pb,0,V⟩=ae/\pb<w.heap.size/\1<n/\n<=100000/\n<=c/\c<=9223372036854775807 /\
   SP (G2 w pb tb k n c) pb tb T (k+1) vars d/\db pb w (G2 w pb tb k n c):=by
 obtain⟨tw,lt,kt,nv,toks,cap,vv,e,f,a,g1,g2⟩:=h;have i:=tw.next kt hk
 have o:=tw.len;have b:db pb w (G2 w pb tb k (T.length-k) (cap-k)):=db.G1 (bD.refl _ _) _;refine⟨T.length-k,cap-k,cellOf a J,jV a 0,bn a,zo,zo,zo,zo,?_,b⟩;refine⟨tw,lt,i,nv,b.toks lt toks,cap,vv,e,f,?_,g1,?_⟩
 .rw[Bm a];grind
 .rcases g2 with g | ⟨g,cp,cur,j,l,p,m⟩
  .grind
  .refine .inr ⟨g,cp,cur,j,l,?_,m⟩;grind [blk_setCell_other]
def XG{α:Type}(I:(Nat->Prop)->Z->Y->α->Prop):Prop:=
 ∀ (F F':Nat->Prop) (pb:Nat) (w w':Z) (v:Y) (x:α),I F w v x->db pb w w'->(∀ b,F b->b≠pb/\F' b)->I F' w' v x
def KF:XG eQ:=fun F F' pb w w' v x h a b=>(by grind [eQ.mono,db.lL])
def G3:XG dL:=fun F F' pb w w' v x h a b=>(by grind [dL.mono,db.lL])
def aDl:XG lV:=fun F F' pb w w' v x h a e=>by
 obtain⟨vs,c,f⟩:=h;exact⟨vs,c.mono zg fun b cs g d=>a.lL ⟨zg,J⟩ d zg,
  (by grind [eS.mono,db.lL])⟩
abbrev TC(bx:Nat):Deferred:={ target:=.fn (.func 116) #[pp bx],args:=#[] }
def alB(bx:Nat)(w:Z):(invoke (TC bx).target (TC bx).args).run bdC w = .ok (.enter 116 #[pp bx]) w:=by
 simp [go_sem]
def yY{α:Type}{I:(Nat->Prop)->Z->Y->α->Prop}(c:XG I){vs:List P.Bs}{a:Z}
 {tmps:Array Y} {x:α} (f:fn.results=#[.tmp j])
  (m:pb<w.heap.size) (g:SP a pb tb T k vs (d+1)) (n:d<=8)
  (hx:a.heap[bx]?=aO #[pp pb] 139) (hv:I (Nu w a) a (tmps.getD j undef) x) (h:db pb w a) :
  bodyPostD bdC fn (j6 I pb tb T d w (.ok x k vs)) .ret { tmps:=tmps,defers:=[TC bx] } a:=by
 refine leaves_cons zs (alB bx a) ((aDj g hx zo _).mono ?_);rintro e u w' ⟨rfl,rfl,i,b,l⟩;refine⟨_,(by grind [results_tmp]),_,J,c _ _ _ _ _ _ _ hv b ?_,i,h.trans b⟩;omega
def tZ{α:Type}{I:(Nat->Prop)->Z->Y->α->Prop}{f:Z}{a:Nat}
 {tmps:Array Y} {chain:List PanicEntry} (m:pb<w.heap.size) (h:SB f pb)
  (hx:f.heap[bx]?=aO #[pp pb] 139) (hv:nD c a w f (.panicked chain)) (i:db pb w f) :
  bodyPostD bdC fn (j6 I pb tb T d w (.err c a)) (.panic chain) { tmps:=tmps,defers:=[TC bx] } f:=by
 obtain⟨b,j,n,k⟩:=hv;cases j;refine leaves_cons zs (alB bx f) ((aDk h hx _).mono ?_);rintro e u w' ⟨rfl,rfl,g,l,o,p⟩;exact⟨⟨b,J,zg,k⟩,i.trans l,g⟩
def KG{name:P.Bs}{n:Int}(a:F b)
  (h:w.heap[b]?=aO #[.int .u8 pb,aW name,zi n,zi k,bW] 178) :
  eQ F w (pp b) (.mk pb name n k []):=by
 unfold eQ;exact⟨b,_,[],J,a,h,.inl ⟨J,J⟩,by unfold eS;rfl⟩
theorem Fx{o:Obj}(h:n=w.heap.size):(w.alloc o).heap[n]?=O o:=by grind [blk_alloc_new]
theorem SP.setOther{x:Nat}{t:TypeId}{z:Nat×Nat}(h:SP w pb tb T k vars d)
  (hx:w.heap[x]?=O (ah cs t z)) (ht:t≠9) (i:x≠pb) (j:tb<x) (v:Y):SP (w.setCell ⟨x,o,V⟩ v) pb tb T k vars d:=by
 obtain⟨tw,lt,kt,nv,⟨l,ts,t1,t2⟩,cap,vv,a,b,m,g1,g2⟩:=h;refine⟨tw,lt,kt,nv,⟨(by grind [blk_setCell_other,AB.ext]),ts,by grind [blk_setCell_other],t2⟩,cap,vv,a,b,
  by grind [blk_setCell_other],g1,?_⟩
 rcases g2 with g | ⟨g,cp,cur,c,e,n,f⟩
 .grind
 .refine .inr ⟨g,cp,cur,c,e,?_,f⟩;rw[blk_setCell_other]<;>grind
theorem lV.mono{F F':Nat->Prop}{w w':Z}{v:Y}{l:List Ex}(a:∀ b,F b->F' b)(hw:∀ b o,F b->D0 o->w.heap[b]?=O o->w'.heap[b]?=O o)
  (h:lV F w v l):lV F' w' v l:=by
 obtain⟨vs,c,f⟩:=h;exact⟨vs,c.mono a fun b cs d e=>hw b _ d ⟨zg,J⟩ e,(by grind [eS.mono])⟩
def lV.set{l:List Ex}{x:Nat}(h:lV F w v l)(hx:∀ b,F b->b≠x)(u:Y):lV F (w.setCell ⟨x,o,V⟩ u) v l:=
 h.mono zg (by grind [blk_setCell_other])
theorem ac0{name:P.Bs}{n:Int}{l:List Ex}(c:F b)
  (h:w.heap[b]?=aO #[.int .u8 pb,aW name,zi n,zi k,av] 178) (a:lV F w av l) :
  eQ F w (pp b) (.mk pb name n k l):=by
 obtain⟨vs,d,e⟩:=a;unfold eQ;grind
theorem fO.shape{d:TypeId}(h:fO F w d v vs):∃ a n c,v = .slice a n c/\n=vs.length/\n<=c/\(a=V->n=0):=by
 rcases h with⟨rfl,rfl⟩| ⟨b,cs,rfl,_,_,h,_⟩<;>grind
def eS.length{F:Nat->Prop}{w:Z}:∀ {l:List Ex} {vs:List Y},eS F w vs l->vs.length=l.length
 | [],vs,h=>by unfold eS at h;rw[h];rfl
 | x::xs,vs,h=>by
  unfold eS at h;obtain⟨v,r,rfl,_,a⟩:=h;simp [eS.length a]
theorem lV.shape{F:Nat->Prop}{w:Z}{v:Y}{l:List Ex}(h:lV F w v l):∃ a n c,v = .slice a n c/\n=l.length/\n<=c:=by
 obtain⟨vs,b,d⟩:=h;obtain⟨a,n,c,rfl,e,f,_⟩:=b.shape;exact⟨a,n,c,J,by rw[e,d.length],f⟩
theorem ac1{x y:Ex}(a:F b)(h:w.heap[b]?=aO #[u,v] 106)(hx:eQ F w u x)(c:eQ F w v y) :
  lV F w (cS b 2 2) [x,y]:=by
 refine⟨[u,v],.inr ⟨b,#[u,v],J,a,h,Nat.le_refl _,J⟩,?_⟩;unfold eS;refine⟨u,[v],J,hx,?_⟩;unfold eS;refine⟨v,[],J,c,?_⟩;unfold eS;rfl
theorem SP.other{x:Nat}{t:TypeId}{z:Nat×Nat}(h:SP w pb tb T k vars d)
  (hx:w.heap[x]?=O (ah cs t z)) (ht:t≠9) (l:x≠pb) (m:tb<x) (hw:∀ (b:Nat) (o:Obj),b≠x->w.heap[b]?=O o->w'.heap[b]?=O o):SP w' pb tb T k vars d:=by
 obtain⟨tw,lt,kt,nv,⟨n,ts,t1,t2⟩,cap,vv,a,c,p,g1,g2⟩:=h;refine⟨tw,lt,kt,nv,⟨(by grind [AB.ext]),ts,zg,t2⟩,cap,vv,a,c,zg,g1,?_⟩;rcases g2 with g | ⟨g,cp,cur,e,f,i,j⟩
 .grind
 .refine .inr ⟨g,cp,cur,e,f,hw _ _ ?_ i,j⟩;grind
def SP.Qk{t:TypeId}(h:SP w pb tb T k vars d)
  (c:w.ownsRow base t 1 v n xs) (ht:t≠9) (l:pb<base) (f:w.grownBy w' v.ownBlock):SP w' pb tb T k vars d:=by
 have hlt:=h.lt;rcases c.2 with⟨rfl,_⟩| ⟨g,cap,cur,rfl,m,i,_⟩
 .exact h.ext (by grind [bn,Value.ownBlock,World.grownBy.block])
 .exact h.other i ht zo zo fun b o j a=>by rw[f.block b (bn a) (by simp only[Value.ownBlock];intro e;injection e with e;exact j e)];exact a
theorem bD.Ql{M:Nat->Obj->Prop}{a b c:Z}{row:Option Nat}(h:bD M a b)(d:b.grownBy c row)(hr:∀ k,row=O k->a.heap.size<=k):bD M a c:=
 ⟨d.os.trans h.os,d.tape.trans h.tape,d.output.trans h.output,a3Q h.size d.size,fun i o hi hm=>by
  have f:=h.block i o hi hm;rw[d.block i (bn f) (fun e=>by have:=hr i e.symm;have:=bn hi;omega)];exact f⟩
theorem Fy{t:TypeId}(h:w.ownsRow base t 1 v n xs)(a:∀ b,v.ownBlock=O b->F b):fO F w t v xs:=by
 obtain⟨j,⟨rfl,c⟩| ⟨g,cap,cur,rfl,c,d,e,k,l,m⟩⟩:=h
 .exact .inl zg
 .have f:xs.length=n:=zo;have i:cur.size=cap:=zo;subst f;subst i;exact .inr ⟨g,cur,J,a g J,d,e,zg⟩
def eS.snoc{F:Nat->Prop}{w:Z}{v:Y}{x:Ex}(hv:eQ F w v x):∀ {l:List Ex} {vs:List Y},eS F w vs l->eS F w (vs++[v]) (l++[x])
 | [],vs,h=>by
  unfold eS at h;subst h;simp only[List.nil_append];unfold eS;exact⟨v,[],J,hv,by unfold eS;rfl⟩
 | y::l,vs,h=>by
  unfold eS at h;obtain⟨u,r,rfl,a,b⟩:=h;simp only[List.cons_append];unfold eS;exact⟨u,r++[v],J,a,eS.snoc hv b⟩
def alE:(Tryz.prog.info? 106).map (fun i=>(i.zero,i.size,i.bytes))=O (O (au V),1,8):=zk
def alF{a:Addr}(h:w.cell? a=O v)(hw:∀ cs t z,w.heap[a.block]?=O (ah cs t z)->w'.heap[a.block]?=O (ah cs t z)):w'.cell? a=O v:=by
 grind [World.cell?,World.cell?_of_block]
def SP.aDm(h:SP w pb tb T k vars d)
  (hw:∀ (b:Nat) (cs:Array Y) (t:TypeId) (z:Nat×Nat),w.heap[b]?=O (ah cs t z)->w'.heap[b]?=O (ah cs t z)):SP w' pb tb T k vars d:=by
 obtain⟨tw,lt,kt,nv,toks,cap,vv,i,m,r,g1,g2⟩:=h;obtain⟨ts,cs,t1,t2⟩:=toks;refine⟨tw,lt,kt,nv,⟨⟨ts.lt,fun l n=>?_⟩,cs,zg,t2⟩,cap,vv,i,m,zg,g1,?_⟩
 .obtain⟨b,o,c,a,e,f⟩:=ts.G0 l n;exact⟨b,o,c,a,alF e (hw _),fun j p=>alF (f j p) (hw _)⟩
 .rcases g2 with g | ⟨g,cp,cur,a,e,f,q⟩
  .grind
  .exact .inr ⟨g,cp,cur,a,e,zg,q⟩
def aDn{o:Obj}(h:D0 o):∃ cs t z,o = ah cs t z:=by
 cases o with
 | cells cs t z=>grind
 | _=>exact h.elim
def eS.blocks{F:Nat->Prop}{w:Z}:∀ {l:List Ex} {vs:List Y},eS F w vs l->∃ bl:List Nat,vs=bl.map (fun b=>a4x (O ⟨b,0,V⟩))/\bl.length=l.length
 | [],vs,h=>by unfold eS at h;exact⟨[],zg,J⟩
 | x::l,vs,h=>by
  unfold eS at h;obtain⟨u,r,rfl,a,c⟩:=h;obtain⟨bl,rfl,e⟩:=eS.blocks c;cases x with
  | mk kind name n k args=>
   unfold eQ at a;obtain⟨b,_,_,rfl,_⟩:=a;exact⟨b::bl,J,zg⟩
theorem eS.get{F:Nat->Prop}{w:Z}:∀ {l:List Ex} {bl:List Nat},eS F w (bl.map (fun b=>a4x (O ⟨b,0,V⟩))) l->∀ i (hi:i<l.length),eQ F w (pp (bl.getD i 0)) l[i]
 | [],bl,h,i,hi=>zg
 | x::l,bl,h,i,hi=>by
  unfold eS at h;obtain⟨u,r,e,c,a⟩:=h;cases bl with
  | nil=>grind
  | cons b bl=>
   simp only[List.map_cons,List.cons.injEq] at e;obtain⟨rfl,rfl⟩:=e;cases i with
   | zero=>grind
   | succ i=>simpa using eS.get a i zg
open Go.Shelf
attribute [local go_sem] Oper.semAt_some
def KH(X:Nat)(W a:Z):Prop:=∀ (b:Nat) (cs:Array Y) (t:TypeId) (z:Nat×Nat),b≠X->W.heap[b]?=O (ah cs t z)->a.heap[b]?=O (ah cs t z)
theorem KH.trans{X:Nat}{A B C:Z}(h:KH X A B)(k:KH X B C):KH X A C:=fun b cs t z a c=>k b cs t z a (h b cs t z a c)
def IU(bl:List Nat)(k:Nat):List (Nat×Nat):=(List.range k).map fun j=>(bl.length-1-j,bl.getD (bl.length-1-j) 0)
def alG(bl:List Nat)(k:Nat):IU bl (k+1)=IU bl k++[(bl.length-1-k,bl.getD (bl.length-1-k) 0)]:=by simp [IU,List.range_succ]
def XH(bl:List Nat)(k:Nat):(IU bl k).length=k:=by simp [IU]
abbrev alH(x:Nat×Nat):Array Y:=#[zi x.1,pp x.2]
def aDo(F:Fence)(n:Nat)(h8:F.fn 175)(Ng:F.round=V)(hn:1<=n)(l Bs g cap X:Nat)(bl:List Nat)(Ny:Bs≠X)(hX2:g≠X)(hlen:bl.length<=100000)
  (a Jx:List (Nat×Nat)->Z->Prop)
  (hY:∀ pre x W,a pre W->pre.length<bl.length->YieldAt F (n-1) bdC l (alH x) W fun e W'=>
   (e = ai (.bool G)/\a (pre++[x]) W'/\KH X W W')\/(e = ai (.bool ae)/\Jx (pre++[x]) W'))
  (W:Z) (Qm:W.heap[Bs]?=aO #[cS g bl.length cap] 83) (cur:Array Y) (hg:W.heap[g]?=aO cur 106)
  (hc:∀ j,j<bl.length->cur[j]?=O (pp (bl.getD j 0))) (h0:a [] W) :
  CallsIn F n bdC 175 #[.func (.yield l) #[] #[],pp Bs] W fun e W'=>(∃ v,e = ai v) /\
   ((∃ ys,ys=IU bl bl.length/\a ys W')\/(∃ pre,True/\Jx pre W')):=by
 have HC:=a3J hc;have HG:=a3J hg;have HB:=a3J Qm;have HY:=a3J hY;have hBc:W.cell? ⟨Bs,0,V⟩=O (cS g bl.length cap):=cellOf Qm J;obtain⟨len,hl⟩:=cj bl.length;rw[<- hl] at hlen hBc;have HL:=a3J hl;clear hl hc hg Qm hY;refine callsIn_of_wp func175 J h8 ?_ Ng;simp only[ntmps175,List.size_toArray,List.length_cons,List.length_nil,Nat.reduceAdd,Nat.reduceSub,Array.replicate_succ,Array.replicate_zero,List.push_toArray,List.append_toArray,List.nil_append,List.cons_append]
 gi_wp2
 gi_loopw [3] (fun i wr=>∃ k:Nat,k<=len/\i=zi ((len:Int)-1-k)/\a (IU bl k) wr/\KH X W wr)
  (fun i _=>(intOf i+1).toNat)
 case atStart=>exact⟨0,Nat.zero_le _,zs,h0,fun _ _ _ _ _ h=>h⟩
 case round=>
  obtain⟨k,hk,rfl,hJs,hnx⟩:=hrel;have HJ:=a3J hJs;have HN:=a3J hnx;have aWO:wr.cell? ⟨Bs,0,V⟩=O (cS g len cap):=by rw[HL.out];exact cellOf (HN.out _ _ _ _ Ny HB.out) J
  clear hJs hnx hBc;by_cases hlt:k<len
  .obtain⟨i,hi⟩:∃ i:Nat,i=len-1-k:=⟨_,J⟩;have hii:((len:Int)-1-k)=(i:Int):=zo;rw[hii];have hcx:wr.cell? ⟨g,i,V⟩=O (pp (bl.getD i 0)):=cellOf (HN.out _ _ _ _ hX2 HG.out) (by grind [Hid.out]);obtain⟨fn,tmps,assign,body,hy,hR⟩:=HY.out _ (i,bl.getD i 0) wr HJ.out (by rw[XH,<- HL.out];exact hlt);have mw:i<len:=zo;have hy2:(Instr.yield l #[zi (i:Int),pp (bl.getD i 0)]).run bdC wr = .ok (.round l fn tmps assign body) wr:=hy;clear hy;have HI:=a3J hi;have HII:=a3J hii;obtain⟨bb,xd⟩:=cj (bl.getD i 0);rw[<- xd] at hcx hy2;have HBB:=a3J xd;clear hi hii xd
   gi_wp2
   refine hR.mono ?_;rintro e W3 (⟨rfl,hJ3,rq⟩| ⟨rfl,aDs⟩)
   .gi_wp2
    go_roundw
    case rel=>
     refine⟨k+1,zo,?_,?_,HN.out.trans rq⟩
     .have:=HI.out;congr 1;omega
     .have:=HL.out;have e:=HI.out;rw[alG,<- this,<- e];exact hJ3
    case measure=>simp [intOf]
   .gi_wp2
    refine bodyPost_ret (results_none J _ _ _) J ?_;exact⟨⟨_,J⟩,.inr ⟨_,trivial,aDs⟩⟩
  .obtain rfl:k=len:=zo
   gi_wp2
   go_end0
   exact⟨⟨_,J⟩,.inl ⟨_,J,by rw[<- HL.out];exact HJ.out⟩⟩
def backward(a:Option Addr)(n c:Nat)(w:Z) :
  Calls bdC 162 #[.slice a n c] w fun e w'=>e = ai (.func (.func 175) #[] #[pp w.heap.size])/\w.alloc (ah #[.slice a n c] 83)=w':=by
 have hmf:∀ (fn:Fn) (first cap:Array Y) (w:Z),(Instr.makeFunc fn first cap).run bdC w = .ok (.func fn first cap) w:=fun _ _ _ _=>rfl
 go_enter func162,ntmps162
 go_wp2
 go_ret
 exact⟨J,J⟩
def aDt(F:Fence)(n:Nat)(f:F.fn 175)(h:F.round=V)(i:1<=n)(Bs g cap X:Nat)(bl:List Nat)(k:Bs≠X)(b:g≠X)(hlen:bl.length<=100000)(w:Z)
  (c:w.heap[Bs]?=aO #[cS g bl.length cap] 83) (cur:Array Y) (d:w.heap[g]?=aO cur 106)
  (m:∀ j,j<bl.length->cur[j]?=O (pp (bl.getD j 0))) :
  SeqStopsK F n bdC 175 #[pp Bs] alH (KH X) (fun o=>o=IU bl bl.length) (fun _=>True) bl.length w:=fun l a p W e _ _ q r=>
 aDo F n f h i l Bs g cap X bl k b hlen a p q W (by rw[e.block Bs (bn c)];exact c) cur (by rw[e.block g (bn d)];exact d) m r
end Go.Proofs.YtoegidfbnkaabaaGreatDoor
namespace Go.Proofs.YtoegidfbnkaabaaGreatDoor
open P
open Go.RowKit
variable{F:Nat->Prop}{T:List P.Tok}{d f k k' pb so tb:Nat}{v:Y}{vars:List P.Bs}{w w0:Z}
def aDu(ac6:TA f){r:cr Ex}(hp:SP w pb tb T k vars d)(hd:d<=8)
  (h:oU T f k vars d=O r):Calls bdC 91 #[pp pb,zi 2] w (j6 eQ pb tb T d w r):=by
 have H:=a3J hp;have HR:=a3J h;clear hp h
 go_enter func91,ntmps91
 go_wp2_with fail
 refine wp_scope_straight ?_
 go_wp2_with fail
 refine(ac6.go H.out hd HR.out).mono ?_;cases r with
 | err c0 a0=>
  rintro e w4 ⟨⟨b,rfl,eO,gF⟩,dV,gO⟩;exact⟨J,⟨b,J,eO,gF⟩,dV,gO⟩
 | ok x k' vs=>
  rintro e w4 ⟨v,rfl,hv,j7,eA⟩;have HV:=a3J hv;have ud:=a3J j7;have ue:=a3J eA;clear hv j7 eA
  go_wp2_with fail
  rw[Exit.noGoto_ret]
  go_ret
  exact⟨v,J,HV.out,ud.out,ue.out⟩
theorem eQ.shape{x:Ex}(h:eQ F w v x):∃ b,v=pp b/\F b:=by
 cases x with
 | mk kind name n k args=>
  unfold eQ at h;obtain⟨b,_,_,a,c,_⟩:=h;exact⟨b,a,c⟩
noncomputable def aDv:Code:=match findLabel (match Tryz.f91.body with | some (.seq _ (.scope c))=>c | _=>.skip) 0 with | some (.seq _ x)=>x | _=>.skip
def OJ(pb tb:Nat)(T:List P.Tok)(lvl d:Nat)(w0:Z)(r:cr Ex)(n:Nat)(a:Act)(w:Z):Prop:=
 ∃ (x:Ex) (k:Nat) (vs:List P.Bs) (v b c e f g u8 h i j l m o p u16 q s t u y z A B C D E F H I K u32 L M N Q R:Y),a={ tmps:=#[pp pb,zi lvl,b,c,e,v,f,g,u8,h,i,j,l,m,o,p,u16,q,s,t,u,y,z,A,B,C,D,E,F,H,I,K,u32,L,M,N,Q,R],defers:=[] } /\
  eQ (Nu w0 w) w v x/\SP w pb tb T k vs d/\db pb w0 w/\pE T n lvl x k vs d=O r
def aDw(hl:so<2)(xO:∀ m,m<=f->Nv m){r:cr Ex}(hd:d<=8)(xY:pb<w0.heap.size)(n:Nat)(hn:n<=f)(a:Act)(w:Z)(hj:OJ pb tb T so d w0 r n a w) :
  aDv.wp bdC (Exit.jump 0 (fun a' w'=>∃ m,m<n/\OJ pb tb T so d w0 r m a' w') (bodyPost bdC Tryz.f91 (j6 eQ pb tb T d w0 r))) a w:=by
 obtain⟨x,k,vs,v,u2,u3,u4,u6,u7,u8,u9,y3,y5,y6,xe,xf,y7,u16,y8,y9,Cv,Cw,Cx,Cy,Cz,CB,CC,CD,CE,D8,D9,Ea,IV,u32,IW,Bw,FA,G4,G5,rfl,hx,hp,hf,hr⟩:=hj;obtain⟨bx,rfl,jM⟩:=hx.shape;cases n with
 | zero=>grind [pE]
 | succ n=>
 have iL:=hr;rw[pE] at iL;obtain⟨lb,lo,lc,XL,g1,g2⟩:=hp.toks.1.G0 so hl;obtain⟨L,hL⟩:=cj ((P.ops so).length);rw[<- hL] at g1 g2;have hL3:L<=3:=by
  grind [P.ops]
 have gl:=hp.toks.1.lt;have glt:=hp.lt;have gpb:=hp.d2.2.2;have HP:=a3J hp;have HX:=a3J hx;have HF:=a3J hf;have HR:=a3J iL;have HG:=a3J g2;have HL:=a3J hL;have AH:=a3J jM;have gsz:lb<w.heap.size:=zo;have aWV:2<w.heap.size:=zo;clear hp hx hf hr iL g2 hL jM;change Code.wp _ (Code.seq _ _) _ _ _;have aWW:(so:Int)<2:=zo
 go_wp2_with fail
 go_loop [5,20] (fun q i=>∃ j:Nat,j<=L/\i=zi j/\q=pp bx/\∀ j',j'<j->ee T k ((P.ops so).getD j' [])=ae) (fun _ i=>L-(intOf i).toNat)
 case atStart=>grind
 case round=>
  obtain⟨j,hj,rfl,rfl,mn⟩:=hrel;have FB:=a3J mn;clear mn;by_cases hlt:j<L
  .have nE:=HG.out j hlt;obtain⟨s,hs⟩:=cj ((P.ops so).getD j []);rw[<- hs] at nE;have Nz:s.all P.digit=false:=by
    have hL:=HL.out;rw[hs];have h2:so=0\/so=1:=zo;rcases h2 with rfl | rfl
    .have:j=0\/j=1:=by grind [P.ops]
     rcases this with rfl | rfl<;>decide
    .have:j=0\/j=1\/j=2:=zo;rcases this with rfl | rfl | rfl<;>decide
   have HS:=a3J hs;have HSD:=a3J Nz;clear hs Nz;by_cases hc:ee T k s=G
   .have HC:=a3J hc;clear hc
    go_wp2_with fail
    refine(vA HP.out s HC.out).mono ?_;rintro e w1 ⟨rfl,dC,gn⟩;have kH:=a3J dC;have iz:=a3J gn;clear dC gn
    go_wp2_with fail
    have e:=HR.out;have hl:=HL.out;rw[P0,abo (j:=j) zo (by rw[<- HS.out];exact HC.out) FB.out,<- HS.out] at e;dsimp only at e;have aDx:=iz.out.size;cases hq:jf T n (so+1) (k+1) vs d with
    | none=>rw[hq] at e;simp [cr.bind] at e
    | some q=>
     rw[hq] at e;refine((xO n zo).go (so+1) zo kH.out hd hq).mono ?_;cases q with
     | err c0 a0=>
      rintro e2 w4 ⟨⟨b,rfl,eO,gF⟩,dV,gO⟩;simp only[cr.bind,a3I] at e;subst e;have XM:=HF.out.size;exact⟨J,⟨b,J,eO,zo⟩,(HF.out.trans iz.out).trans dV,gO⟩
     | ok y k' xg=>
      rintro e2 w4 ⟨v,rfl,hv,j7,eA⟩;obtain⟨bY,rfl,hbY⟩:=hv.shape;have HV:=a3J hv;have ud:=a3J j7;have ue:=a3J eA;have HE:=a3J e;have HBY:=a3J hbY;clear hv j7 eA e hbY hl hq
      go_wp2_with fail
      refine wp_goto ?_;have oZ:=iz.out.size;have Bx:=ue.out.size;have jM:=AH.out;have aDz:=iz.out.trans ue.out;have xU:eQ (Nu w0 (((w4.alloc (a4p #[pp bx,pp bY] 106)).alloc (a4p #[.int .u8 99,aW s,zi 0,zi 0,cS w4.heap.size 2 2] 178)))) (((w4.alloc (a4p #[pp bx,pp bY] 106)).alloc (a4p #[.int .u8 99,aW s,zi 0,zi 0,cS w4.heap.size 2 2] 178))) (pp bx) x:=
       eQ.mono (by grind [size_alloc]) (by grind [dT,db.lL]) _ _ HX.out
      have hyy:eQ (Nu w0 (((w4.alloc (a4p #[pp bx,pp bY] 106)).alloc (a4p #[.int .u8 99,aW s,zi 0,zi 0,cS w4.heap.size 2 2] 178)))) (((w4.alloc (a4p #[pp bx,pp bY] 106)).alloc (a4p #[.int .u8 99,aW s,zi 0,zi 0,cS w4.heap.size 2 2] 178))) (pp bY) y:=
       eQ.mono (by grind [size_alloc,bD.size,Hid.out]) (by grind [dT]) _ _ HV.out
      have By:=HF.out.size;exact⟨J,n,Nat.lt_succ_self n,.mk 99 s 0 0 [x,y],k',xg,pp (w4.heap.size+1),_,_,_,_,_,_,_,_,_,_,_,_,_,_,_,_,_,_,_,_,_,_,_,_,_,_,_,_,_,_,_,_,_,_,_,J,
       (by grind [ac0,size_alloc,Fx,ac1,dT,blk_alloc_new]),
       (by grind [dT,SP.ext,Hid.out]),((HF.out.trans aDz).alloc _).alloc _,HE.out⟩
   .have oB:ee T k s=false:=zg;have HC:=a3J oB;clear hc oB
    go_wp2_with fail
    refine(qK HP.out s HC.out HSD.out).mono ?_;rintro e w1 ⟨rfl,rfl⟩
    go_wp2_with fail
    go_round
    case rel=>exact⟨j+1,zo,by go_num,J,fun j' h'=>by
     rcases Nat.lt_or_ge j' j with h | h
     .exact FB.out j' h
     .obtain rfl:j'=j:=zo;rw[<- HS.out];exact HC.out⟩
    case measure=>grind [intOf]
  .go_wp2_with fail
   rw[avA]
   go_ret
   have e:=HR.out;have hl:=HL.out;rw[P0,aj2 (fun j' h'=>FB.out j' zo)] at e;simp only[a3I] at e;subst e;exact⟨_,J,HX.out,HP.out,HF.out⟩
def aDA(hl:so<2)(xO:∀ m,m<=f->Nv m){r:cr Ex}(hp:SP w pb tb T k vars d)(hd:d<=8)
  {q:cr Ex} (hq:jf T f (so+1) k vars d=O q) (hr:cr.bind (O q) (fun x k' vars'=>pE T f so x k' vars' d)=O r) :
  Calls bdC 91 #[pp pb,zi so] w (j6 eQ pb tb T d w r):=by
 have H:=a3J hp;have HR:=a3J hr;have HQ:=a3J hq;have qM:((so:Int) == 2)=false:=zg;have xY:=hp.d2.2.2;clear hp hr hq
 go_enter func91,ntmps91
 go_wp2_with fail
 have Qn:=a3J (aDw (T:=T) (tb:=tb) (r:=r) hl xO hd xY);refine avz 0 (fun n a w'=>n<=f/\OJ pb tb T so d w r n a w') J ?first ?pass
 case first=>
  intro _
  go_wp2_with fail
  refine((xO f (Nat.le_refl _)).go (so+1) zo H.out hd HQ.out).mono ?_;cases q with
  | err c0 a0=>
   rintro e w4 ⟨⟨b,rfl,eO,gF⟩,dV,gO⟩;have e:=HR.out;simp only[cr.bind,a3I] at e;subst e;exact⟨J,⟨b,J,eO,gF⟩,dV,gO⟩
  | ok x k' vs=>
   rintro e w4 ⟨v,rfl,hv,j7,eA⟩;have HV:=a3J hv;have ud:=a3J j7;have ue:=a3J eA;clear hv j7 eA
   go_wp2_with fail
   refine wp_label ?_;rename_i K hK;refine hK _ _ ?_;refine wp_mono (Qn.out f zo _ _ ⟨x,k',vs,v,_,_,_,_,_,_,_,_,_,_,_,_,_,_,_,_,_,_,_,_,_,_,_,_,_,_,_,_,_,_,_,_,_,_,_,J,HV.out,ud.out,ue.out,HR.out⟩) fun e a' w' hq=>?_;cases e with
   | goto l'=>obtain⟨e,m,hm,hi⟩:=hq;exact⟨e,m,zo,hi⟩
   | _=>exact hq
 case pass=>
  rintro n a w' ⟨hn,hj⟩;refine wp_seq (wp_skip ?_);refine wp_mono (Qn.out n hn _ _ hj) fun e a' w' hq=>?_;grind
def aDB:Nv 0:=⟨fun _ _ _ _ h=>by simp [jf] at h⟩
theorem aDC(a:TA f)(i:∀ m,m<=f->Nv m):Nv (f+1):=by
 refine⟨fun{pb tb T k vars d w r} lvl j e g h=>?_⟩;rw[jf] at h;by_cases b:lvl=2
 .rw[zip b] at h;subst b;exact aDu a e g h
 .rw[bU b] at h;cases c:jf T f (lvl+1) k vars d with
  | none=>rw[c] at h;simp [cr.bind] at h
  | some q=>rw[c] at h;exact aDA zo i e g c h
theorem alO(xO:Nv f):IS f:=by
 refine⟨fun{pb tb T k vars d w r} hp hd h=>?_⟩;have H:=a3J hp;have HR:=a3J h;clear hp h
 go_enter func60,ntmps60
 go_wp2_with fail
 refine(xO.go 0 zo H.out hd HR.out).mono ?_;cases r with
 | err c0 a0=>
  rintro e w4 ⟨⟨b,rfl,eO,gF⟩,dV,gO⟩;exact⟨J,⟨b,J,eO,gF⟩,dV,gO⟩
 | ok x k' vs=>
  rintro e w4 ⟨v,rfl,hv,j7,eA⟩;have HV:=a3J hv;have ud:=a3J j7;have ue:=a3J eA;clear hv j7 eA
  go_wp2_with fail
  go_ret
  exact⟨v,J,HV.out,ud.out,ue.out⟩
namespace P
theorem eo{α β:Type}{r:Option (cr α)}{g:α->Nat->List Bs->Option (cr β)}{b:β}{v:List Bs}
  (h:cr.bind r g=O (.ok b k v)):∃ a c v1,r=O (.ok a c v1)/\g a c v1=O (.ok b k v):=by
 unfold cr.bind at h;grind
theorem oC{α:Type}{T:List Tok}{s:Bs}{x y:α}{v v':List Bs}(h:mW T s x k v=O (.ok y k' v')):k'=k+1/\y=x/\v'=v:=by
 grind [mW,a3I,cr.ok.injEq]
theorem alP{t:Tok}{v v':List Bs}{x:Ex}(h:Aq t k v = .ok x k' v'):k'=k:=by
 grind [Aq]
structure aDD(T:List Tok)(f:Nat):Prop where
 CF:∀ k v d x k' v',oU T f k v d=O (.ok x k' v')->k<k'
 args:∀ k v d a acc x k' v',oV T f k v d a acc=O (.ok x k' v')->k<k'
 list:∀ k v d x k' v',qD T f k v d=O (.ok x k' v')->k<k'
 elems:∀ k v d acc x k' v',rj T f k v d acc=O (.ok x k' v')->k<k'
 oper:∀ l k v d x k' v',jf T f l k v d=O (.ok x k' v')->k<k'
 more:∀ l y k v d x k' v',pE T f l y k v d=O (.ok x k' v')->k<=k'
theorem mono(T:List Tok):∀ f,aDD T f
 | 0=>⟨by simp_all [oU],by simp_all [oV],by simp_all [qD],by simp_all [rj],by simp_all [jf],by simp_all [pE]⟩
 | f+1=>by
  have ih:=mono T f;refine⟨?_,?_,?_,?_,?_,?_⟩
  .intro k v d x k' v' h;rw[oU] at h;split at h
   .grind
   split at h
   .grind
   split at h
   .grind [a3I,alP]
   split at h
   .split at h
    .obtain⟨a,e,v1,c,b⟩:=eo h;have:=ih.args _ _ _ _ _ _ _ _ c;grind [oC]
    grind
   split at h
   .grind
   split at h
   .obtain⟨a,e,v1,c,b⟩:=eo h;have:=ih.oper _ _ _ _ _ _ _ c;grind [oC]
   split at h
   .have:=ih.list _ _ _ _ _ _ h;omega
   grind
  .intro k v d a acc x k' v' h;rw[oV] at h;obtain⟨y,e,v1,c,b⟩:=eo h;have:=ih.oper _ _ _ _ _ _ _ c;split at b
   .have:=ih.args _ _ _ _ _ _ _ _ b;omega
   grind
  .intro k v d x k' v' h;rw[qD] at h;split at h
   .grind
   .obtain⟨y,e,v1,c,b⟩:=eo h;have:=ih.elems _ _ _ _ _ _ _ c;split at b
    .obtain⟨z,i,v2,g,j⟩:=eo b;have:=ih.oper _ _ _ _ _ _ _ g;grind [oC]
    grind [oC]
  .intro k v d acc x k' v' h;rw[rj] at h;obtain⟨y,e,v1,c,b⟩:=eo h;have:=ih.oper _ _ _ _ _ _ _ c;split at b
   .have:=ih.elems _ _ _ _ _ _ _ b;omega
   grind
  .intro l k v d x k' v' h;rw[jf] at h;split at h
   .exact ih.CF _ _ _ _ _ _ h
   .obtain⟨y,e,v1,c,b⟩:=eo h;have:=ih.oper _ _ _ _ _ _ _ c;have:=ih.more _ _ _ _ _ _ _ _ b;omega
  .intro l y k v d x k' v' h;rw[pE] at h;split at h
   .grind
   .obtain⟨z,e,v1,c,b⟩:=eo h;have:=ih.oper _ _ _ _ _ _ _ c;have:=ih.more _ _ _ _ _ _ _ _ b;omega
end P
def AJ(pb tb:Nat)(T:List P.Tok)(d at_:Nat)(w0:Z)(r:cr (List Ex))(n:Nat)(a:Act)(w:Z):Prop:=
 ∃ (acc:List Ex) (k:Nat) (vs:List P.Bs) (xs:List Y) (sl c e f g h u8 i j l m o p q u16 s t:Y),a={ tmps:=#[pp pb,zi at_,c,e,sl,f,g,h,u8,i,j,l,m,o,p,q,u16,s,t],defers:=[] } /\
  w.ownsRow w0.heap.size 106 1 sl acc.length xs/\eS (fun b=>Nu w0 w b/\sl.ownBlock≠O b) w xs acc/\SP w pb tb T k vs d/\db pb w0 w/\acc.length<=k /\
  oV T n k vs d at_ acc=O r
def aDF(Eb:∀ m,m<f->IS m){r:cr (List Ex)}(at_:Nat)(pH:SP w0 pb tb T k vars d)(hd:d<=8)
  (h:oV T f k vars d at_ []=O r):Calls bdC 50 #[pp pb,zi at_] w0 (j6 lV pb tb T d w0 r):=by
 have H:=a3J pH;have HR:=a3J h;have xY:=pH.d2.2.2;have hT:=pH.tw.len;obtain⟨i0,hi,KK,KL,KM⟩:=info_parts alE;clear pH h
 go_enter func50,ntmps50
 go_wp2_with fail
 refine wp_loop_ghost (fun n a w=>n<=f/\AJ pb tb T d at_ w0 r n a w) ⟨f,Nat.le_refl _,[],k,vars,[],bW,_,_,_,_,_,_,_,_,_,_,_,_,_,_,_,_,J,World.ownsRow_nil _ _ _ _,by unfold eS;rfl,H.out,bD.refl _ _,Nat.zero_le _,HR.out⟩ ?_;rintro n a w ⟨hnf,acc,k,vs,xs,sl,u2,u3,u5,u6,u7,u8,u9,y3,y5,y6,xe,xf,y7,u16,y8,y9,rfl,dS,my,hp,hf,XN,hr⟩;cases n with
 | zero=>grind [oV]
 | succ n=>
 rw[oV] at hr;have IY:=hp.kt;have hz:=hf.size;have HO:=a3J dS;have HX:=a3J my;have HP:=a3J hp;have HF:=a3J hf;have AI:=a3J hr;clear dS my hp hf hr H HR
 go_wp2_with fail
 cases hq:jf T n 0 k vs d with
 | none=>have e:=AI.out;rw[hq] at e;simp [cr.bind] at e
 | some q=>
 have e:=AI.out;rw[hq] at e;refine((Eb n zo).go HP.out hd hq).mono ?_;cases q with
 | err c0 a0=>
  rintro e2 w4 ⟨⟨b,rfl,eO,gF⟩,dV,gO⟩;simp only[cr.bind,a3I] at e;subst e;exact⟨J,⟨b,J,eO,zo⟩,HF.out.trans dV,gO⟩
 | ok x k' xg=>
  rintro e2 w1 ⟨v,rfl,hv,dC,gn⟩;obtain⟨bx,rfl,jM⟩:=hv.shape;have nW:=(P.mono T n).oper _ _ _ _ _ _ _ hq;have jY:=dC.kt;have oZ:=gn.size;have aWY:=dC.d2.2.2;have xZ:w1.ownsRow w0.heap.size 106 1 sl acc.length xs:=by
   obtain⟨g1,g2 | ⟨g,cp,cur,e1,e2,e3,e4⟩⟩:=HO.out
   .exact⟨g1,.inl g2⟩
   .exact⟨g1,.inr ⟨g,cp,cur,e1,e2,db.lL gn ⟨zg,J⟩ e3 zo,e4⟩⟩
  have KN:eS (fun b=>Nu w0 w1 b/\sl.ownBlock≠O b) w1 xs acc:=
   eS.mono zg (by grind [db.lL]) _ _ HX.out
  have vD:=a3J xZ;have mz:=a3J KN;have HV:=a3J hv;have kH:=a3J dC;have iz:=a3J (HF.out.trans gn);have HE:=a3J e;have AH:=a3J jM;have HK:=a3J nW;clear hv dC gn xZ KN e hq jM
  go_wp2_with (at_builtin;go_must (refine S2 J _ _ 83 J w0.heap.size 106 i0 _ 1 8 underlying83 hi KK KL KM J zo _ _ _ J (vD.out.alloc _) ⟨w1.heap.size,0,V⟩ 1 1 [pp bx] J J (P3 J) (by simp [Value.oneCell']) (by grind [maxLen]) zo (by simp;omega) ?_;intro v' w2 th zc Bz;obtain⟨g',pX,rfl⟩:=Nb th;have G6:=a3J th;have uJ:=a3J zc;have TE:=a3J Bz;clear th zc Bz))
  have fi:SP w2 pb tb T k' xg d:=(kH.out.ext fun b o h=>dT (o:=a4p #[a4x (O ⟨bx,0,V⟩)] 106) h).Qk (vD.out.alloc _) zg zo uJ.out;have eY:db pb w0 w2:=(iz.out.alloc _).Ql uJ.out fun k hk=>(vD.out.lt k hk).1;have jt:=uJ.out.size;rw[size_alloc] at jt;have Qo:∀ (b:Nat) (o:Obj),w1.heap[b]?=O o->sl.ownBlock≠O b->w2.heap[b]?=O o:=fun b o h ef=>by
   have h':=dT (o:=a4p #[a4x (O ⟨bx,0,V⟩)] 106) h;rw[uJ.out.block b (bn h') (fun e=>ef e.symm)];omega
  have pI:∀ b,b<w1.heap.size->sl.ownBlock≠O b->(Value.slice (O ⟨g',0,V⟩) (acc.length+1) pX).ownBlock≠O b:=fun b hb ef=>by
   rcases TE.out with h | h
   .rw[h];exact ef
   grind [size_alloc]
  have hbn:∀ b,Nu w w1 b->sl.ownBlock≠O b:=fun b hb e=>by
   have:=(HO.out.lt b e).2;omega
  have alQ:eS (fun b=>Nu w0 w2 b/\(Value.slice (O ⟨g',0,V⟩) (acc.length+1) pX).ownBlock≠O b) w2 (xs++[pp bx]) (acc++[x]):=
   eS.snoc (eQ.mono zg zg _ _ HV.out)
    (eS.mono zg zg _ _ mz.out)
  have iU:=a3J fi;have fR:=a3J eY;have TF:=a3J alQ;clear fi eY Qo pI hbn alQ;have e:=HE.out;simp only[cr.bind] at e;by_cases hc:ee T k' [44]=G
  .rw[zip hc] at e;refine(vA iU.out [44] hc).mono ?_;rintro e2 w3 ⟨rfl,gL,dV⟩;have uK:=a3J gL;have oE:=a3J dV;have G7:=a3J e;clear gL dV e hc
   go_wp2_with fail
   have BA:=oE.out.size;have j8:=iU.out.d2.2.2;have NA:w3.ownsRow w0.heap.size 106 1 (cS g' (acc.length+1) pX) (acc.length+1) (xs++[pp bx]):=by
    obtain⟨g1,g2 | ⟨g,cp,cur,e1,e2,e3,e4⟩⟩:=G6.out
    .omega
    .exact⟨g1,.inr ⟨g,cp,cur,e1,e2,db.lL oE.out ⟨zg,J⟩ e3 zo,e4⟩⟩
   exact⟨n,Nat.lt_succ_self n,zo,acc++[x],k'+1,xg,_,_,_,_,_,_,_,_,_,_,_,_,_,_,_,_,_,_,J,zg,
    eS.mono zg (by grind [db.lL,Hid.out]) _ _ TF.out,
    uK.out,fR.out.trans oE.out,zg,G7.out⟩
  .rw[bU hc] at e;refine(qK iU.out [44] zg zd).mono ?_;rintro e2 w3 ⟨rfl,rfl⟩;have G7:=a3J e;clear e hc;have hl5:(acc++[x]).length=acc.length+1:=zs;have j8:=iU.out.d2.2.2;by_cases h4:acc.length+1<=4
   .go_wp2_with fail
    go_ret
    have e:=G7.out;rw[bU (by grind [SZ])] at e;simp only[a3I] at e;subst e;exact⟨_,J,⟨_,Fy G6.out fun b hb=>⟨(G6.out.lt b hb).1,(G6.out.lt b hb).2⟩,eS.mono zg zg _ _ TF.out⟩,iU.out,fR.out⟩
   .have h4':4<acc.length+1:=zo
    go_wp2_with fail
    refine(Cr _ _ _ pb iU.out.sb).mono ?_;rintro e2 w4 ⟨⟨b,rfl,eO,gF⟩,dV,gO⟩;have e:=G7.out;rw[zip (by grind [SZ])] at e;simp only[a3I] at e;subst e;exact⟨J,⟨b,J,eO,zo⟩,fR.out.trans dV,gO⟩
def aDG:Qj 0:=⟨fun _ _ _ h=>by simp [oV] at h⟩
def aDH(a:∀ m,m<f->IS m):Qj f:=⟨fun at_ b c h=>aDF a at_ b c h⟩
