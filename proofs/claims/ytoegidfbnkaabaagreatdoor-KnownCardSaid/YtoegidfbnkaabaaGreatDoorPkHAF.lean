/- A part of one proof (SW1, SW2, SCon, SDoor, SBack, SOper, PureM, SArgs). -/
import Derived.Test.YtoegidfbnkaabaaGreatDoorPkHAE
import Derived.Test.YtoegidfbnkaabaaGreatDoorProg
import Derived.WalkSpells
import Derived.WalkLawsBesides
import Derived.RangeFuncBox
import Derived.RangeFuncFrom
import Derived.RangeFuncLeaves
import Derived.Shelf.Abstract
import Derived.OwnWalkIn
import Derived.TacticsInMore
import Derived.LoopNIn
import Derived.LoopIn
set_option linter.all false
set_option maxRecDepth 100000
set_option maxHeartbeats 8000000
open Option renaming some → O, none → V
open Go renaming Value → Y, World → Z
open Bool renaming true → A, false → G
open Go.Obj renaming cells → ae
open Go.Ending renaming returned → ah
open Go.Value renaming nilIface → ai, iface → aj, tuple → ak, pointer → aq
open Option.some renaming injEq → aZ9
open Go.Lib renaming hid → a0a
open Nat renaming le_refl → a0d, le_trans → a0f
open Go.Value renaming slice → a0m, int → a0H, pointer → a0U
open Go.Obj renaming cells → a0L
open Go.IntKind renaming i64 → a0Q
open Go.Proofs.Tryz renaming prog → a9U
open Go.Proofs.Tryz
namespace Go.Proofs.YtoegidfbnkaabaaGreatDoor
open P
open Go.RowKit
variable{F:Nat->Prop}{T:List P.Tok}{W w w':Z}{av u v:Y}{b base bx c d j k k' n o pb tb:Nat}{cs:Array Y}{fn:Func}{vars:List P.Bs}{vs xs:List Y}
theorem RC.at(h:RC w tb T)(hk:k<T.length) :
  w.cell? ⟨tb,k*3,V⟩=O (zi ((tk T k).kind))/\w.cell? ⟨tb,k*3+1,V⟩=O (aM ((tk T k).text)) /\
   w.cell? ⟨tb,k*3+2,V⟩=O (zi ((tk T k).pos)):=by
 obtain⟨-,cs,a,b⟩:=h;grind [cellOf]
def SP.set{a:Nat}(h:SP w pb tb T k vars d)(hk:k'<T.length)
  (c:cY pb w w')
  (o:∀ cap vv,w.heap[pb]?=aN #[.slice (O ⟨tb,k*3,V⟩) (T.length-k) (cap-k),vv,zi d] 145 ->
   w'.heap[pb]?=aN #[.slice (O ⟨tb,k'*3,V⟩) (T.length-k') (cap-k'),vv,zi a] 145)
  (p:∀ b,b≠pb->w'.heap[b]?=w.heap[b]?):SP w' pb tb T k' vars a:=by
 obtain⟨tw,lt,kt,nv,toks,cap,vv,e,f,q,i⟩:=h;refine⟨tw,lt,hk,nv,c.toks lt toks,cap,vv,e,f,zg,?_⟩;obtain⟨g1,g2⟩:=i;refine⟨g1,?_⟩;rcases g2 with g | ⟨g,j,cur,l,m,r,n⟩
 .grind
 .exact .inr ⟨g,j,cur,l,m,zg,n⟩
theorem cY.F2{a b:Z}(h:cY pb a b)(v:Y):cY pb a (b.setCell ⟨pb,o,V⟩ v):=h.asS (fun _=>.inl J) v
def uP(hp:SP w pb tb T k vars d)(s:P.Bs)(h:ep T k s=A) :
  Calls a9U 49 #[pp pb,aM s] w fun e w'=>
   e = ah (.bool A)/\SP w' pb tb T (k+1) vars d/\cY pb w w':=by
 obtain⟨cap,vv,js,rj,fW,-⟩:=hp.yv;have h0:=cellOf fW (o:=0) J;have f0:=jL fW 0;obtain⟨t0,t1,-⟩:=hp.toks.at hp.kt;simp only[ep,Bool.and_eq_true,Bool.or_eq_true,beq_iff_eq] at h;have hkn:k+1<T.length:=hp.tw.next hp.kt zo
 have kR:SP (w.setCell ⟨pb,0,V⟩ (.slice (O ⟨tb,k*3+3,V⟩) (T.length-k-1) (cap-k-1))) pb tb T (k+1) vars d:=by
  refine hp.set hkn (cY.F2 (bz.refl _ _) _) (fun cp v2 hv=>?_) (by grind [blk_setCell_other]);rw[fW] at hv;injection hv with hv;injection hv with hv;have hx:(a0m (O ⟨tb,k*3,V⟩) (T.length-k) (cap-k))=a0m (O ⟨tb,k*3,V⟩) (T.length-k) (cp-k):=by
   grind
  have hy:vv=v2:=zg;injection hx with _ _ hx;subst hy;rw[AO fW];grind
 have sO:cY pb w (w.setCell ⟨pb,0,V⟩ (.slice (O ⟨tb,k*3+3,V⟩) (T.length-k-1) (cap-k-1))):=cY.F2 (bz.refl _ _) _;obtain⟨kd,iP⟩:∃ kd:Int,kd=((tk T k).kind:Int):=⟨_,J⟩;rw[<- iP] at t0;rw[h.2] at t1;have k0:(kd == 0)=false:=zg;have k2:(kd == 2)=false:=zg;have l1:1<T.length-k:=zo;have l2:T.length-k<=100000:=by have:=hp.tw.len;omega
 have l3:T.length-k<=cap-k:=zo;clear iP h;generalize hn:T.length-k=n at *;generalize hm:cap-k=m at *;clear hn hm js rj hkn hp fW
 go_enter func49,ntmps49
 go_wp2
 go_ret
 exact⟨J,kR,sO⟩
def p8(hp:SP w pb tb T k vars d)(s:P.Bs)(h:ep T k s=G)
  (hs:s.all P.digit=G) :
  Calls a9U 49 #[pp pb,aM s] w fun e w'=>e = ah (.bool G)/\w=w':=by
 obtain⟨cap,vv,js,rj,fW,-⟩:=hp.yv;have h0:=cellOf fW (o:=0) J;obtain⟨t0,t1,-⟩:=hp.toks.at hp.kt;have yw:=hp.tw.kind _ (JD hp.kt);have xn:=hp.tw.digits _ (JD hp.kt);have l1:0<T.length-k:=by have:=hp.kt;omega
 have l2:T.length-k<=100000:=by have:=hp.tw.len;omega
 by_cases hx:(tk T k).text=s
 .have iP:(tk T k).kind=0\/(tk T k).kind=2:=by
   simp only[ep,hx,beq_self_eq_true,Bool.and_true,Bool.or_eq_false_iff,beq_eq_false_iff_ne] at h;grind
  rw[hx] at t1;rcases iP with iP | iP
  .rw[iP] at t0;clear h xn yw iP hx hp;generalize hn:T.length-k=n at *;generalize hm:cap-k=m at *;clear hn hm js rj fW
   go_enter func49,ntmps49
   go_wp2
   go_ret
   exact⟨J,J⟩
  .rw[iP] at t0;clear h xn yw iP hx hp;generalize hn:T.length-k=n at *;generalize hm:cap-k=m at *;clear hn hm js rj fW
   go_enter func49,ntmps49
   go_wp2
   go_ret
   exact⟨J,J⟩
 .obtain⟨kd,iP⟩:∃ kd:Int,kd=((tk T k).kind:Int):=⟨_,J⟩;rw[<- iP] at t0;obtain⟨x,xo⟩:=b9 ((tk T k).text);rw[<- xo] at t1 hx;clear iP h xn yw xo hp;generalize hn:T.length-k=n at *;generalize hm:cap-k=m at *;clear hn hm js rj fW
  go_enter func49,ntmps49
  go_wp2
  go_ret
  exact⟨J,J⟩
def BI(c a:Int)(w:Z)(pb:Nat)(xp:SB w pb) :
  Calls a9U 47 #[zi c,zi a] w fun e w'=>mR c a w w' e/\cY pb w w'/\SB w' pb:=by
 have kR:mR c a w (w.alloc (a0L #[a0H a0Q c,a0H a0Q a] 77))
   (.panicked [{ v:=aj 73 (pp w.heap.size),recovered:=false }]):=
  ⟨_,J,blk_alloc_new _ _,a0d _⟩
 have aBc:SB (w.alloc (a0L #[a0H a0Q c,a0H a0Q a] 77)) pb:=by
  obtain⟨lv,vv,d,h⟩:=xp;exact⟨lv,vv,d,dQ h⟩
 clear xp
 go_enter func47,ntmps47
 go_wp2
 exact⟨J,kR,(bz.refl _ _).alloc _,aBc⟩
def SP.sb(h:SP w pb tb T k vars d):SB w pb:=by
 obtain⟨cap,vv,_,_,h,_⟩:=h.yv;exact⟨_,_,_,h⟩
def SP.l0(h:SP w pb tb T k vars d) :
  ∃ n c:Nat,w.cell? ⟨pb,0,V⟩=O (.slice (O ⟨tb,k*3,V⟩) n c)/\0<n/\n<=100000/\((tk T k).kind≠0->1<n)/\n<=c/\c<=9223372036854775807:=by
 obtain⟨cap,vv,b,e,a,_⟩:=h.yv;refine⟨_,_,cellOf a J,?_,?_,?_,?_,?_⟩
 .have:=h.kt;omega
 .have:=h.tw.len;omega
 .intro hk;have:=h.tw.next h.kt hk;omega
 .omega
 omega
def OH(hp:SP w pb tb T k vars d) :
  Calls a9U 48 #[pp pb] w fun e w'=>mR 2 (tk T k).pos w w' e/\cY pb w w'/\SB w' pb:=by
 obtain⟨n,c,h0,l0,l1,-,-,-⟩:=hp.l0;obtain⟨-,-,t2⟩:=hp.toks.at hp.kt;have xp:=a0a hp.sb;clear hp
 go_enter func48,ntmps48
 go_wp2_with fail
 refine(BI _ _ _ pb xp.out).mono ?_;rintro e w' ⟨⟨b,rfl,hb⟩,hf,hs⟩;exact⟨J,⟨b,J,hb⟩,hf,hs⟩
def RE(hp:SP w pb tb T k vars d)(s:P.Bs)(h:ep T k s=A) :
  Calls a9U 51 #[pp pb,aM s] w fun e w'=>
   e = ah (ak #[])/\SP w' pb tb T (k+1) vars d/\cY pb w w':=by
 have H:=a0a hp;have H2:=a0a h;clear hp h
 go_enter func51,ntmps51
 go_wp2_with fail
 refine(uP H.out s H2.out).mono ?_;rintro e w' ⟨rfl,h1,h2⟩;have H1:=a0a h1;have H2:=a0a h2;clear h1 h2
 go_wp2_with fail
 go_end0
 exact⟨J,H1.out,H2.out⟩
def RF(hp:SP w pb tb T k vars d)(s:P.Bs)(h:ep T k s=G)
  (hs:s.all P.digit=G) :
  Calls a9U 51 #[pp pb,aM s] w fun e w'=>
   mR 2 (tk T k).pos w w' e/\cY pb w w'/\SB w' pb:=by
 have H:=a0a hp;have H2:=a0a h;have H3:=a0a hs;clear hp h hs
 go_enter func51,ntmps51
 go_wp2_with fail
 refine(p8 H.out s H2.out H3.out).mono ?_;rintro e w' ⟨rfl,rfl⟩
 go_wp2_with fail
 refine(OH H.out).mono ?_;rintro e w' ⟨⟨b,rfl,hb⟩,hf,hs⟩;exact⟨J,⟨b,J,hb⟩,hf,hs⟩
def SP.d2(h:SP w pb tb T k vars d) :
  w.cell? ⟨pb,2,V⟩=O (zi d)/\w.frozen? ⟨pb,2,V⟩=G/\pb<w.heap.size:=by
 obtain⟨cap,vv,b,c,a,_⟩:=h.yv;exact⟨cellOf a J,jL a 2,bf a⟩
abbrev Mc(w:Z)(pb:Nat)(d:Nat):Z:=
 (w.setCell ⟨pb,2,V⟩ (zi ((d:Int)+1))).alloc (ae #[pp pb] 139)
theorem SP.ext{w w':Z}{pb tb:Nat}{T:List P.Tok}{k:Nat}{vars:List P.Bs}{d:Nat}(h:SP w pb tb T k vars d)
  (hw:∀ (b:Nat) (o:Obj),w.heap[b]?=O o->w'.heap[b]?=O o):SP w' pb tb T k vars d:=by
 obtain⟨tw,lt,kt,nv,toks,cap,vv,a,c,e,g1,g2⟩:=h;obtain⟨n,cs,t1,t2⟩:=toks;refine⟨tw,lt,kt,nv,⟨(by grind [zQ.ext]),cs,hw _ _ t1,t2⟩,cap,vv,a,c,hw _ _ e,g1,?_⟩;rcases g2 with g | ⟨g,f,cur,i,j,l,m⟩
 .grind
 .exact .inr ⟨g,f,cur,i,j,hw _ _ l,m⟩
def SP.Mc{w:Z}{pb tb:Nat}{T:List P.Tok}{k:Nat}{vars:List P.Bs}{d:Nat}(h:SP w pb tb T k vars d):SP (Mc w pb d) pb tb T k vars (d+1):=by
 have a:SP (w.setCell ⟨pb,2,V⟩ (zi ((d:Int)+1))) pb tb T k vars (d+1):=by
  refine h.set h.kt (cY.F2 (bz.refl _ _) _) (fun b v2 hv=>?_) (by grind [blk_setCell_other]);rw[AO hv];rfl
 exact a.ext (by grind [dQ])
def aji(w:Z)(pb d:Nat):(Mc w pb d).heap.size=w.heap.size+1:=by rw[size_alloc,size_setCell]
def aBd(w:Z)(pb d:Nat):(Mc w pb d).heap[w.heap.size]?=aN #[pp pb] 139:=by
 grind [blk_alloc_new,size_setCell]
def ajj(w:Z)(pb d:Nat):cY pb w (Mc w pb d):=(cY.F2 (bz.refl _ _) _).alloc _
def zU(hp:SP w pb tb T k vars d)(hd:d+1<=8) :
  Calls a9U 86 #[pp pb] w fun e w'=>
   e = ah (.func (.func 116) #[] #[pp w.heap.size])/\w'.heap.size=w.heap.size+1 /\
   w'.heap[w.heap.size]?=aN #[pp pb] 139/\SP w' pb tb T k vars (d+1)/\cY pb w w':=by
 obtain⟨h2,f2,hb⟩:=hp.d2;have H:=a0a hp;clear hp
 go_enter func86,ntmps86
 go_wp2_with fail
 go_ret
 exact⟨J,aji w pb d,aBd w pb d,H.out.Mc,ajj w pb d⟩
def VM(hp:SP w pb tb T k vars d)(hd:8<d+1)(xr:d<=100) :
  Calls a9U 86 #[pp pb] w fun e w'=>mR 4 (tk T k).pos w w' e/\cY pb w w'/\SB w' pb:=by
 obtain⟨h2,f2,hb⟩:=hp.d2;have dZ:¬ tb=pb:=by have:=hp.lt;omega
 have RH:¬ pb=tb:=zo;have sQ:tb<w.heap.size:=by have:=hp.lt;omega
 have fy:=a0a hp.Mc;have eU:=a0a (ajj w pb d);obtain⟨n,c,h0,l0,l1,-,-,-⟩:=hp.l0;obtain⟨-,-,t2⟩:=hp.toks.at hp.kt;clear hp
 go_enter func86,ntmps86
 go_wp2_with fail
 refine(BI _ _ _ pb fy.out.sb).mono ?_;rintro e w' ⟨⟨b,rfl,hb,hl⟩,hf,hs⟩;exact⟨J,⟨b,J,hb,a0f (a0f (Nat.le_succ _) (Nat.le_of_eq (aji w pb d).symm)) hl⟩,eU.out.trans hf,hs⟩
abbrev aaT(w:Z)(pb:Nat)(d:Int):Z:=w.setCell ⟨pb,2,V⟩ (zi d)
def aBe(hp:SP w pb tb T k vars (d+1))
  (hx:w.heap[bx]?=aN #[pp pb] 139) (hd:d<=100) (u:FrameMode) :
  CallsD a9U 116 #[pp bx] u w fun e u' w'=>u'=u/\(e = ah (ak #[])/\SP w' pb tb T k vars d/\cY pb w w'/\w'.heap.size=w.heap.size):=by
 obtain⟨h2,f2,hb⟩:=hp.d2;have oI:w.cell? ⟨bx,0,V⟩=_:=cellOf hx J;have e1:((d+1:Nat):Int)=(d:Int)+1:=rfl;rw[e1] at h2;have kR:SP (aaT w pb d) pb tb T k vars d:=by
  refine hp.set hp.kt (cY.F2 (bz.refl _ _) _) (fun cp v2 hv=>?_) (by grind [blk_setCell_other]);rw[AO hv];rfl
 have sO:cY pb w (aaT w pb d):=cY.F2 (bz.refl _ _) _;have jc:(aaT w pb d).heap.size=w.heap.size:=size_setCell _ _ _;have H1:=a0a kR;have H2:=a0a sO;have H3:=a0a jc;clear kR sO jc hp e1 hx;have e2:((d:Int)+1-1)=d:=zo
 go_enter_d func116,ntmps116
 go_wp2_with fail
 go_end0
 exact⟨J,H1.out,H2.out,H3.out⟩
def aBf(hp:SB w pb)
  (hx:w.heap[bx]?=aN #[pp pb] 139) (u:FrameMode) :
  CallsD a9U 116 #[pp bx] u w fun e u' w'=>u'=u/\(e = ah (ak #[])/\SB w' pb/\cY pb w w'/\w'.heap.size=w.heap.size/\∀ b,b≠pb->w'.heap[b]?=w.heap[b]?):=by
 obtain⟨lv,vv,d,h⟩:=hp;have h2:w.cell? ⟨pb,2,V⟩=_:=cellOf h J;have f2:=jL h 2;have oI:w.cell? ⟨bx,0,V⟩=_:=cellOf hx J;have kR:∀ x,SB (w.setCell ⟨pb,2,V⟩ (zi x)) pb:=fun x=>⟨lv,vv,x,by rw[AO h];rfl⟩;have sO:∀ x,cY pb w (w.setCell ⟨pb,2,V⟩ (zi x)):=(by grind [cY.F2,bz.refl]);have H1:=a0a kR;have H2:=a0a sO;clear kR sO hx h
 go_enter_d func116,ntmps116
 go_wp2_with fail
 go_end0
 exact⟨J,H1.out _,H2.out _,size_setCell _ _ _,(by grind [blk_setCell_other])⟩
def ln(F:Nat->Prop)(w:Z)(v:Y)(l:List Ex):Prop:=∃ vs,fD F w 106 v vs/\eH F w vs l
def JF(F:Nat->Prop)(w:Z)(v:Y)(l:List Bd):Prop:=∃ vs,fD F w 84 v vs/\gx F w vs l
structure RI(f:Nat):Prop where
 go:∀ {pb tb:Nat} {T:List P.Tok} {k:Nat} {vars:List P.Bs} {d:Nat} {w:Z} {r:cg Ex},SP w pb tb T k vars d->d<=8 ->
  pR T f k vars d=O r->Calls a9U 117 #[pp pb] w (jS eG pb tb T d w r)
structure OI(f:Nat):Prop where
 go:∀ {pb tb:Nat} {T:List P.Tok} {k:Nat} {vars:List P.Bs} {d:Nat} {w:Z} {r:cg (List Ex)} (at_:Nat),SP w pb tb T k vars d->d<=8 ->
  oX T f k vars d at_ []=O r->Calls a9U 50 #[pp pb,zi at_] w (jS ln pb tb T d w r)
structure RL(f:Nat):Prop where
 go:∀ {pb tb:Nat} {T:List P.Tok} {k:Nat} {vars:List P.Bs} {d:Nat} {w:Z} {r:cg Ex},SP w pb tb T k vars d->d<=8 ->
  rf T f k vars d=O r->Calls a9U 142 #[pp pb] w (jS eG pb tb T d w r)
structure Md(f:Nat):Prop where
 go:∀ {pb tb:Nat} {T:List P.Tok} {k:Nat} {vars:List P.Bs} {d:Nat} {w:Z} {r:cg Ex} (lvl:Nat),lvl<=2->SP w pb tb T k vars d->d<=8 ->
  jo T f lvl k vars d=O r->Calls a9U 91 #[pp pb,zi lvl] w (jS eG pb tb T d w r)
structure Hs(f:Nat):Prop where
 go:∀ {pb tb:Nat} {T:List P.Tok} {k:Nat} {vars:List P.Bs} {d:Nat} {w:Z} {r:cg Ex},SP w pb tb T k vars d->d<=8 ->
  jo T f 0 k vars d=O r->Calls a9U 60 #[pp pb] w (jS eG pb tb T d w r)
structure aaU:Prop where
 go:∀ {pb tb:Nat} {T:List P.Tok} {k:Nat} {vars:List P.Bs} {d:Nat} {w:Z} (t:P.Tok),SP w pb tb T k vars d->t.text≠[] ->
  Calls a9U 141 #[pp pb,.agg #[zi t.kind,aM t.text,zi t.pos]] w (jS eG pb tb T d w (zI t k vars))
structure VN:Prop where
 go:∀ {w:Z} (s:P.Bs),s≠[]->s.all P.digit=A->s.length<=9 ->
  Calls a9U 135 #[aM s,zi 10,zi 64] w fun e w'=>e = ah (ak #[zi (P.num s),ai])/\Ext w w'
abbrev F3(w:Z)(pb tb k n c:Nat):Z:=w.setCell ⟨pb,0,V⟩ (.slice (O ⟨tb,k*3+3,V⟩) (n-1) (c-1))
def SP.on(h:SP w pb tb T k vars d)(hk:(tk T k).kind≠0) :
  ∃ n c:Nat,w.cell? ⟨pb,0,V⟩=O (.slice (O ⟨tb,k*3,V⟩) n c)/\w.frozen? ⟨pb,0,V⟩=G/\pb<w.heap.size/\1<n/\n<=100000/\n<=c/\c<=9223372036854775807 /\
   SP (F3 w pb tb k n c) pb tb T (k+1) vars d/\cY pb w (F3 w pb tb k n c):=by
 obtain⟨tw,lt,kt,nv,toks,cap,vv,e,f,a,g1,g2⟩:=h;have i:=tw.next kt hk
 have p:=tw.len;have b:cY pb w (F3 w pb tb k (T.length-k) (cap-k)):=cY.F2 (bz.refl _ _) _;refine⟨T.length-k,cap-k,cellOf a J,jL a 0,bf a,zo,zo,zo,zo,?_,b⟩;refine⟨tw,lt,i,nv,b.toks lt toks,cap,vv,e,f,?_,g1,?_⟩
 .rw[AO a];grind
 .rcases g2 with g | ⟨g,j,cur,l,m,q,o⟩
  .grind
  .refine .inr ⟨g,j,cur,l,m,?_,o⟩;grind [blk_setCell_other]
def VO{α:Type}(I:(Nat->Prop)->Z->Y->α->Prop):Prop:=
 ∀ (F F':Nat->Prop) (pb:Nat) (w w':Z) (v:Y) (x:α),I F w v x->cY pb w w'->(∀ b,F b->b≠pb/\F' b)->I F' w' v x
def JG:VO eG:=fun F F' pb w w' v x h a b=>(by grind [eG.mono,cY.ll])
def F4:VO dJ:=fun F F' pb w w' v x h a b=>(by grind [dJ.mono,cY.ll])
def aBg:VO ln:=fun F F' pb w w' v x h a e=>by
 obtain⟨vs,c,f⟩:=h;exact⟨vs,c.mono zg fun b cs g d=>a.ll ⟨zg,J⟩ d zg,
  (by grind [eH.mono,cY.ll])⟩
abbrev RM(bx:Nat):Deferred:={ target:=.fn (.func 116) #[pp bx],args:=#[] }
def ajk(bx:Nat)(w:Z):(invoke (RM bx).target (RM bx).args).run a9U w = .ok (.enter 116 #[pp bx]) w:=by
 simp [go_sem]
def yx{α:Type}{I:(Nat->Prop)->Z->Y->α->Prop}(c:VO I){vs:List P.Bs}{a:Z}
 {tmps:Array Y} {x:α} (f:fn.results=#[.tmp j])
  (m:pb<w.heap.size) (g:SP a pb tb T k vs (d+1)) (n:d<=8)
  (hx:a.heap[bx]?=aN #[pp pb] 139) (hv:I (Nu w a) a (tmps.getD j undef) x) (h:cY pb w a) :
  bodyPostD a9U fn (jS I pb tb T d w (.ok x k vs)) .ret { tmps:=tmps,defers:=[RM bx] } a:=by
 refine leaves_cons zs (ajk bx a) ((aBe g hx zo _).mono ?_);rintro e u w' ⟨rfl,rfl,i,b,l⟩;refine⟨_,(by grind [results_tmp]),_,J,c _ _ _ _ _ _ _ hv b ?_,i,h.trans b⟩;omega
def sT{α:Type}{I:(Nat->Prop)->Z->Y->α->Prop}{f:Z}{a:Nat}
 {tmps:Array Y} {chain:List PanicEntry} (m:pb<w.heap.size) (h:SB f pb)
  (hx:f.heap[bx]?=aN #[pp pb] 139) (hv:mR c a w f (.panicked chain)) (i:cY pb w f) :
  bodyPostD a9U fn (jS I pb tb T d w (.err c a)) (.panic chain) { tmps:=tmps,defers:=[RM bx] } f:=by
 obtain⟨b,j,n,k⟩:=hv;cases j;refine leaves_cons zs (ajk bx f) ((aBf h hx _).mono ?_);rintro e u w' ⟨rfl,rfl,g,l,o,p⟩;exact⟨⟨b,J,zg,k⟩,i.trans l,g⟩
def JI{name:P.Bs}{n:Int}(a:F b)
  (h:w.heap[b]?=aN #[.int .u8 pb,aM name,zi n,zi k,bH] 178) :
  eG F w (pp b) (.mk pb name n k []):=by
 unfold eG;exact⟨b,_,[],J,a,h,.inl ⟨J,J⟩,by unfold eH;rfl⟩
theorem EB{o:Obj}(h:n=w.heap.size):(w.alloc o).heap[n]?=O o:=by grind [blk_alloc_new]
theorem SP.setOther{x:Nat}{t:TypeId}{z:Nat×Nat}(h:SP w pb tb T k vars d)
  (hx:w.heap[x]?=O (ae cs t z)) (ht:t≠9) (l:x≠pb) (m:tb<x) (v:Y):SP (w.setCell ⟨x,o,V⟩ v) pb tb T k vars d:=by
 obtain⟨tw,lt,kt,nv,⟨n,a,t1,t2⟩,cap,vv,b,c,p,g1,g2⟩:=h;refine⟨tw,lt,kt,nv,⟨(by grind [blk_setCell_other,zQ.ext]),a,by grind [blk_setCell_other],t2⟩,cap,vv,b,c,
  by grind [blk_setCell_other],g1,?_⟩
 rcases g2 with g | ⟨g,e,cur,f,i,q,j⟩
 .grind
 .refine .inr ⟨g,e,cur,f,i,?_,j⟩;rw[blk_setCell_other]<;>grind
theorem ln.mono{F F':Nat->Prop}{w w':Z}{v:Y}{l:List Ex}(a:∀ b,F b->F' b)(hw:∀ b o,F b->C8 o->w.heap[b]?=O o->w'.heap[b]?=O o)
  (h:ln F w v l):ln F' w' v l:=by
 obtain⟨vs,c,f⟩:=h;exact⟨vs,c.mono a fun b cs d e=>hw b _ d ⟨zg,J⟩ e,(by grind [eH.mono])⟩
def ln.set{l:List Ex}{x:Nat}(h:ln F w v l)(hx:∀ b,F b->b≠x)(u:Y):ln F (w.setCell ⟨x,o,V⟩ u) v l:=
 h.mono zg (by grind [blk_setCell_other])
theorem aaV{name:P.Bs}{n:Int}{l:List Ex}(c:F b)
  (h:w.heap[b]?=aN #[.int .u8 pb,aM name,zi n,zi k,av] 178) (a:ln F w av l) :
  eG F w (pp b) (.mk pb name n k l):=by
 obtain⟨vs,d,e⟩:=a;unfold eG;grind
theorem fD.shape{d:TypeId}(h:fD F w d v vs):∃ a n c,v = .slice a n c/\n=vs.length/\n<=c/\(a=V->n=0):=by
 rcases h with⟨rfl,rfl⟩| ⟨b,cs,rfl,_,_,h,_⟩<;>grind
def eH.length{F:Nat->Prop}{w:Z}:∀ {l:List Ex} {vs:List Y},eH F w vs l->vs.length=l.length
 | [],vs,h=>by unfold eH at h;rw[h];rfl
 | x::xs,vs,h=>by
  unfold eH at h;obtain⟨v,r,rfl,_,a⟩:=h;simp [eH.length a]
theorem ln.shape{F:Nat->Prop}{w:Z}{v:Y}{l:List Ex}(h:ln F w v l):∃ a n c,v = .slice a n c/\n=l.length/\n<=c:=by
 obtain⟨vs,b,d⟩:=h;obtain⟨a,n,c,rfl,e,f,_⟩:=b.shape;exact⟨a,n,c,J,by rw[e,d.length],f⟩
theorem aaW{x y:Ex}(a:F b)(h:w.heap[b]?=aN #[u,v] 106)(hx:eG F w u x)(c:eG F w v y) :
  ln F w (cM b 2 2) [x,y]:=by
 refine⟨[u,v],.inr ⟨b,#[u,v],J,a,h,a0d _,J⟩,?_⟩;unfold eH;refine⟨u,[v],J,hx,?_⟩;unfold eH;refine⟨v,[],J,c,?_⟩;unfold eH;rfl
theorem SP.other{x:Nat}{t:TypeId}{z:Nat×Nat}(h:SP w pb tb T k vars d)
  (hx:w.heap[x]?=O (ae cs t z)) (ht:t≠9) (n:x≠pb) (p:tb<x) (hw:∀ (b:Nat) (o:Obj),b≠x->w.heap[b]?=O o->w'.heap[b]?=O o):SP w' pb tb T k vars d:=by
 obtain⟨tw,lt,kt,nv,⟨q,a,t1,t2⟩,cap,vv,c,e,r,g1,g2⟩:=h;refine⟨tw,lt,kt,nv,⟨(by grind [zQ.ext]),a,zg,t2⟩,cap,vv,c,e,zg,g1,?_⟩;rcases g2 with g | ⟨g,f,cur,i,j,l,m⟩
 .grind
 .refine .inr ⟨g,f,cur,i,j,hw _ _ ?_ l,m⟩;grind
def SP.OK{t:TypeId}(h:SP w pb tb T k vars d)
  (c:w.ownsRow base t 1 v n xs) (ht:t≠9) (l:pb<base) (f:w.grownBy w' v.ownBlock):SP w' pb tb T k vars d:=by
 have hlt:=h.lt;rcases c.2 with⟨rfl,_⟩| ⟨g,cap,cur,rfl,m,i,_⟩
 .exact h.ext (by grind [bf,Value.ownBlock,World.grownBy.block])
 .exact h.other i ht zo zo fun b o j a=>by rw[f.block b (bf a) (by simp only[Value.ownBlock];intro e;injection e with e;exact j e)];exact a
theorem bz.OL{M:Nat->Obj->Prop}{a b c:Z}{row:Option Nat}(h:bz M a b)(d:b.grownBy c row)(hr:∀ k,row=O k->a.heap.size<=k):bz M a c:=
 ⟨d.os.trans h.os,d.tape.trans h.tape,d.output.trans h.output,a0f h.size d.size,fun i o f hm=>by
  have g:=h.block i o f hm;rw[d.block i (bf g) (fun e=>by have:=hr i e.symm;have:=bf f;omega)];exact g⟩
theorem EC{t:TypeId}(h:w.ownsRow base t 1 v n xs)(a:∀ b,v.ownBlock=O b->F b):fD F w t v xs:=by
 obtain⟨j,⟨rfl,c⟩| ⟨g,cap,cur,rfl,c,d,e,k,l,m⟩⟩:=h
 .exact .inl zg
 .have f:xs.length=n:=zo;have i:cur.size=cap:=zo;subst f;subst i;exact .inr ⟨g,cur,J,a g J,d,e,zg⟩
def eH.snoc{F:Nat->Prop}{w:Z}{v:Y}{x:Ex}(hv:eG F w v x):∀ {l:List Ex} {vs:List Y},eH F w vs l->eH F w (vs++[v]) (l++[x])
 | [],vs,h=>by
  unfold eH at h;subst h;simp only[List.nil_append];unfold eH;exact⟨v,[],J,hv,by unfold eH;rfl⟩
 | y::l,vs,h=>by
  unfold eH at h;obtain⟨u,r,rfl,a,b⟩:=h;simp only[List.cons_append];unfold eH;exact⟨u,r++[v],J,a,eH.snoc hv b⟩
def ajn:(Tryz.prog.info? 106).map (fun i=>(i.zero,i.size,i.bytes))=O (O (aq V),1,8):=zk
def ajo{a:Addr}(h:w.cell? a=O v)(hw:∀ cs t z,w.heap[a.block]?=O (ae cs t z)->w'.heap[a.block]?=O (ae cs t z)):w'.cell? a=O v:=by
 grind [World.cell?,World.cell?_of_block]
def SP.aBh(h:SP w pb tb T k vars d)
  (hw:∀ (b:Nat) (cs:Array Y) (t:TypeId) (z:Nat×Nat),w.heap[b]?=O (ae cs t z)->w'.heap[b]?=O (ae cs t z)):SP w' pb tb T k vars d:=by
 obtain⟨tw,lt,kt,nv,toks,cap,vv,m,n,u,g1,g2⟩:=h;obtain⟨f,cs,t1,t2⟩:=toks;refine⟨tw,lt,kt,nv,⟨⟨f.lt,fun l p=>?_⟩,cs,zg,t2⟩,cap,vv,m,n,zg,g1,?_⟩
 .obtain⟨b,o,c,a,e,i⟩:=f.Da l p;exact⟨b,o,c,a,ajo e (hw _),fun j q=>ajo (i j q) (hw _)⟩
 .rcases g2 with g | ⟨g,r,cur,a,e,i,s⟩
  .grind
  .exact .inr ⟨g,r,cur,a,e,zg,s⟩
def aBi{o:Obj}(h:C8 o):∃ cs t z,o = ae cs t z:=by
 cases o with
 | cells cs t z=>grind
 | _=>exact h.elim
def eH.blocks{F:Nat->Prop}{w:Z}:∀ {l:List Ex} {vs:List Y},eH F w vs l->∃ bl:List Nat,vs=bl.map (fun b=>a0U (O ⟨b,0,V⟩))/\bl.length=l.length
 | [],vs,h=>by unfold eH at h;exact⟨[],zg,J⟩
 | x::l,vs,h=>by
  unfold eH at h;obtain⟨u,r,rfl,a,c⟩:=h;obtain⟨bl,rfl,e⟩:=eH.blocks c;cases x with
  | mk kind name n k args=>
   unfold eG at a;obtain⟨b,_,_,rfl,_⟩:=a;exact⟨b::bl,J,zg⟩
theorem eH.get{F:Nat->Prop}{w:Z}:∀ {l:List Ex} {bl:List Nat},eH F w (bl.map (fun b=>a0U (O ⟨b,0,V⟩))) l->∀ i (a:i<l.length),eG F w (pp (bl.getD i 0)) l[i]
 | [],bl,h,i,a=>zg
 | x::l,bl,h,i,a=>by
  unfold eH at h;obtain⟨u,r,e,d,c⟩:=h;cases bl with
  | nil=>grind
  | cons b bl=>
   simp only[List.map_cons,List.cons.injEq] at e;obtain⟨rfl,rfl⟩:=e;cases i with
   | zero=>grind
   | succ i=>simpa using eH.get c i zg
open Go.Shelf
attribute [local go_sem] Oper.semAt_some
def JJ(X:Nat)(W a:Z):Prop:=∀ (b:Nat) (cs:Array Y) (t:TypeId) (z:Nat×Nat),b≠X->W.heap[b]?=O (ae cs t z)->a.heap[b]?=O (ae cs t z)
theorem JJ.trans{X:Nat}{B C:Z}(h:JJ X W B)(k:JJ X B C):JJ X W C:=fun b cs t z a c=>k b cs t z a (h b cs t z a c)
def Hu(bl:List Nat)(k:Nat):List (Nat×Nat):=(List.range k).map fun j=>(bl.length-1-j,bl.getD (bl.length-1-j) 0)
def ajp(bl:List Nat)(k:Nat):Hu bl (k+1)=Hu bl k++[(bl.length-1-k,bl.getD (bl.length-1-k) 0)]:=by simp [Hu,List.range_succ]
def VP(bl:List Nat)(k:Nat):(Hu bl k).length=k:=by simp [Hu]
abbrev ajq(x:Nat×Nat):Array Y:=#[zi x.1,pp x.2]
def aBj(F:Fence)(n:Nat)(h8:F.fn 175)(LU:F.round=V)(hn:1<=n)(l Bs g cap X:Nat)(bl:List Nat)(Mf:Bs≠X)(hX2:g≠X)(hlen:bl.length<=100000)
  (a Jx:List (Nat×Nat)->Z->Prop)
  (hY:∀ pre x W,a pre W->pre.length<bl.length->YieldAt F (n-1) a9U l (ajq x) W fun e W'=>
   (e = ah (.bool A)/\a (pre++[x]) W'/\JJ X W W')\/(e = ah (.bool G)/\Jx (pre++[x]) W'))
  (W:Z) (OM:W.heap[Bs]?=aN #[cM g bl.length cap] 83) (cur:Array Y) (hg:W.heap[g]?=aN cur 106)
  (hc:∀ j,j<bl.length->cur[j]?=O (pp (bl.getD j 0))) (h0:a [] W) :
  CallsIn F n a9U 175 #[.func (.yield l) #[] #[],pp Bs] W fun e W'=>(∃ v,e = ah v) /\
   ((∃ ys,ys=Hu bl bl.length/\a ys W')\/(∃ pre,True/\Jx pre W')):=by
 have HC:=a0a hc;have HG:=a0a hg;have HB:=a0a OM;have HY:=a0a hY;have hBc:W.cell? ⟨Bs,0,V⟩=O (cM g bl.length cap):=cellOf OM J;obtain⟨len,hl⟩:=b9 bl.length;rw[<- hl] at hlen hBc;have HL:=a0a hl;clear hl hc hg OM hY;refine callsIn_of_wp func175 J h8 ?_ LU;simp only[ntmps175,List.size_toArray,List.length_cons,List.length_nil,Nat.reduceAdd,Nat.reduceSub,Array.replicate_succ,Array.replicate_zero,List.push_toArray,List.append_toArray,List.nil_append,List.cons_append]
 gi_wp2
 gi_loopw [3] (fun i wr=>∃ k:Nat,k<=len/\i=zi ((len:Int)-1-k)/\a (Hu bl k) wr/\JJ X W wr)
  (fun i _=>(intOf i+1).toNat)
 case atStart=>exact⟨0,Nat.zero_le _,zs,h0,fun _ _ _ _ _ h=>h⟩
 case round=>
  obtain⟨k,hk,rfl,hJs,hnx⟩:=hrel;have HJ:=a0a hJs;have HN:=a0a hnx;have aTZ:wr.cell? ⟨Bs,0,V⟩=O (cM g len cap):=by rw[HL.out];exact cellOf (HN.out _ _ _ _ Mf HB.out) J
  clear hJs hnx hBc;by_cases hlt:k<len
  .obtain⟨i,hi⟩:∃ i:Nat,i=len-1-k:=⟨_,J⟩;have hii:((len:Int)-1-k)=(i:Int):=zo;rw[hii];have hcx:wr.cell? ⟨g,i,V⟩=O (pp (bl.getD i 0)):=cellOf (HN.out _ _ _ _ hX2 HG.out) (by grind [Hid.out]);obtain⟨fn,tmps,assign,body,hy,hR⟩:=HY.out _ (i,bl.getD i 0) wr HJ.out (by rw[VP,<- HL.out];exact hlt);have kS:i<len:=zo;have hy2:(Instr.yield l #[zi (i:Int),pp (bl.getD i 0)]).run a9U wr = .ok (.round l fn tmps assign body) wr:=hy;clear hy;have HI:=a0a hi;have HII:=a0a hii;obtain⟨bb,vV⟩:=b9 (bl.getD i 0);rw[<- vV] at hcx hy2;have HBB:=a0a vV;clear hi hii vV
   gi_wp2
   refine hR.mono ?_;rintro e W3 (⟨rfl,hJ3,qK⟩| ⟨rfl,aBn⟩)
   .gi_wp2
    go_roundw
    case rel=>
     refine⟨k+1,zo,?_,?_,HN.out.trans qK⟩
     .have:=HI.out;congr 1;omega
     .have:=HL.out;have e:=HI.out;rw[ajp,<- this,<- e];exact hJ3
    case measure=>simp [intOf]
   .gi_wp2
    refine bodyPost_ret (results_none J _ _ _) J ?_;exact⟨⟨_,J⟩,.inr ⟨_,trivial,aBn⟩⟩
  .obtain rfl:k=len:=zo
   gi_wp2
   go_end0
   exact⟨⟨_,J⟩,.inl ⟨_,J,by rw[<- HL.out];exact HJ.out⟩⟩
def backward(a:Option Addr)(n c:Nat)(w:Z) :
  Calls a9U 162 #[.slice a n c] w fun e w'=>e = ah (.func (.func 175) #[] #[pp w.heap.size])/\w.alloc (ae #[.slice a n c] 83)=w':=by
 have hmf:∀ (fn:Fn) (first cap:Array Y) (w:Z),(Instr.makeFunc fn first cap).run a9U w = .ok (.func fn first cap) w:=fun _ _ _ _=>rfl
 go_enter func162,ntmps162
 go_wp2
 go_ret
 exact⟨J,J⟩
def aBo(F:Fence)(n:Nat)(f:F.fn 175)(h:F.round=V)(i:1<=n)(Bs g cap X:Nat)(bl:List Nat)(k:Bs≠X)(b:g≠X)(hlen:bl.length<=100000)(w:Z)
  (c:w.heap[Bs]?=aN #[cM g bl.length cap] 83) (cur:Array Y) (d:w.heap[g]?=aN cur 106)
  (m:∀ j,j<bl.length->cur[j]?=O (pp (bl.getD j 0))) :
  SeqStopsK F n a9U 175 #[pp Bs] ajq (JJ X) (fun o=>o=Hu bl bl.length) (fun _=>True) bl.length w:=fun l a p W e _ _ q r=>
 aBj F n f h i l Bs g cap X bl k b hlen a p q W (by rw[e.block Bs (bf c)];exact c) cur (by rw[e.block g (bf d)];exact d) m r
end Go.Proofs.YtoegidfbnkaabaaGreatDoor
namespace Go.Proofs.YtoegidfbnkaabaaGreatDoor
open P
open Go.RowKit
variable{F:Nat->Prop}{T:List P.Tok}{cap d f k k' pb tb:Nat}{v:Y}{vars:List P.Bs}{w w0:Z}
def aBp(aa1:RI f){r:cg Ex}(hp:SP w pb tb T k vars d)(hd:d<=8)
  (h:pR T f k vars d=O r):Calls a9U 91 #[pp pb,zi 2] w (jS eG pb tb T d w r):=by
 have H:=a0a hp;have HR:=a0a h;clear hp h
 go_enter func91,ntmps91
 go_wp2_with fail
 refine wp_scope_straight ?_
 go_wp2_with fail
 refine(aa1.go H.out hd HR.out).mono ?_;cases r with
 | err c0 a0=>
  rintro e w4 ⟨⟨b,rfl,eK,gy⟩,dU,gN⟩;exact⟨J,⟨b,J,eK,gy⟩,dU,gN⟩
 | ok x k' vs=>
  rintro e w4 ⟨v,rfl,hv,jt,er⟩;have HV:=a0a hv;have sU:=a0a jt;have sW:=a0a er;clear hv jt er
  go_wp2_with fail
  rw[Exit.noGoto_ret]
  go_ret
  exact⟨v,J,HV.out,sU.out,sW.out⟩
theorem eG.shape{x:Ex}(h:eG F w v x):∃ b,v=pp b/\F b:=by
 cases x with
 | mk kind name n k args=>
  unfold eG at h;obtain⟨b,_,_,a,c,_⟩:=h;exact⟨b,a,c⟩
noncomputable def aBq:Code:=match findLabel (match Tryz.f91.body with | some (.seq _ (.scope c))=>c | _=>.skip) 0 with | some (.seq _ x)=>x | _=>.skip
def OJ(pb tb:Nat)(T:List P.Tok)(lvl d:Nat)(w0:Z)(r:cg Ex)(n:Nat)(a:Act)(w:Z):Prop:=
 ∃ (x:Ex) (k:Nat) (vs:List P.Bs) (v b c e f g u8 h i j l m o p u16 q s t u y z B C D E F H I K L u32 M N Q R S:Y),a={ tmps:=#[pp pb,zi lvl,b,c,e,v,f,g,u8,h,i,j,l,m,o,p,u16,q,s,t,u,y,z,B,C,D,E,F,H,I,K,L,u32,M,N,Q,R,S],defers:=[] } /\
  eG (Nu w0 w) w v x/\SP w pb tb T k vs d/\cY pb w0 w/\qD T n lvl x k vs d=O r
def aBr(hl:cap<2)(xj:∀ m,m<=f->Md m){r:cg Ex}(hd:d<=8)(xw:pb<w0.heap.size)(n:Nat)(hn:n<=f)(a:Act)(w:Z)(hj:OJ pb tb T cap d w0 r n a w) :
  aBq.wp a9U (Exit.jump 0 (fun a' w'=>∃ m,m<n/\OJ pb tb T cap d w0 r m a' w') (bodyPost a9U Tryz.f91 (jS eG pb tb T d w0 r))) a w:=by
 obtain⟨x,k,vs,v,u2,u3,u4,u6,u7,u8,u9,yA,yB,yC,vW,vX,yD,u16,yE,yG,BL,BM,BN,BO,BP,BQ,BR,BT,BU,Dg,Dh,Di,Hv,u32,Hw,AU,EE,F5,F6,rfl,hx,hp,hf,hr⟩:=hj;obtain⟨bx,rfl,jA⟩:=hx.shape;cases n with
 | zero=>grind [qD]
 | succ n=>
 have iV:=hr;rw[qD] at iV;obtain⟨lb,lo,lc,VT,g1,g2⟩:=hp.toks.1.Da cap hl;obtain⟨L,hL⟩:=b9 ((P.ops cap).length);rw[<- hL] at g1 g2;have hL3:L<=3:=by
  grind [P.ops]
 have gl:=hp.toks.1.lt;have glt:=hp.lt;have gpb:=hp.d2.2.2;have HP:=a0a hp;have HX:=a0a hx;have HF:=a0a hf;have HR:=a0a iV;have HG:=a0a g2;have HL:=a0a hL;have Aa:=a0a jA;have gsz:lb<w.heap.size:=zo;have aT6:2<w.heap.size:=zo;clear hp hx hf hr iV g2 hL jA;change Code.wp _ (Code.seq _ _) _ _ _;have aT7:(cap:Int)<2:=zo
 go_wp2_with fail
 go_loop [5,20] (fun q i=>∃ j:Nat,j<=L/\i=zi j/\q=pp bx/\∀ j',j'<j->ep T k ((P.ops cap).getD j' [])=G) (fun _ i=>L-(intOf i).toNat)
 case atStart=>grind
 case round=>
  obtain⟨j,hj,rfl,rfl,lQ⟩:=hrel;have EF:=a0a lQ;clear lQ;by_cases hlt:j<L
  .have ox:=HG.out j hlt;obtain⟨s,hs⟩:=b9 ((P.ops cap).getD j []);rw[<- hs] at ox;have Mg:s.all P.digit=false:=by
    have hL:=HL.out;rw[hs];have h2:cap=0\/cap=1:=zo;rcases h2 with rfl | rfl
    .have:j=0\/j=1:=by grind [P.ops]
     rcases this with rfl | rfl<;>decide
    .have:j=0\/j=1\/j=2:=zo;rcases this with rfl | rfl | rfl<;>decide
   have HS:=a0a hs;have HSD:=a0a Mg;clear hs Mg;by_cases hc:ep T k s=A
   .have HC:=a0a hc;clear hc
    go_wp2_with fail
    refine(uP HP.out s HC.out).mono ?_;rintro e w1 ⟨rfl,dD,fY⟩;have kz:=a0a dD;have iu:=a0a fY;clear dD fY
    go_wp2_with fail
    have e:=HR.out;have hl:=HL.out;rw[Rb,Zq (j:=j) zo (by rw[<- HS.out];exact HC.out) EF.out,<- HS.out] at e;dsimp only at e;have aBs:=iu.out.size;cases hq:jo T n (cap+1) (k+1) vs d with
    | none=>rw[hq] at e;simp [cg.bind] at e
    | some q=>
     rw[hq] at e;refine((xj n zo).go (cap+1) zo kz.out hd hq).mono ?_;cases q with
     | err c0 a0=>
      rintro e2 w4 ⟨⟨b,rfl,eK,gy⟩,dU,gN⟩;simp only[cg.bind,aZ9] at e;subst e;have VU:=HF.out.size;exact⟨J,⟨b,J,eK,zo⟩,(HF.out.trans iu.out).trans dU,gN⟩
     | ok y k' uS=>
      rintro e2 w4 ⟨v,rfl,hv,jt,er⟩;obtain⟨bY,rfl,hbY⟩:=hv.shape;have HV:=a0a hv;have sU:=a0a jt;have sW:=a0a er;have HE:=a0a e;have HBY:=a0a hbY;clear hv jt er e hbY hl hq
      go_wp2_with fail
      refine wp_goto ?_;have pf:=iu.out.size;have AV:=sW.out.size;have jA:=Aa.out;have aBu:=iu.out.trans sW.out;have xo:eG (Nu w0 (((w4.alloc (a0L #[pp bx,pp bY] 106)).alloc (a0L #[.int .u8 99,aM s,zi 0,zi 0,cM w4.heap.size 2 2] 178)))) (((w4.alloc (a0L #[pp bx,pp bY] 106)).alloc (a0L #[.int .u8 99,aM s,zi 0,zi 0,cM w4.heap.size 2 2] 178))) (pp bx) x:=
       eG.mono (by grind [size_alloc]) (by grind [dQ,cY.ll]) _ _ HX.out
      have hyy:eG (Nu w0 (((w4.alloc (a0L #[pp bx,pp bY] 106)).alloc (a0L #[.int .u8 99,aM s,zi 0,zi 0,cM w4.heap.size 2 2] 178)))) (((w4.alloc (a0L #[pp bx,pp bY] 106)).alloc (a0L #[.int .u8 99,aM s,zi 0,zi 0,cM w4.heap.size 2 2] 178))) (pp bY) y:=
       eG.mono (by grind [size_alloc,bz.size,Hid.out]) (by grind [dQ]) _ _ HV.out
      have Mh:=HF.out.size;exact⟨J,n,Nat.lt_succ_self n,.mk 99 s 0 0 [x,y],k',uS,pp (w4.heap.size+1),_,_,_,_,_,_,_,_,_,_,_,_,_,_,_,_,_,_,_,_,_,_,_,_,_,_,_,_,_,_,_,_,_,_,_,J,
       (by grind [aaV,size_alloc,EB,aaW,dQ,blk_alloc_new]),
       (by grind [dQ,SP.ext,Hid.out]),((HF.out.trans aBu).alloc _).alloc _,HE.out⟩
   .have nQ:ep T k s=false:=zg;have HC:=a0a nQ;clear hc nQ
    go_wp2_with fail
    refine(p8 HP.out s HC.out HSD.out).mono ?_;rintro e w1 ⟨rfl,rfl⟩
    go_wp2_with fail
    go_round
    case rel=>exact⟨j+1,zo,by go_num,J,fun j' h'=>by
     rcases Nat.lt_or_ge j' j with h | h
     .exact EF.out j' h
     .obtain rfl:j'=j:=zo;rw[<- HS.out];exact HC.out⟩
    case measure=>grind [intOf]
  .go_wp2_with fail
   rw[asW]
   go_ret
   have e:=HR.out;have hl:=HL.out;rw[Rb,ahK (fun j' h'=>EF.out j' zo)] at e;simp only[aZ9] at e;subst e;exact⟨_,J,HX.out,HP.out,HF.out⟩
def aBv(hl:cap<2)(xj:∀ m,m<=f->Md m){r:cg Ex}(hp:SP w pb tb T k vars d)(hd:d<=8)
  {q:cg Ex} (hq:jo T f (cap+1) k vars d=O q) (hr:cg.bind (O q) (fun x k' vars'=>qD T f cap x k' vars' d)=O r) :
  Calls a9U 91 #[pp pb,zi cap] w (jS eG pb tb T d w r):=by
 have H:=a0a hp;have HR:=a0a hr;have HQ:=a0a hq;have qf:((cap:Int) == 2)=false:=zg;have xw:=hp.d2.2.2;clear hp hr hq
 go_enter func91,ntmps91
 go_wp2_with fail
 have ON:=a0a (aBr (T:=T) (tb:=tb) (r:=r) hl xj hd xw);refine asV 0 (fun n a w'=>n<=f/\OJ pb tb T cap d w r n a w') J ?first ?pass
 case first=>
  intro _
  go_wp2_with fail
  refine((xj f (a0d _)).go (cap+1) zo H.out hd HQ.out).mono ?_;cases q with
  | err c0 a0=>
   rintro e w4 ⟨⟨b,rfl,eK,gy⟩,dU,gN⟩;have e:=HR.out;simp only[cg.bind,aZ9] at e;subst e;exact⟨J,⟨b,J,eK,gy⟩,dU,gN⟩
  | ok x k' vs=>
   rintro e w4 ⟨v,rfl,hv,jt,er⟩;have HV:=a0a hv;have sU:=a0a jt;have sW:=a0a er;clear hv jt er
   go_wp2_with fail
   refine wp_label ?_;rename_i K hK;refine hK _ _ ?_;refine wp_mono (ON.out f zo _ _ ⟨x,k',vs,v,_,_,_,_,_,_,_,_,_,_,_,_,_,_,_,_,_,_,_,_,_,_,_,_,_,_,_,_,_,_,_,_,_,_,_,J,HV.out,sU.out,sW.out,HR.out⟩) fun e a' w' hq=>?_;cases e with
   | goto l'=>obtain⟨e,m,hm,hi⟩:=hq;exact⟨e,m,zo,hi⟩
   | _=>exact hq
 case pass=>
  rintro n a w' ⟨hn,hj⟩;refine wp_seq (wp_skip ?_);refine wp_mono (ON.out n hn _ _ hj) fun e a' w' hq=>?_;grind
def aBw:Md 0:=⟨fun _ _ _ _ h=>by simp [jo] at h⟩
theorem aBx(a:RI f)(i:∀ m,m<=f->Md m):Md (f+1):=by
 refine⟨fun{pb tb T k vars d w r} lvl j e g h=>?_⟩;rw[jo] at h;by_cases b:lvl=2
 .rw[zip b] at h;subst b;exact aBp a e g h
 .rw[bX b] at h;cases c:jo T f (lvl+1) k vars d with
  | none=>rw[c] at h;simp [cg.bind] at h
  | some q=>rw[c] at h;exact aBv zo i e g c h
theorem ajx(xj:Md f):Hs f:=by
 refine⟨fun{pb tb T k vars d w r} hp hd h=>?_⟩;have H:=a0a hp;have HR:=a0a h;clear hp h
 go_enter func60,ntmps60
 go_wp2_with fail
 refine(xj.go 0 zo H.out hd HR.out).mono ?_;cases r with
 | err c0 a0=>
  rintro e w4 ⟨⟨b,rfl,eK,gy⟩,dU,gN⟩;exact⟨J,⟨b,J,eK,gy⟩,dU,gN⟩
 | ok x k' vs=>
  rintro e w4 ⟨v,rfl,hv,jt,er⟩;have HV:=a0a hv;have sU:=a0a jt;have sW:=a0a er;clear hv jt er
  go_wp2_with fail
  go_ret
  exact⟨v,J,HV.out,sU.out,sW.out⟩
namespace P
theorem eh{α β:Type}{r:Option (cg α)}{g:α->Nat->List Bs->Option (cg β)}{b:β}{v:List Bs}
  (h:cg.bind r g=O (.ok b k v)):∃ a c v1,r=O (.ok a c v1)/\g a c v1=O (.ok b k v):=by
 unfold cg.bind at h;grind
theorem nR{α:Type}{T:List Tok}{s:Bs}{x y:α}{v v':List Bs}(h:mZ T s x k v=O (.ok y k' v')):k'=k+1/\y=x/\v'=v:=by
 grind [mZ,aZ9,cg.ok.injEq]
theorem ajy{t:Tok}{v v':List Bs}{x:Ex}(h:zI t k v = .ok x k' v'):k'=k:=by
 grind [zI]
structure aBy(T:List Tok)(f:Nat):Prop where
 EG:∀ k v d x k' v',pR T f k v d=O (.ok x k' v')->k<k'
 args:∀ k v d a acc x k' v',oX T f k v d a acc=O (.ok x k' v')->k<k'
 list:∀ k v d x k' v',rf T f k v d=O (.ok x k' v')->k<k'
 elems:∀ k v d acc x k' v',rS T f k v d acc=O (.ok x k' v')->k<k'
 oper:∀ l k v d x k' v',jo T f l k v d=O (.ok x k' v')->k<k'
 more:∀ l y k v d x k' v',qD T f l y k v d=O (.ok x k' v')->k<=k'
theorem mono(T:List Tok):∀ f,aBy T f
 | 0=>⟨by simp_all [pR],by simp_all [oX],by simp_all [rf],by simp_all [rS],by simp_all [jo],by simp_all [qD]⟩
 | f+1=>by
  have ih:=mono T f;refine⟨?_,?_,?_,?_,?_,?_⟩
  .intro k v d x k' v' h;rw[pR] at h;split at h
   .grind
   split at h
   .grind
   split at h
   .grind [aZ9,ajy]
   split at h
   .split at h
    .obtain⟨a,e,v1,c,b⟩:=eh h;have:=ih.args _ _ _ _ _ _ _ _ c;grind [nR]
    grind
   split at h
   .grind
   split at h
   .obtain⟨a,e,v1,c,b⟩:=eh h;have:=ih.oper _ _ _ _ _ _ _ c;grind [nR]
   split at h
   .have:=ih.list _ _ _ _ _ _ h;omega
   grind
  .intro k v d a acc x k' v' h;rw[oX] at h;obtain⟨y,e,v1,c,b⟩:=eh h;have:=ih.oper _ _ _ _ _ _ _ c;split at b
   .have:=ih.args _ _ _ _ _ _ _ _ b;omega
   grind
  .intro k v d x k' v' h;rw[rf] at h;split at h
   .grind
   .obtain⟨y,e,v1,c,b⟩:=eh h;have:=ih.elems _ _ _ _ _ _ _ c;split at b
    .obtain⟨z,i,v2,g,j⟩:=eh b;have:=ih.oper _ _ _ _ _ _ _ g;grind [nR]
    grind [nR]
  .intro k v d acc x k' v' h;rw[rS] at h;obtain⟨y,e,v1,c,b⟩:=eh h;have:=ih.oper _ _ _ _ _ _ _ c;split at b
   .have:=ih.elems _ _ _ _ _ _ _ b;omega
   grind
  .intro l k v d x k' v' h;rw[jo] at h;split at h
   .exact ih.EG _ _ _ _ _ _ h
   .obtain⟨y,e,v1,c,b⟩:=eh h;have:=ih.oper _ _ _ _ _ _ _ c;have:=ih.more _ _ _ _ _ _ _ _ b;omega
  .intro l y k v d x k' v' h;rw[qD] at h;split at h
   .grind
   .obtain⟨z,e,v1,c,b⟩:=eh h;have:=ih.oper _ _ _ _ _ _ _ c;have:=ih.more _ _ _ _ _ _ _ _ b;omega
end P
def AJ(pb tb:Nat)(T:List P.Tok)(d at_:Nat)(w0:Z)(r:cg (List Ex))(n:Nat)(a:Act)(w:Z):Prop:=
 ∃ (acc:List Ex) (k:Nat) (vs:List P.Bs) (xs:List Y) (sl c e f g h u8 i j l m o p q u16 s t:Y),a={ tmps:=#[pp pb,zi at_,c,e,sl,f,g,h,u8,i,j,l,m,o,p,q,u16,s,t],defers:=[] } /\
  w.ownsRow w0.heap.size 106 1 sl acc.length xs/\eH (fun b=>Nu w0 w b/\sl.ownBlock≠O b) w xs acc/\SP w pb tb T k vs d/\cY pb w0 w/\acc.length<=k /\
  oX T n k vs d at_ acc=O r
def aBA(Dk:∀ m,m<f->Hs m){r:cg (List Ex)}(at_:Nat)(oJ:SP w0 pb tb T k vars d)(hd:d<=8)
  (h:oX T f k vars d at_ []=O r):Calls a9U 50 #[pp pb,zi at_] w0 (jS ln pb tb T d w0 r):=by
 have H:=a0a oJ;have HR:=a0a h;have xw:=oJ.d2.2.2;have hT:=oJ.tw.len;obtain⟨i0,hi,JM,JO,JP⟩:=info_parts ajn;clear oJ h
 go_enter func50,ntmps50
 go_wp2_with fail
 refine wp_loop_ghost (fun n a w=>n<=f/\AJ pb tb T d at_ w0 r n a w) ⟨f,a0d _,[],k,vars,[],bH,_,_,_,_,_,_,_,_,_,_,_,_,_,_,_,_,J,World.ownsRow_nil _ _ _ _,by unfold eH;rfl,H.out,bz.refl _ _,Nat.zero_le _,HR.out⟩ ?_;rintro n a w ⟨Zm,acc,k,vs,xs,sl,u2,u3,u5,u6,u7,u8,u9,yA,yB,yC,vW,vX,yD,u16,yE,yG,rfl,dR,lu,hp,hf,VV,hr⟩;cases n with
 | zero=>grind [oX]
 | succ n=>
 rw[oX] at hr;have F7:=hp.kt;have hz:=hf.size;have HO:=a0a dR;have HX:=a0a lu;have HP:=a0a hp;have HF:=a0a hf;have Ab:=a0a hr;clear dR lu hp hf hr H HR
 go_wp2_with fail
 cases hq:jo T n 0 k vs d with
 | none=>have e:=Ab.out;rw[hq] at e;simp [cg.bind] at e
 | some q=>
 have e:=Ab.out;rw[hq] at e;refine((Dk n zo).go HP.out hd hq).mono ?_;cases q with
 | err c0 a0=>
  rintro e2 w4 ⟨⟨b,rfl,eK,gy⟩,dU,gN⟩;simp only[cg.bind,aZ9] at e;subst e;exact⟨J,⟨b,J,eK,zo⟩,HF.out.trans dU,gN⟩
 | ok x k' uS=>
  rintro e2 w1 ⟨v,rfl,hv,dD,fY⟩;obtain⟨bx,rfl,jA⟩:=hv.shape;have nA:=(P.mono T n).oper _ _ _ _ _ _ _ hq;have jU:=dD.kt;have pf:=fY.size;have aT9:=dD.d2.2.2;have xx:w1.ownsRow w0.heap.size 106 1 sl acc.length xs:=by
   obtain⟨g1,g2 | ⟨g,cp,cur,e1,e2,e3,e4⟩⟩:=HO.out
   .exact⟨g1,.inl g2⟩
   .exact⟨g1,.inr ⟨g,cp,cur,e1,e2,cY.ll fY ⟨zg,J⟩ e3 zo,e4⟩⟩
  have JQ:eH (fun b=>Nu w0 w1 b/\sl.ownBlock≠O b) w1 xs acc:=
   eH.mono zg (by grind [cY.ll]) _ _ HX.out
  have uT:=a0a xx;have lU:=a0a JQ;have HV:=a0a hv;have kz:=a0a dD;have iu:=a0a (HF.out.trans fY);have HE:=a0a e;have Aa:=a0a jA;have HK:=a0a nA;clear hv dD fY xx JQ e hq jA
  go_wp2_with (at_builtin;go_must (refine Rd J _ _ 83 J w0.heap.size 106 i0 _ 1 8 underlying83 hi JM JO JP J zo _ _ _ J (uT.out.alloc _) ⟨w1.heap.size,0,V⟩ 1 1 [pp bx] J J (Ot J) (by simp [Value.oneCell']) (by grind [maxLen]) zo (by simp;omega) ?_;intro v' w2 rV yI AW;obtain⟨g',rk,rfl⟩:=LP rV;have F8:=a0a rV;have tU:=a0a yI;have RO:=a0a AW;clear rV yI AW))
  have fy:SP w2 pb tb T k' uS d:=(kz.out.ext fun b o h=>dQ (o:=a0L #[a0U (O ⟨bx,0,V⟩)] 106) h).OK (uT.out.alloc _) zg zo tU.out;have eU:cY pb w0 w2:=(iu.out.alloc _).OL tU.out fun k hk=>(uT.out.lt k hk).1;have jv:=tU.out.size;rw[size_alloc] at jv;have OO:∀ (b:Nat) (o:Obj),w1.heap[b]?=O o->sl.ownBlock≠O b->w2.heap[b]?=O o:=fun b o h dZ=>by
   have h':=dQ (o:=a0L #[a0U (O ⟨bx,0,V⟩)] 106) h;rw[tU.out.block b (bf h') (fun e=>dZ e.symm)];omega
  have oK:∀ b,b<w1.heap.size->sl.ownBlock≠O b->(a0m (O ⟨g',0,V⟩) (acc.length+1) rk).ownBlock≠O b:=fun b hb dZ=>by
   rcases RO.out with h | h
   .rw[h];exact dZ
   grind [size_alloc]
  have hbn:∀ b,Nu w w1 b->sl.ownBlock≠O b:=fun b hb e=>by
   have:=(HO.out.lt b e).2;omega
  have ajz:eH (fun b=>Nu w0 w2 b/\(a0m (O ⟨g',0,V⟩) (acc.length+1) rk).ownBlock≠O b) w2 (xs++[pp bx]) (acc++[x]):=
   eH.snoc (eG.mono zg zg _ _ HV.out)
    (eH.mono zg zg _ _ lU.out)
  have iQ:=a0a fy;have fK:=a0a eU;have RP:=a0a ajz;clear fy eU OO oK hbn ajz;have e:=HE.out;simp only[cg.bind] at e;by_cases hc:ep T k' [44]=A
  .rw[zip hc] at e;refine(uP iQ.out [44] hc).mono ?_;rintro e2 w3 ⟨rfl,gK,dU⟩;have tV:=a0a gK;have nT:=a0a dU;have F9:=a0a e;clear gK dU e hc
   go_wp2_with fail
   have EH:=nT.out.size;have jV:=iQ.out.d2.2.2;have Mi:w3.ownsRow w0.heap.size 106 1 (cM g' (acc.length+1) rk) (acc.length+1) (xs++[pp bx]):=by
    obtain⟨g1,g2 | ⟨g,cp,cur,e1,e2,e3,e4⟩⟩:=F8.out
    .omega
    .exact⟨g1,.inr ⟨g,cp,cur,e1,e2,cY.ll nT.out ⟨zg,J⟩ e3 zo,e4⟩⟩
   exact⟨n,Nat.lt_succ_self n,zo,acc++[x],k'+1,uS,_,_,_,_,_,_,_,_,_,_,_,_,_,_,_,_,_,_,J,zg,
    eH.mono zg (by grind [cY.ll,Hid.out]) _ _ RP.out,
    tV.out,fK.out.trans nT.out,zg,F9.out⟩
  .rw[bX hc] at e;refine(p8 iQ.out [44] zg zd).mono ?_;rintro e2 w3 ⟨rfl,rfl⟩;have F9:=a0a e;clear e hc;have hl5:(acc++[x]).length=acc.length+1:=zs;have jV:=iQ.out.d2.2.2;by_cases h4:acc.length+1<=4
   .go_wp2_with fail
    go_ret
    have e:=F9.out;rw[bX (by grind [Vl])] at e;simp only[aZ9] at e;subst e;exact⟨_,J,⟨_,EC F8.out fun b hb=>⟨(F8.out.lt b hb).1,(F8.out.lt b hb).2⟩,eH.mono zg zg _ _ RP.out⟩,iQ.out,fK.out⟩
   .have h4':4<acc.length+1:=zo
    go_wp2_with fail
    refine(BI _ _ _ pb iQ.out.sb).mono ?_;rintro e2 w4 ⟨⟨b,rfl,eK,gy⟩,dU,gN⟩;have e:=F9.out;rw[zip (by grind [Vl])] at e;simp only[aZ9] at e;subst e;exact⟨J,⟨b,J,eK,zo⟩,fK.out.trans dU,gN⟩
def aBB:OI 0:=⟨fun _ _ _ h=>by simp [oX] at h⟩
def aBC(a:∀ m,m<f->Hs m):OI f:=⟨fun at_ b c h=>aBA a at_ b c h⟩
