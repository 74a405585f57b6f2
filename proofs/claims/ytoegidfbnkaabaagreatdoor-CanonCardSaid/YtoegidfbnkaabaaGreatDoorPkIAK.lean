/- A part of one proof (PureF, SX3, SX4, ShS2, SX5, PX1, PureTx, GBase2, SX6, PX2). -/
import Derived.Test.YtoegidfbnkaabaaGreatDoorPkIAJ
import Derived.Recover
import Derived.Tactics
import Derived.Tactics2
set_option linter.all false
set_option maxRecDepth 100000
set_option maxHeartbeats 8000000
open Option renaming some → O, none → V
open Go renaming Value → Y, World → Z
open Bool renaming true → A, false → G
open Go.Obj renaming cells → ae
open Go.Ending renaming returned → ah
open Go.Value renaming nilIface → ai, iface → aj, tuple → ak, pointer → aq
open Option.some renaming injEq → a07, inj → a1b
open Go.Instr renaming loadAt → a1p
open Go.World renaming ownsRow_nil → a1A, cell? → a1M
open Nat renaming lt_of_lt_of_le → a1G
open Go.Exit renaming thenS → a1P
open Go.Proofs.Tryz renaming prog → bbh
open Go.Proofs.Tryz
namespace Go.Proofs.YtoegidfbnkaabaaGreatDoor
open P
variable{B B' b base c cap d e f k k' mb n o pb so tb:Nat}{F:Nat->Prop}{R:Ending->Z->Prop}{T:List P.Tok}{W w' w1 w2 w3:Z}{X:Y->Z->Prop}{av o4 o5 tv u v vv:Y}{cs iL:Array Y}{res:Z->Prop}{vars:List Bs}{xs:List Y}
namespace P
def NT{T:List Tok}(h:(tk T k).kind≠0):k<T.length:=by
 grind [Nat.lt_or_ge,absurd,tk,List.getElem?_eq_none]
def yh{T:List Tok}{s:Bs}(h:dQ T k s=A):k<T.length:=by
 refine NT fun a=>?_;simp_all [dQ]
def bind_some{α β:Type}{r:Option (cd α)}{g:α->Nat->List Bs->Option (cd β)}(h:∃ q,r=O q)(b:∀ a k v,r=O (.ok a k v)->∃ q,g a k v=O q):∃ q,cd.bind r g=O q:=by
 obtain⟨q,rfl⟩:=h;cases q with
 | err e a=>exact⟨_,J⟩
 | ok a k v=>exact b a k v J
def K0{α:Type}(T:List Tok)(s:Bs)(x:α)(k:Nat)(v:List Bs):∃ q,mj T s x k v=O q:=by
 unfold mj;split<;>exact⟨_,J⟩
def aGv{T:List Tok}{v v':List Bs}{x:Ex}(h:lC T f k v d=O (.ok x k' v')):k<T.length:=by
 cases f with
 | zero=>simp_all [lC]
 | succ f=>
  refine NT fun a=>?_;grind [dQ,lC]
def P6{T:List Tok}:∀ {f l k:Nat} {v v':List Bs} {d k':Nat} {x:Ex},gW T f l k v d=O (.ok x k' v')->k<T.length
 | 0,_,_,_,_,_,_,_,h=>by simp_all [gW]
 | f+1,l,k,v,v',d,k',x,h=>by
  rw[gW] at h;split at h
  .exact aGv h
  .obtain⟨a,c,v1,b,_⟩:=ee h;exact P6 b
def aGw{T:List Tok}{l:Nat}{o:Bs}(h:pz T l k=O o):k<T.length:=yh (List.find?_some h)
structure Tot(T:List Tok)(f:Nat):Prop where
 Bx:∀ k v d,16*(T.length-k)+1<=f->∃ r,lC T f k v d=O r
 args:∀ k v d a acc,16*(T.length-k)+5<=f->∃ r,mR T f k v d a acc=O r
 list:∀ k v d,16*(T.length-k)+6<=f->∃ r,oq T f k v d=O r
 elems:∀ k v d acc,16*(T.length-k)+5<=f->∃ r,oT T f k v d acc=O r
 oper:∀ l k v d,l<=2->16*(T.length-k)+(4-l)<=f->∃ r,gW T f l k v d=O r
 more:∀ l y k v d,l<=1->16*(T.length-k)+1<=f->∃ r,mS T f l y k v d=O r
def tot(T:List Tok):∀ f,Tot T f
 | 0=>⟨fun _ _ _ h=>zo,fun _ _ _ _ _ h=>zo,fun _ _ _ h=>zo,fun _ _ _ _ h=>zo,fun _ _ _ _ _ h=>zo,fun _ _ _ _ _ _ h=>zo⟩
 | f+1=>by
  have ih:=tot T f;have b:=mono T f;refine⟨?_,?_,?_,?_,?_,?_⟩
  .intro k v d c;rw[lC];split
   .grind
   split
   .grind
   split
   .grind
   split
   .split
    .rename_i h;have:=yh h;exact bind_some (ih.args _ _ _ _ _ zo) fun _ _ _ _=>K0 _ _ _ _ _
    grind
   split
   .split<;>exact⟨_,J⟩
   split
   .rename_i h;have:=yh h;exact bind_some (ih.oper 0 _ _ _ zo zo) fun _ _ _ _=>K0 _ _ _ _ _
   split
   .rename_i h;have:=yh h;exact ih.list _ _ _ zo
   grind
  .intro k v d a acc c;rw[mR];refine bind_some (ih.oper 0 _ _ _ zo zo) fun x k' v' h=>?_;have g:=P6 h;have e:=b.oper _ _ _ _ _ _ _ h;split
   .exact ih.args _ _ _ _ _ zo
   .split<;>exact⟨_,J⟩
  .intro k v d c;rw[oq];split
   .grind
   .refine bind_some (ih.elems _ _ _ _ zo) fun x k' v' h=>?_;have e:=b.elems _ _ _ _ _ _ _ h;split
    .rename_i j;have:=yh j;exact bind_some (ih.oper 0 _ _ _ zo zo) fun _ _ _ _=>K0 _ _ _ _ _
    simp_all [K0]
  .intro k v d acc c;rw[oT];refine bind_some (ih.oper 0 _ _ _ zo zo) fun x k' v' h=>?_;have g:=P6 h;have e:=b.oper _ _ _ _ _ _ _ h;split
   .exact ih.elems _ _ _ _ zo
   grind
  .intro l k v d i c;rw[gW];split
   .exact ih.Bx _ _ _ zo
   .refine bind_some (ih.oper _ _ _ _ zo zo) fun x k' v' h=>?_;have g:=P6 h;have e:=b.oper _ _ _ _ _ _ _ h;exact ih.more _ _ _ _ _ zo zo
  .intro l y k v d i c;rw[mS];split
   .grind
   .rename_i o m;have n:=aGw m;refine bind_some (ih.oper _ _ _ _ zo zo) fun x k' v' h=>?_;have e:=b.oper _ _ _ _ _ _ _ h;exact ih.more _ _ _ _ _ i zo
def aGy{T:List Tok}{v v':List Bs}{x:Bd}(h:nQ T f k v d=O (.ok x k' v')):k<T.length:=by
 cases f with
 | zero=>simp_all [nQ]
 | succ f=>
  rw[nQ] at h;split at h
  .grind
  split at h
  .rename_i b;exact yh b
  split at h
  .rename_i b;exact yh b
  split at h
  .rename_i b;exact yh b
  .obtain⟨a,e,v1,c,_⟩:=ee h;exact P6 c
structure aGz(T:List Tok)(f:Nat):Prop where
 lit:∀ k v d,16*(T.length-k)+5<=f->∃ r,nQ T f k v d=O r
 lits:∀ k v d acc,16*(T.length-k)+6<=f->∃ r,qF T f k v d acc=O r
 row:∀ k v d,16*(T.length-k)+7<=f->∃ r,ot T f k v d=O r
 rest:∀ k v d,16*(T.length-k)+9<=f->∃ r,qG T f k v d=O r
 body:∀ k v d,16*(T.length-k)+8<=f->∃ r,mT T f k v d=O r
def totB(T:List Tok):∀ f,aGz T f
 | 0=>⟨fun _ _ _ h=>zo,fun _ _ _ _ h=>zo,fun _ _ _ h=>zo,fun _ _ _ h=>zo,fun _ _ _ h=>zo⟩
 | f+1=>by
  have ih:=totB T f;have it:=tot T f;have g:=mono T f;have mb:=Tc T f;refine⟨?_,?_,?_,?_,?_⟩
  .intro k v d a;rw[nQ];split
   .grind
   split
   .grind
   split
   .rename_i h;have:=yh h;exact bind_some (ih.lit _ _ _ zo) fun _ _ _ _=>⟨_,J⟩
   split
   .rename_i h;have:=yh h;exact bind_some (ih.body _ _ _ zo) fun _ _ _ _=>K0 _ _ _ _ _
   .refine bind_some (it.oper 0 _ _ _ zo zo) fun x k' v' h=>?_;have c:=g.oper _ _ _ _ _ _ _ h;have e:=P6 h;split
    .exact bind_some (it.oper 0 _ _ _ zo zo) fun _ _ _ _=>⟨_,J⟩
    .repeat' split<;>simp_all
  .intro k v d acc a;rw[qF];refine bind_some (ih.lit _ _ _ zo) fun x k' v' h=>?_;have e:=aGy h;have c:=mb.lit _ _ _ _ _ _ h;split
   .exact ih.lits _ _ _ _ zo
   grind
  .intro k v d a;rw[ot];exact bind_some (ih.lits _ _ _ _ zo) fun _ _ _ _=>⟨_,J⟩
  .intro k v d a;rw[qG];split
   .grind
   .exact ih.body _ _ _ zo
  .intro k v d a;rw[mT];refine bind_some (ih.row _ _ _ zo) fun x k' v' h=>?_;have c:=mb.row _ _ _ _ _ _ h;split
   .rename_i i;have e:=yh i;refine bind_some (ih.row _ _ _ zo) fun x m v2 j=>?_;have n:=mb.row _ _ _ _ _ _ j;split
    .rename_i b;have l:=yh b;exact bind_some (ih.rest _ _ _ zo) fun _ _ _ _=>⟨_,J⟩
    grind
   .split
    .rename_i b;have l:=yh b;exact bind_some (ih.rest _ _ _ zo) fun _ _ _ _=>⟨_,J⟩
    grind
def rY(T:List Tok):Nat:=16*T.length+20
def al6(T:List Tok)(name:Bs)(args:List Ex)(a k:Nat)(v:List Bs):∃ r,Kj T (rY T) name args a k v=O r:=by
 unfold Kj rY;split
 .grind
 split
 .exact bind_some ((totB T _).body _ _ _ zo) fun _ _ _ _=>K0 _ _ _ _ _
 simp_all [K0]
def aGA(T:List Tok)(k:Nat):∃ r,E8 T (rY T) k=O r:=by
 unfold E8;split
 .split
  .refine bind_some ((tot T _).args _ _ _ _ _ (by grind [rY])) fun l k' v' h=>?_;simp_all [bind_some,K0,al6]
  simp_all [al6]
 grind
def al7{T:List Tok}{name:Bs}{args:List Ex}{a:Nat}{v:List Bs}{c:Cl}{v':List Bs}(h:Kj T f name args a k v=O (.ok c k' v')):k<k'/\c.vars=v':=by
 unfold Kj at h;split at h
 .grind
 split at h
 .obtain⟨b,g,v1,d,e⟩:=ee h;obtain⟨i,j,l⟩:=mV e;have:=(Tc T f).body _ _ _ _ _ _ d;grind
 grind [mV]
def aGB{T:List Tok}{c:Cl}{v':List Bs}(h:E8 T f k=O (.ok c k' v')):k<k'/\k<T.length:=by
 unfold E8 at h;split at h
 .rename_i hk;have g:k<T.length:=NT zo;split at h
  .obtain⟨l,i,v1,a,b⟩:=ee h;obtain⟨j,m,v2,d,e⟩:=ee b;have n:=(mono T f).args _ _ _ _ _ _ _ _ a;obtain⟨o,_,_⟩:=mV d;have:=(al7 e).1;omega
  .have:=(al7 h).1;omega
 grind
def Fv(T:List Tok):Nat->Nat->List Cl->Option (cd (List Cl))
 | 0,_,_=>V
 | f+1,k,acc=>
  if (tk T k).kind=0 then O (.ok acc k [])
  else if acc.length=40 then O (.err 4 (tk T k).pos)
  else cd.bind (E8 T (rY T) k) fun c k' _=>Fv T f k' (acc++[c])
def al8{T:List Tok}:∀ (f k:Nat) (acc:List Cl),T.length-k<f->∃ r,Fv T f k acc=O r
 | 0,_,_,h=>zo
 | f+1,k,acc,h=>by
  rw[Fv];split
  .grind
  split
  .grind
  .refine bind_some (aGA _ _) fun c k' v' a=>?_;have b:=aGB a;exact al8 f k' _ zo
def I2(T:List Tok):cd (List Cl):=(Fv T (T.length+1) 0 []).getD (.err 0 0)
def al9(T:List Tok):Fv T (T.length+1) 0 []=O (I2 T):=by
 obtain⟨r,hr⟩:=al8 (T:=T) (T.length+1) 0 [] zo;simp_all [I2]
end P
open Go.RowKit Sx
def Fw(F:Nat->Prop)(w:Z)(v:Y)(c:Cl):Prop:=∃ b av bv a d,v=pp b/\F b /\
 w.heap[b]?=aN #[aT c.name,av,bv,.slice a c.vars.length d] 86/\lH F w av c.args/\dP F w bv c.body
def kE(F:Nat->Prop)(w:Z)(vs:List Y):List Cl->Prop
 | []=>vs=[]
 | x::xs=>∃ v r,vs=v::r/\Fw F w v x/\kE F w r xs
def CK(F:Nat->Prop)(w w':Z):Prop:=∀ b cs t,F b->t≠9->w.heap[b]?=aN cs t->w'.heap[b]?=aN cs t
theorem CK.lG{w:Z}(h:CK F w w'):∀ b o,F b->DR o->w.heap[b]?=O o->w'.heap[b]?=O o:=by
 intro b o c a d;cases o with
 | cells cs t z=>
  obtain⟨e,rfl⟩:=a;refine h b cs t c ?_ d;grind
 | _=>exact a.elim
theorem Fw.mono{F F':Nat->Prop}{w w':Z}{v:Y}{c:Cl}(a:∀ b,F b->F' b)(hw:CK F w w')(h:Fw F w v c):Fw F' w' v c:=by
 obtain⟨b,av,bv,e,f,g,d,i,j,k⟩:=h;exact⟨b,av,bv,e,f,g,a b d,hw b _ _ d zg i,j.mono a hw.lG,dP.mono a hw.lG _ _ k⟩
theorem kE.mono{F F':Nat->Prop}{w w':Z}(a:∀ b,F b->F' b)(hw:CK F w w'):∀ (xs:List Cl) (vs:List Y),kE F w vs xs->kE F' w' vs xs
 | [],vs,h=>h
 | x::xs,vs,h=>by
  obtain⟨v,r,c,d,e⟩:=h;exact⟨v,r,c,d.mono a hw,kE.mono a hw xs r e⟩
def kE.snoc{F:Nat->Prop}{w:Z}{v:Y}{x:Cl}(hx:Fw F w v x):∀ {xs:List Cl} {vs:List Y},kE F w vs xs->kE F w (vs++[v]) (xs++[x])
 | [],vs,h=>by
  have h:vs=[]:=h;subst h;exact⟨v,[],J,hx,J⟩
 | y::c,vs,h=>by
  obtain⟨u,r,rfl,a,b⟩:=h;exact⟨u,r++[v],J,a,kE.snoc hx b⟩
theorem dc.ama{w:Z}(h:dc pb w w')(a:∀ b,F b->b≠pb):CK F w w':=fun b _ _ c ht d=>(by grind [bK])
def SP.x{w:Z}(h:SP w pb tb T k vars d):∃ cap e f cs,
  w.heap[pb]?=aN #[.slice (O ⟨tb,k*3,V⟩) (T.length-k) (cap-k),.slice e vars.length f,zi d] 145/\T.length<=cap/\cap<=9223372036854775807/\T.length<=2001/\k<T.length /\
  w.heap[tb]?=aN cs 142/\k*3+3<=cs.size/\(cs.toList.drop (k*3)).take 3=[zi (tk T k).kind,aT ((tk T k).text),zi (tk T k).pos] /\
  cs[k*3]?=O (zi (tk T k).kind)/\cs[k*3+1]?=O (aT ((tk T k).text))/\cs[k*3+2]?=O (zi (tk T k).pos):=by
 obtain⟨tw,lt,kt,nv,⟨-,cs,t1,t2⟩,cap,vv,g,i,j,l⟩:=h;obtain⟨a,b,c⟩:=t2 k kt;obtain⟨e,f,rfl⟩:=il l;have m:=(Array.getElem?_eq_some_iff.1 c).1;refine⟨cap,e,f,cs,j,g,i,tw.len,kt,t1,zo,?_,a,b,c⟩;apply List.ext_getElem?;grind
def SP.acW{w:Z}{x:Nat}{t:TypeId}{z:Nat×Nat}{o:Obj}(h:SP w pb tb T k vars d)
  (hx:w.heap[x]?=O (ae cs t z)) (ht:t≠9) (a:x≠pb) (b:tb<x):SP (bS w x o) pb tb T k vars d:=
 (by grind [jr,other])
def SP.acX{w:Z}(h:SP w pb tb T k vars d)(a:Ext w w'):SP w' pb tb T k vars d:=h.ext a.ext
def SP.aGC{w:Z}(h:SP w pb tb T k vars d)
  (c:w.heap[pb]?=aN #[.slice (O ⟨tb,k*3,V⟩) (T.length-k) (cap-k),vv,zi d] 145) (a:T.length<=cap) (b:cap<=9223372036854775807) :
  SP (bS w pb (ae #[.slice (O ⟨tb,k*3,V⟩) (T.length-k) (cap-k),bX,zi d] 145)) pb tb T k [] d:=by
 obtain⟨tw,lt,kt,nv,⟨e,cs,t1,t2⟩,_⟩:=h;refine⟨tw,lt,kt,zs,⟨(by grind [jr,Av.ext]),cs,yH,t2⟩,cap,bX,a,b,yH,a1A _ _ _ _⟩
theorem SP.onU{w:Z}(h:SP w pb tb T k vars d)
  (f:w.heap[pb]?=aN #[.slice (O ⟨tb,k*3,V⟩) (T.length-k) (cap-k),vv,zi d] 145) (hk:k+1<T.length) (a:k'=T.length-(k+1)) (b:so=cap-(k+1)) (c:mb=(k+1)*3) :
  SP (bS w pb (ae #[.slice (O ⟨tb,mb,V⟩) k' so,vv,zi d] 145)) pb tb T (k+1) vars d:=by
 subst a b c;refine h.set hk ((bB.refl _ _).bS (.inl fun _=>.inl J)) (fun g e i=>?_) yH;exact yH
def amb(pb:Nat)(w:Z)(r:cd (List Cl))(e:Ending)(w':Z):Prop:=
 dc pb w w'/\match r with
 | .err c a=>nA c a w w' e
 | .ok cs _ _=>∃ v vs,e = ah v/\fJ (Nu w w') w' 79 v vs/\kE (Nu w w') w' vs cs
def Xo(B:Nat)(w1:Z)(v:Y)(acc:List Cl):Prop:=
 ∃ xs,w1.ownsRow B 79 1 v acc.length xs/\kE (fun b=>B<=b/\b<w1.heap.size/\O b≠v.ownBlock) w1 xs acc
def aGF:(Tryz.prog.info? 79).map (fun i=>(i.zero,i.size,i.bytes))=O (O (aq V),1,8):=zk
def acY{w:Z}(d:w.ownsRow base 79 1 v n xs){m:Nat}{a:Y}
  (f:w.heap[b]?=aN #[a] 79) (q:a.oneCell'=A)
  (r:n<=100000) (g:base<=w.heap.size) {K:Y->Z->Prop}
  (h:∀ v' w',w'.ownsRow base 79 1 v' (n+1) (xs++[a])->w.grownBy w' v.ownBlock->(v'.ownBlock=v.ownBlock\/∀ k,v'.ownBlock=O k->w.heap.size<=k)->K v' w') :
  WR bbh (Builtin.append_ #[68,68] 68 #[v,cV b 1 m]) w K X:=by
 obtain⟨i,j,c⟩:=Option.map_eq_some_iff.1 aGF;simp only[Prod.mk.injEq] at c;obtain⟨l,o,p⟩:=c;refine ako (m:=1) (t:=68) (e:=79) zk j l o p J zo d f J (fun u hu=>?_) zo zo g h;grind
theorem acZ{l:Nat}(h:¬ cap=l):sliced (O ⟨b,o,V⟩) l pb cap n = .slice (O ⟨b,o+l*n,V⟩) (pb-l) (cap-l):=by
 unfold sliced;rw[bI h];simp [addr_add]
theorem amc{w:Z}(h:dc pb w w'){size:Nat}(hu:w.ownsRow base e size v n xs)(d:pb<base)(he:e≠9):w'.ownsRow base e size v n xs:=by
 obtain⟨a,hu⟩:=hu;refine⟨a,?_⟩;rcases hu with hu | ⟨g,cap,cur,rfl,b,f,c⟩
 .exact yH
 .exact .inr ⟨g,cap,cur,J,b,(by grind [dc.bK]),c⟩
def aGG{w:Z}{size:Nat}{a:List Y}(h:w.ownsRow base e size v n xs)(b:w.ownsRow base e size v n a):xs=a:=by
 rcases h.2 with⟨c,d⟩| ⟨g1,o,f,c,_,g2,_,_,_,g3⟩
 .have g:=h.1;have i:=b.1;rw[d] at g i;grind
 .rcases b.2 with⟨j,_⟩| ⟨p,k,l,j,_,q,_,_,_,m⟩<;>grind
def Xo.more{acc:List Cl}{x:Cl}(h:Xo B w1 v acc)(j:dc pb w1 w2)(y:pb<B)(hx:Fw (Nu w1 w2) w2 u x)(l:B<=w1.heap.size)
  (f:Ext w2 w3) (m:w3.ownsRow B 79 1 v acc.length xs) (n:W.ownsRow B 79 1 tv (acc.length+1) (xs++[u]))
  (o:w3.grownBy W v.ownBlock) (hv:tv.ownBlock=v.ownBlock\/∀ k,tv.ownBlock=O k->w3.heap.size<=k):Xo B W tv (acc++[x]):=by
 obtain⟨a,o1,o2⟩:=h;have p:=j.size;have q:=f.size;have r:=o.size;have s:w3.ownsRow B 79 1 v acc.length a:=jY f.ext (by grind [amc]);have e:a=xs:=aGG s m;subst e;have lt:∀ k,v.ownBlock=O k->k<w1.heap.size:=fun k hk=>(o1.lt k hk).2;have c:∀ b t cs,O b≠v.ownBlock->b<w3.heap.size->w3.heap[b]?=aN cs t->W.heap[b]?=aN cs t:=
  (by grind [World.grownBy.block])
 have nv:∀ b,b<w3.heap.size->O b≠v.ownBlock->O b≠tv.ownBlock:=yH;refine⟨_,by rw[List.length_append];exact n,kE.snoc ?_ ?_⟩
 .refine hx.mono yH (fun b cs t g ht i=>?_);have d:=f.ext _ _ i;exact c b _ cs (fun e=>by have:=lt b e.symm;have:=g.1;omega) (bh d) d
 .refine kE.mono (F:=fun b=>B<=b/\b<w1.heap.size/\O b≠v.ownBlock) yH (fun b cs t g ht i=>?_) _ _ o2;have w:=j.bK i (by have:=g.1;omega) ht;have d:=f.ext _ _ w;exact c b _ cs g.2.2 (bh d) d
structure G8(pb tb:Nat)(T:List P.Tok)(B:Nat)(w:Z)(q3 q:Nat)(nm:Bs)(r:cd Cl)(cont:List Ex->Bd->Nat->List Bs->Option (cd Cl))(w':Z):Prop where
 fr:dc pb w w'
 t3:∃ kd ps,w'.heap[q3]?=aN #[zi kd,aT nm,zi ps] 142
 st:∃ av bv l bd k vs,w'.heap[q]?=aN #[aT nm,av,bv,bX] 86 /\
  lH (fun b=>B<=b/\b<w'.heap.size/\b≠q) w' av l/\dP (fun b=>B<=b/\b<w'.heap.size/\b≠q) w' bv bd/\SP w' pb tb T k vs 0/\cont l bd k vs=O r
def amf{w:Z}(h:SP w pb tb T k vars d)(s:Bs)(b:s.all P.digit=G) :
  Calls bbh 49 #[pp pb,aT s] w fun e w'=>e = ah (.bool (dQ T k s))/\SP w' pb tb T (if dQ T k s=A then k+1 else k) vars d/\dc pb w w':=by
 by_cases hx:dQ T k s=A
 .refine Calls.mono (vu h s hx) ?_;grind
 .have a:dQ T k s=false:=zg;refine Calls.mono (qM h s a b) ?_;rintro e w' ⟨rfl,rfl⟩;rw[bI hx,a];exact⟨J,h,bB.refl _ _⟩
def ac1{w:Z}(h:SP w pb tb T k vars d)(s:Bs)(b:s.all P.digit=G){α:Type}(x:α){r:cd α}(hr:mj T s x k vars=O r) :
  Calls bbh 51 #[pp pb,aT s] w fun e w'=>dc pb w w' /\
   ((e = ah (ak #[])/\r = .ok x (k+1) vars/\SP w' pb tb T (k+1) vars d)\/(∃ c a,r = .err c a/\nA c a w w' e)):=by
 unfold mj at hr;split at hr
 .rename_i hx;refine(SI h s hx).mono ?_;grind
 .rename_i hx;refine(SJ h s zg b).mono ?_;grind
theorem G8.step{w:Z}{q:Nat}{nm:Bs}{r:cd Cl}{a:List Ex->Bd->Nat->List Bs->Option (cd Cl)}(d:dc pb w w1)(c:dc pb w1 w2)
  (e:pb<cap/\cap<B/\B<=q) (t3:∃ kd ps,w1.heap[cap]?=aN #[zi kd,aT nm,zi ps] 142) {l:List Ex} {bd:Bd} {vs:List Bs}
  (g1:w1.heap[q]?=aN #[aT nm,av,tv,bX] 86)
  (g2:lH (fun b=>B<=b/\b<w1.heap.size/\b≠q) w1 av l) (g3:dP (fun b=>B<=b/\b<w1.heap.size/\b≠q) w1 tv bd) (g4:SP w2 pb tb T k vs 0) (g5:a l bd k vs=O r):G8 pb tb T B w cap q nm r a w2:=by
 have:=c.size;obtain⟨kd,ps,t3⟩:=t3;have hm:∀ b,(fun b=>B<=b/\b<w1.heap.size/\b≠q) b->(fun b=>B<=b/\b<w2.heap.size/\b≠q) b:=yH;have hk:CK (fun b=>B<=b/\b<w1.heap.size/\b≠q) w1 w2:=(by grind [dc.ama]);exact⟨d.trans c,(by grind [t3,dc.bK]),av,tv,l,bd,k,vs,(by grind [dc.bK]),g2.mono hm hk.lG,dP.mono hm hk.lG _ _ g3,g4,g5⟩
def aGH{w:Z}(h:SP w pb tb T 0 [] 0)(z:mZ w tb) :
  Calls bbh 46 #[pp pb] w (amb pb w (I2 T)):=by
 have hlt:=h.lt;have gn:=h.d2.2.2;refine aw4 ?_;refine⟨fun n t w2=>dc pb w w2/\∃ f k vs acc,n=f+1/\acc.length<=40/\Fv T f k acc=O (I2 T)/\SP w2 pb tb T k vs 0/\Xo w.heap.size w2 (t 2) acc,
  ⟨_,bB.refl _ _,_,0,[],[],J,zs,al9 T,h,[],a1A _ _ _ _,J⟩,?_⟩
 intro n t dd w2 hI;refine toPr ?_;obtain⟨hF,f,k,vs,acc,rfl,aVF,j,hP,eS⟩:=hI;have s12:=hF.size;cases f with
 | zero=>rw[Fv] at j;cases j
 | succ f=>
 rw[Fv] at j;obtain⟨cap,va,vc,cs,h3,jF,rT,hlT,GS,g0,g1,g2,g3,g4,g5⟩:=hP.x;have l3:=bh h3;have e0:((0:Nat):Int)=0:=rfl;rw[e0] at h3;obtain⟨xs,o1,o2⟩:=id eS;obtain⟨ra,rc,hv⟩:=il o1;have To:mZ w2 tb:=z.fr hF hlt;by_cases vC:(tk T k).kind=0
 .rw[zip vC] at j;refine jk h3 @g0 @g3 ?_;rw[<- a1b j];refine⟨hF,t 2,xs,J,Fi o1 (fun b p=>⟨(o1.lt b p).1,(o1.lt b p).2⟩),kE.mono yH (fun b cs t _ _ z=>z) _ _ o2⟩
 .rw[bI vC] at j;have Xp:¬ (((tk T k).kind:Nat):Int)=0:=zo;have hnx:=hP.tw.next GS vC
  refine dM h3 @g0 @g3 @g5 ?_;refine⟨fun _ w3=>w3=w2/\¬ acc.length=40,?_,?_⟩
  .by_cases qi:acc.length=40
   .rw[zip qi] at j;have aGI:(acc.length:Int)=40:=zo;refine cO hv ?_;refine(Cm _ _ _ pb hP.sb).mono ?_;rintro e w3 ⟨i,yi,-⟩;have NQ:=KQ i s12;obtain⟨b,rfl,-,-⟩:=i;refine bG ?_;rw[<- a1b j];exact⟨hF.trans yi,NQ⟩
   .have aGI:¬ (acc.length:Int)=40:=zo;refine cO hv ?_;omega
  .rintro _ w3 ⟨rfl,qi⟩ _;rw[bI qi] at j;cases g:E8 T (rY T) k with
   | none=>rw[g] at j;cases j
   | some qc=>
   rw[g] at j;have hq5:=hP.aGC h3 jF rT;have Tq:dc pb w3 (bS w3 pb (ae #[.slice (O ⟨tb,k*3,V⟩) (T.length-k) (cap-k),bX,zi 0] 145)):=(bB.refl _ _).bS (.inl fun _=>.inl J);have g05:(bS w3 pb (ae #[.slice (O ⟨tb,k*3,V⟩) (T.length-k) (cap-k),bX,zi 0] 145)).heap[tb]?=aN cs 142:=yH;refine jk h3 @g0 @g2 ?_;refine⟨fun _ d=>(tk T k).kind=1/\dc pb w3 d/\SP d pb tb T k [] 0/\d.heap[w3.heap.size]?=aN #[zi (tk T k).kind,aT ((tk T k).text),zi (tk T k).pos] 142/\d.heap.size=w3.heap.size+1 /\
    (∀ b cs t,b<w3.heap.size->b≠pb->w3.heap[b]?=aN cs t->d.heap[b]?=aN cs t),?_,?_⟩
   .have B:Ext (bS w3 pb (ae #[.slice (O ⟨tb,k*3,V⟩) (T.length-k) (cap-k),bX,zi 0] 145)) (bS ((bS w3 pb (ae #[.slice (O ⟨tb,k*3,V⟩) (T.length-k) (cap-k),bX,zi 0] 145)).alloc (ae #[zi 0,aT [],zi 0] 142)) w3.heap.size (ae #[zi (tk T k).kind,aT ((tk T k).text),zi (tk T k).pos] 142)):=yF;have vE:=hq5.acX B;by_cases ke:(tk T k).kind=1
    .have aGK:(((tk T k).kind:Nat):Int)=1:=zo;refine cO @g2 ?_;refine⟨ke,Tq.trans B.toM,vE,fun b cs t p CM z=>B.ext _ _ ?_⟩;rw[jr CM];exact z
    .have aGK:¬ (((tk T k).kind:Nat):Int)=1:=zo;rw[E8,bI ke] at g;refine cO @g2 ?_;refine(PN vE).mono ?_;rintro e w7 ⟨i,y,-⟩;have NQ:=KQ (w:=w) i (by rw[vp,size_alloc,vp];omega);obtain⟨b,rfl,-,-⟩:=i;refine bG ?_;rw[<- a1b g] at j;simp only[cd.bind,a07] at j;rw[<- j];exact⟨hF.trans ((Tq.trans B.toM).trans y),NQ⟩
   .rintro _ d ⟨ke,rZ,vE,t6,s6,k6⟩ _;obtain⟨Xq,H,I,cs6,K,aVI,aVJ,-,-,g06,-⟩:=vE.x;rw[e0] at K;have l6:=bh K;have lt6:=bh t6;have yf:¬ Xq-k=1:=zo;have lp6:pb<d.heap.size:=l6;have hB6:w.heap.size<=w3.heap.size:=s12;simp (disch:=first|assumption|omega|simp only[zS]<;>omega|decide) only[Pr,PX,PC,NX,ends,Fc,pD,jv,Nat.reduceAdd,Nat.reduceMul,Nat.reduceLeDiff,Nat.reduceEqDiff,Int.reduceToNat,Int.reduceAdd,Int.reduceLT,Int.reduceLE,↓reduceIte,forall_const,eq_self,aa9,jI,aaJ,aaK,PE,PF,GB,GC,aaM,aaN,aaO,aaP,aaQ,aaR,aaS,aaT,aaU,aaX,aaY,aaV,aaW,aa3,aa4,aa5,aa6,Wy,aa0,aba,abb,abJ,abc,abd,abe,abf,M9,rR,qJ,jr,Sp,Ck,vp,size_alloc,Sw,abl,abg,abh,abi,abj,abk,abm,abn,abo,abp,abq,abr,abt,abu,abv,abw,abx,aby,abz,abA,abB,abC,abD,abE,Wz,u8w,Wt,aaG,aaH,Int.toNat_natCast,Option.isNone_none,Option.isNone_some,List.getElem?_toArray,List.getElem?_cons_zero,List.getElem?_cons_succ,List.setIfInBounds_toArray,List.set_cons_zero,List.set_cons_succ,List.size_toArray,List.length_cons,List.length_nil,List.drop_zero,List.drop_succ_cons,List.take_succ_cons,List.take_zero,List.take_nil,List.drop_nil,List.all_cons,List.all_nil,Bool.and_true,Bool.true_and,Nat.zero_add,Nat.add_zero,Nat.mul_one,and_self,and_true,true_and,decide_true,decide_false,Bool.not_true,Bool.not_false,not_true_eq_false,not_false_eq_true,ajQ,ajS,ajT,ajV,ajX,ajY,ajZ,aj0,aj1,aj2,aj3,aj4,aj5,aj6,aj7,aj8,aka,akb,akc,akd,akf,aki,akj,akk,akl,akm,K,t6,acZ];have eq3:(bS w3 pb (ae #[.slice (O ⟨tb,k*3,V⟩) (T.length-k) (cap-k),bX,zi 0] 145)).heap.size=w3.heap.size:=yH;have eq:((bS d pb (ae #[.slice (O ⟨tb,k*3+3,V⟩) (T.length-k-1) (Xq-k-1),.slice H 0 I,zi 0] 145)).alloc (ae #[.int .u8 103,aT [116,114,117,101],bX,bX] 149)).heap.size=d.heap.size+1:=yH;have hlq:pb<w3.heap.size/\w3.heap.size<d.heap.size/\d.heap.size<=d.heap.size+1:=yH;have aVO:E8 T (rY T) k=O qc:=g;have aVP:∀ {L:Z},dc pb w3 L->mZ L tb:=(by grind [mZ.fr,bB.trans]);have Ts:∀ {L w':Z} {e:Ending} {c a:Nat},dc pb w3 L->dc pb L w'->nA c a L w' e->qc = .err c a->amb pb w (I2 T) e w':=by
     intro L w' e c a Fy zl i hqc;rw[hqc] at j;simp only[cd.bind,a07] at j;rw[<- j];exact⟨(by grind [bB.trans]),KQ i (by have:=Fy.size;omega)⟩
    try rw[eq3]
    try rw[eq]
    refine⟨fun _ w'=>G8 pb tb T d.heap.size w3 w3.heap.size (d.heap.size+1) (tk T k).text qc (acG T (rY T) (tk T k).text (tk T k).pos) w',?_,?_⟩
    .have aVQ:SP d pb tb T k [] 0:=vE;obtain⟨q,rA⟩:∃ q,q=((bS d pb (ae #[.slice (O ⟨tb,k*3+3,V⟩) (T.length-k-1) (Xq-k-1),.slice H 0 I,zi 0] 145)).alloc (ae #[.int .u8 103,aT [116,114,117,101],bX,bX] 149)).alloc
       (ae #[aT ((tk T k).text),bX,pp d.heap.size,bX] 86):=yH
     have M:SP q pb tb T (k+1) [] 0:=by
      have C:SP (bS d pb (ae #[.slice (O ⟨tb,k*3+3,V⟩) (T.length-k-1) (Xq-k-1),.slice H 0 I,zi 0] 145)) pb tb T (k+1) [] 0:=
       (by grind [SP.onU])
      rw[rA];exact C.acX (((bB.refl _ _).alloc _).alloc _)
     have D:dc pb w3 q:=by
      rw[rA];exact((rZ.bS (.inl fun _=>.inl J)).alloc _).alloc _
     have tA:q.heap[w3.heap.size]?=aN #[zi (tk T k).kind,aT ((tk T k).text),zi (tk T k).pos] 142:=by
      exact yH
     have bA:q.heap[d.heap.size]?=aN #[.int .u8 103,aT [116,114,117,101],bX,bX] 149:=by
      exact yH
     have cA:q.heap[d.heap.size+1]?=aN #[aT ((tk T k).text),bX,pp d.heap.size,bX] 86:=by
      exact yH
     have sA:q.heap.size=d.heap.size+2:=yH;have nW:dP (fun b=>d.heap.size<=b/\b<q.heap.size/\b≠d.heap.size+1) q (pp d.heap.size) Pt:=Ea yH bA IY KU;show CA _ _ _ _ _ _;rw[<- rA];refine(amf M [40] zd).mono ?_;rintro e wB ⟨rfl,Xs,P7⟩;rw[E8,zip ke] at g;have sB:=P7.size;refine bG ?_;by_cases E:dQ T (k+1) [40]=A
     .rw[zip E] at g Xs;rw[E,PE];have tB:=P7.bK tA zo zd;have cB:=P7.bK cA zo zd;cases N:mR T (rY T) (k+1+1) [] 0 (tk T k).pos [] with
      | none=>rw[N] at g;simp [cd.bind] at g
      | some qa=>
      rw[N] at g;refine((aDo _).go _ Xs zo N).mono ?_;intro e wC Tt;cases qa with
      | err c a=>
       obtain⟨i,P8,-⟩:=Tt;simp only[cd.bind,a07] at g;have ll:=Ts (D.trans P7) P8 i g.symm;obtain⟨b,rfl,-,-⟩:=i;refine bG ?_;omega
      | ok l k2 Tu=>
       obtain⟨v,rfl,kl,hPC,P8⟩:=Tt;simp only[cd.bind] at g;have sC:=P8.size;have tC:=P8.bK tB zo zd;have cC:=P8.bK cB zo zd;have lcC:=bh cC;obtain⟨P,Q,ac,rfl⟩:∃ a n c,v = .slice a n c:=by
        obtain⟨qO,h1,-⟩:=kl;obtain⟨a,n,c,h,-⟩:=h1.shape;exact⟨a,n,c,h⟩
       refine cO @cC ?_;obtain⟨m,R⟩:=cg (bS wC (d.heap.size+1) (ae #[aT ((tk T k).text),.slice P Q ac,pp d.heap.size,bX] 86));rw[<- R];have hPD:SP m pb tb T k2 Tu 0:=by rw[R];exact hPC.acW cC zd zo zo
       have S:dc pb w3 m:=by rw[R];exact((D.trans P7).trans P8).bS (.inr zo)
       have tD:m.heap[w3.heap.size]?=aN #[zi (tk T k).kind,aT ((tk T k).text),zi (tk T k).pos] 142:=yH;have cD:m.heap[d.heap.size+1]?=aN #[aT ((tk T k).text),.slice P Q ac,pp d.heap.size,bX] 86:=yH;have sD:m.heap.size=wC.heap.size:=yH;have kD:CK (fun b=>d.heap.size<=b/\b≠d.heap.size+1) wC m:=fun b cs t p _ z=>yH;have amm:dP (fun b=>d.heap.size<=b/\b<m.heap.size/\b≠d.heap.size+1) m (pp d.heap.size) Pt:=
        Ea yH (by grind [jr,dc.bK]) IY KU
       have amn:lH (fun b=>d.heap.size<=b/\b<m.heap.size/\b≠d.heap.size+1) m (.slice P Q ac) l:=
        kl.mono yH yH
       cases Ha:mj T [41] l k2 Tu with
       | none=>rw[Ha] at g;cases g
       | some qm=>
       rw[Ha] at g;refine(ac1 hPD [41] zd l Ha).mono ?_;rintro e wE ⟨U,(⟨rfl,W,Xt⟩| ⟨c,a,W,i⟩)⟩
       .rw[W] at g;refine bG ?_;exact G8.step S U hlq yH cD amn amm Xt g
       .rw[W] at g;simp only[a07] at g;have ll:=Ts S U i g.symm;obtain⟨b,rfl,-,-⟩:=i;refine bG ?_;omega
     .rw[bI E] at g Xs;have tW:dQ T (k+1) [40]=false:=zg;rw[tW,PF];exact G8.step D P7 hlq yH cA IY nW Xs g
    .rintro _ w7 r _;obtain⟨X,ps7,t7⟩:=r.t3;have y:=r.fr;obtain⟨av,bv,l,bd,k7,F,g7,ga,gb,C,o⟩:=r.st;generalize (tk T k).text=nm at *;generalize (tk T k).pos=pos at *;refine⟨fun _ w'=>G8 pb tb T d.heap.size w3 w3.heap.size (d.heap.size+1) nm qc (W6 T (rY T) nm) w',?_,?_⟩
     .refine⟨fun s w'=>w'=w7/\s 72 = .bool (decide (0<=jW nm\/nm=[109,111,100])),?_,?_⟩
      .refine cO @t7 ?_;refine(NL _).mono ?_;rintro e w8 ⟨rfl,rfl⟩;refine dF @aaL @t7 ?_;grind
      .rintro s8 w8 ⟨rfl,hs8⟩ _;rw[hs8];by_cases p:0<=jW nm\/nm=[109,111,100]
       .rw[GB _ _ p];rw[acG,zip p] at o;refine(Cm _ _ _ pb C.sb).mono ?_;rintro e w9 ⟨i,kF,-⟩;have ll:=Ts y kF i (a1b o).symm;obtain⟨b,rfl,-,-⟩:=i;refine bG ?_;omega
       .rw[GC _ _ p];rw[acG,bI p] at o;grind [G8.step,bB.refl]
     .clear o C gb ga g7 y t7 r;rintro _ w8 r _;obtain⟨X,ps7,t7⟩:=r.t3;have y:=r.fr;obtain⟨av,bv,l,bd,k7,F,g7,ga,gb,C,o⟩:=r.st;refine⟨fun _ w'=>G8 pb tb T d.heap.size w3 w3.heap.size (d.heap.size+1) nm qc (fun l bd k vs=>mj T [46] ⟨nm,l,bd,vs⟩ k vs) w',?_,?_⟩
      .refine(amf C [58,45] zd).mono ?_;rintro e w9 ⟨rfl,hP9,kF⟩;refine bG ?_;by_cases E:dQ T k7 [58,45]=A
       .rw[W6,zip E] at o;rw[zip E] at hP9;rw[E,PE];cases p:mT T (rY T) (k7+1) F 0 with
        | none=>rw[p] at o;simp [cd.bind] at o
        | some qb=>
        rw[p] at o;refine((al5 _).go hP9 (by grind [bB.trans]) zo p).mono ?_;intro e q Tt;cases qb with
        | err c a=>
         obtain⟨i,D,-⟩:=Tt;simp only[cd.bind,a07] at o;have ll:=Ts (y.trans kF) D i o.symm;obtain⟨b,rfl,-,-⟩:=i;refine bG ?_;omega
        | ok bd2 k2 Tu=>
         obtain⟨v,rfl,kl,M,D⟩:=Tt;simp only[cd.bind] at o;have s9:=kF.size;have t9:=dc.bK (kF.trans D) t7 zo zg;have g9:=dc.bK (kF.trans D) g7 zo zg;have lg9:=bh g9;have lg7:=bh g7;obtain⟨vb,rfl,zm⟩:=kl.shape;refine cO @g9 ?_;obtain⟨m,R⟩:=cg (bS q (d.heap.size+1) (ae #[aT nm,av,pp vb,bX] 86));rw[<- R];have hPD:SP m pb tb T k2 Tu 0:=by rw[R];exact M.acW g9 zd zo zo
         have S:dc pb w3 m:=by rw[R];exact((y.trans kF).trans D).bS (.inr zo)
         have tD:m.heap[w3.heap.size]?=aN #[zi X,aT nm,zi ps7] 142:=yH;have cD:m.heap[d.heap.size+1]?=aN #[aT nm,av,pp vb,bX] 86:=yH;have sD:m.heap.size=q.heap.size:=yH;have kD:CK (fun b=>d.heap.size<=b/\b≠d.heap.size+1) q m:=fun b cs t p _ z=>yH;have k9:CK (fun b=>d.heap.size<=b/\b≠d.heap.size+1) w8 q:=(by grind [dc.ama,bB.trans]);have amn:lH (fun b=>d.heap.size<=b/\b<m.heap.size/\b≠d.heap.size+1) m av l:=
          ga.mono yH (by grind [CK.lG])
         have amm:dP (fun b=>d.heap.size<=b/\b<m.heap.size/\b≠d.heap.size+1) m (pp vb) bd2:=
          dP.mono yH yH _ _ kl
         grind [G8.step,bB.refl]
       .rw[W6,bI E] at o;rw[bI E] at hP9;have tW:dQ T k7 [58,45]=false:=zg;rw[tW,PF];grind [G8.step]
      .clear o C gb ga g7 y t7 r;rintro _ w9 r _;obtain⟨X,ps7,t7⟩:=r.t3;have y:=r.fr;obtain⟨av,bv,l,bd,k7,F,g7,ga,gb,C,o⟩:=r.st;refine(ac1 C [46] zd _ o).mono ?_;rintro e wE ⟨U,(⟨rfl,W,Xt⟩| ⟨c,a,W,i⟩)⟩
       .obtain⟨aVV,vaE,vcE,csE,h3E,-⟩:=Xt.x;have sE:=U.size;have gE:=U.bK g7 zo zd;have lgE:=bh gE;have lg7:=bh g7;obtain⟨vb,rfl,zm⟩:=gb.shape;obtain⟨P,Q,ac,rfl⟩:∃ a n c,av = .slice a n c:=by
         obtain⟨qO,h1,-⟩:=ga;obtain⟨a,n,c,h,-⟩:=h1.shape;exact⟨a,n,c,h⟩
        refine dF h3E @gE ?_;obtain⟨u,Xv⟩:=cg (bS wE (d.heap.size+1) (ae #[aT nm,.slice P Q ac,pp vb,.slice vaE F.length vcE] 86));rw[<- Xv];have aG1:dc pb w3 wE:=y.trans U;have hPG:SP u pb tb T (k7+1) F 0:=by rw[Xv];exact Xt.acW gE zd zo zo
        have adi:dc pb w3 u:=by rw[Xv];exact aG1.bS (.inr zo)
        have gG:u.heap[d.heap.size+1]?=aN #[aT nm,.slice P Q ac,pp vb,.slice vaE F.length vcE] 86:=yH;have sG:u.heap.size=wE.heap.size:=yH;have kG:CK (fun b=>d.heap.size<=b/\b≠d.heap.size+1) w9 u:=fun b cs t p ht z=>by
         grind [jr,dc.bK]
        have aG4:lH (fun b=>d.heap.size<=b/\b<u.heap.size) u (.slice P Q ac) l:=
         ga.mono yH (by grind [CK.lG])
        have bdG:dP (fun b=>d.heap.size<=b/\b<u.heap.size) u (pp vb) bd:=
         dP.mono yH (by grind [CK.lG]) _ _ gb
        rw[W] at j;simp only[cd.bind] at j;have clG:Fw (fun b=>d.heap.size<=b/\b<u.heap.size) u (pp (d.heap.size+1)) ⟨nm,l,bd,F⟩:=
         ⟨d.heap.size+1,_,_,vaE,vcE,J,yH,gG,aG4,bdG⟩
        have B:Ext u (u.alloc (ae #[pp (d.heap.size+1)] 79)):=yF;have Ja:=jY B.ext (amc adi (hv ▸ o1) zo zd);rw[hv];refine acY Ja (rR (by rw[Xv,vp])) J zo (by have:=B.size;omega) ?_;intro v' jP S9 qh BB;have vG:dc pb w jP:=((hF.trans adi).trans B.toM).grow qh (fun kk nT=>(Ja.lt kk nT).1);refine⟨f+1,zo,vG,f,k7+1,F,acc++[⟨nm,l,bd,F⟩],J,zg,j,(hPG.acX B).PQ Ja zg zo qh,?_⟩;rw[hv] at eS;exact eS.more adi zo (clG.mono yH (fun b cs t _ _ z=>z)) zo B Ja S9 qh BB
       .have ll:=Ts y U i W;obtain⟨b,rfl,-,-⟩:=i;refine bG ?_;omega
open Go.Proofs.YtoegidfbnkaabaaGreatDoor.Sx
section
variable{p0 p1 p2 p3 p4 p5 p6 p7:Y}{w:Z}{R:Ending->Z->Prop}
def aG7:=cy w R [p0,p1] (gc [] [] []) func45
def aG8:=cy w R [p0,p1] (gc [] [] []) func58
end
def adj(w:Z):(Instr.typeAssert ai 20 73 A).run bbh w = .ok (ak #[aq V,.bool G]) w:=zk
def adk(v:Y)(w:Z):(Instr.typeAssert (aj 73 v) 20 73 A).run bbh w = .ok (ak #[v,.bool A]) w:=zk
def aG9(v4 v5:Y)(w:Z):CallsD bbh 83 #[v4,v5] .returning w fun e u' w'=>e = ah (ak #[])/\u' = .returning/\w'=w:=by
 refine callsD_of_wpS func83 J fun AM cs hu=>?_;apply wpS_seq;apply wpS_region;simp [wpOpsS,go_sem,recoverD,hu,ntmps83,a1P,adj];apply wpS_seq;apply wpS_region;simp [wpOpsS,go_sem,recoverD,hu,ntmps83,a1P];refine wpS_cond (t:=false) (by simp [Act.eval]) ?_;simp only[Bool.false_eq_true,if_false];refine wpS_of_wp (wp_skip ?_);cases AM;simp_all [bodyPostS,results,Tryz.results83]
def aHa(b4 b5:Nat)(o4 o5:Y)(v:Y)(yj:List PanicEntry)(w:Z)(h4:w.cell? ⟨b4,0,V⟩=O o4)(z4:w.frozen? ⟨b4,0,V⟩=G)
  (h5:(w.setCell ⟨b4,0,V⟩ bX).cell? ⟨b5,0,V⟩=O o5) (z5:(w.setCell ⟨b4,0,V⟩ bX).frozen? ⟨b5,0,V⟩=G) :
  CallsD bbh 83 #[pp b4,pp b5] (.panicking ({ v:=aj 73 v,recovered:=false }::yj)) w fun e u' w'=>
   e = ah (ak #[])/\u' = .panicking ({ v:=aj 73 v,recovered:=true }::yj)/\w'=(w.setCell ⟨b4,0,V⟩ bX).setCell ⟨b5,0,V⟩ (aj 73 v):=by
 refine callsD_of_wpS func83 J fun AM cs hu=>?_;apply wpS_seq;apply wpS_region;simp [wpOpsS,go_sem,recoverD,hu,ntmps83,a1P,adk];apply wpS_seq;apply wpS_region;simp [wpOpsS,go_sem,recoverD,hu,ntmps83,a1P];refine wpS_cond (t:=true) (by simp [Act.eval]) ?_;simp only[if_true];apply wpS_seq;apply wpS_region;simp [wpOpsS,go_sem,recoverD,hu,ntmps83,a1P];apply wpS_region;simp [wpOpsS,go_sem,recoverD,hu,ntmps83,a1P,h4,z4,h5,z5];simp [bodyPostS,results,Tryz.results83]
def aHb(v4 v5:Y)(w:Z):CallsD bbh 90 #[v4,v5] .returning w fun e u' w'=>e = ah (ak #[])/\u' = .returning/\w'=w:=by
 refine callsD_of_wpS func90 J fun AM cs hu=>?_;apply wpS_seq;apply wpS_region;simp [wpOpsS,go_sem,recoverD,hu,ntmps90,a1P,adj];apply wpS_seq;apply wpS_region;simp [wpOpsS,go_sem,recoverD,hu,ntmps90,a1P];refine wpS_cond (t:=false) (by simp [Act.eval]) ?_;simp only[Bool.false_eq_true,if_false];refine wpS_of_wp (wp_skip ?_);cases AM;simp_all [bodyPostS,results,Tryz.results90]
def aHc(b4 b5:Nat)(o4 o5:Y)(v:Y)(yj:List PanicEntry)(w:Z)(h4:w.cell? ⟨b4,0,V⟩=O o4)(z4:w.frozen? ⟨b4,0,V⟩=G)
  (h5:(w.setCell ⟨b4,0,V⟩ (aq V)).cell? ⟨b5,0,V⟩=O o5) (z5:(w.setCell ⟨b4,0,V⟩ (aq V)).frozen? ⟨b5,0,V⟩=G) :
  CallsD bbh 90 #[pp b4,pp b5] (.panicking ({ v:=aj 73 v,recovered:=false }::yj)) w fun e u' w'=>
   e = ah (ak #[])/\u' = .panicking ({ v:=aj 73 v,recovered:=true }::yj)/\w'=(w.setCell ⟨b4,0,V⟩ (aq V)).setCell ⟨b5,0,V⟩ (aj 73 v):=by
 refine callsD_of_wpS func90 J fun AM cs hu=>?_;apply wpS_seq;apply wpS_region;simp [wpOpsS,go_sem,recoverD,hu,ntmps90,a1P,adk];apply wpS_seq;apply wpS_region;simp [wpOpsS,go_sem,recoverD,hu,ntmps90,a1P];refine wpS_cond (t:=true) (by simp [Act.eval]) ?_;simp only[if_true];apply wpS_seq;apply wpS_region;simp [wpOpsS,go_sem,recoverD,hu,ntmps90,a1P];apply wpS_region;simp [wpOpsS,go_sem,recoverD,hu,ntmps90,a1P,h4,z4,h5,z5];simp [bodyPostS,results,Tryz.results90]
namespace P
def program(s:Bs):cd (List Cl):=
 if 2000<s.length then .err 1 0 else match lex s with
 | .inl i=>.err 2 i
 | .inr T=>I2 T
def nY{α:Type}(g:List Tok->cd α)(s:Bs):cd α:=if 2000<s.length then .err 1 0 else match lex s with
 | .inl i=>.err 2 i
 | .inr T=>g T
def tX(T:List Tok):cd Ex:=
 match gW T (rY T) 0 0 [] 0 with
 | some (.ok x k vs)=>if (tk T k).kind=0 then .ok x k vs else .err 2 (tk T k).pos
 | some (.err e a)=>.err e a
 | none=>.err 0 0
end P
structure Tv(T:List P.Tok):Prop extends TW T where
 sg:∀ u∈T,u.kind=4->u.text=[46]\/u.text∈nP
theorem Tv.of(h:G0 n T)(a:n<=2000):Tv T:=
 { len:=by have:=h.len;omega,last:=h.last,kind:=fun u hu=>(h.tok u hu).1,digits:=fun u hu=>(h.tok u hu).2.1,words:=fun u hu=>(h.tok u hu).2.2.1,vars:=fun u hu=>(h.tok u hu).2.2.2.1,sg:=fun u hu=>(h.tok u hu).2.2.2.2 }
def NY{s:Bs}(h:P.lex s = .inr T):G0 s.length T:=S8 _ _ _ _ (by rw[IU,h])
theorem Av.up{w:Z}(h:Av w B)(a:B<=B'):Av w B':=
 ⟨a1G h.lt a,(by grind [a1G,GL])⟩
theorem mZ.up{w:Z}(h:mZ w B)(a:B<=B'):mZ w B':=⟨a1G h.lt a,h.cell⟩
structure Xw(w:Z):Prop where
 GL:Av w w.heap.size
 cmp:mZ w w.heap.size
 sig:NN w
def aHd{w:Z}(h:res w) :
  LV bbh res R [{ target:=.fn (.func 83) #[tv,vv],args:=#[]++#[] }] .returning w:=by
 refine Cj zk zs ((aG9 tv vv w).mono ?_);rintro e a w' ⟨rfl,rfl,rfl⟩;exact h
def aHe{w:Z}(a:w.heap[pb]?=aN #[o4] 68)
  (d:w.heap[cap]?=aN #[o5] 57) (f:pb≠cap)
  (h:res (bS (bS w pb (ae #[bX] 68)) cap (ae #[aj 73 v] 57))) :
  LV bbh res R [{ target:=.fn (.func 83) #[pp pb,pp cap],args:=#[]++#[] }]
   (.panicking [{ v:=aj 73 v,recovered:=false }]) w:=by
 have b:w.setCell ⟨pb,0,V⟩ bX=bS w pb (ae #[bX] 68):=vq a _;have c:(bS w pb (ae #[bX] 68)).heap[cap]?=aN #[o5] 57:=by
  exact yH
 refine Cj zk zs ((aHa pb cap o4 o5 v [] w (by grind [a1M]) (jX a 0) (by grind [a1M]) (by grind [jX])).mono ?_);rintro e g w' ⟨rfl,rfl,rfl⟩;rw[b,vq c];exact h
def SP.fresh{w:Z}(b:G0 n T)(c:n<=2000)(ht:w.heap[tb]?=aN iL 142)
  (g:iL.toList.take (T.length*3)=CC T) (d:Av w tb) (hlt:tb<pb) (e:T.length<=cap) (f:cap<=9223372036854775807)
  (h:w.heap[pb]?=aN #[cV tb T.length cap,bX,zi 0] 145):SP w pb tb T 0 [] 0:=by
 have a:=Tv.of b c;have k:∀ i,i<T.length*3->iL[i]?=(CC T)[i]?:=zg;refine⟨a.toTW,hlt,a.toTW.pos,zs,⟨d,iL,ht,fun j l=>?_⟩,cap,bX,e,f,yH,a1A _ _ _ _⟩;grind [alI]
def Xx(w:Z)(s:Bs)(e:Ending)(w':Z):Prop:=
 Ext w w'/\match P.program s with
 | .err c a=>∃ b,e = ah (ak #[.slice V 0 0,aj 73 (aq (O ⟨b,0,V⟩))])/\w'.heap[b]?=O (ae #[.int .i64 c,.int .i64 a] 77 (0,0))
 | .ok cs _ _=>∃ v vs,e = ah (ak #[v,ai])/\fJ (Nu w w') w' 79 v vs/\kE (Nu w w') w' vs cs
def adl{s:Bs}{w d:Z}{a:Nat}(i:P.program s = .err c a)(j:Ext w d)(q4:d.heap[w.heap.size]?=aN #[o4] 68)
  (e:d.heap[w.heap.size+1]?=aN #[o5] 57) (k:d.heap[b]?=aN #[zi c,zi a] 77) (l:w.heap.size+2<=b) :
  LV bbh (fun d=>RD bbh (a1p 68 (pp w.heap.size)) d (fun r=>RD bbh (a1p 57 (pp (w.heap.size+1))) d
    (fun f=>Xx w s (ah (ak #[r,f])) d) NX) NX) (Xx w s)
   [{ target:=.fn (.func 83) #[pp w.heap.size,pp (w.heap.size+1)],args:=#[]++#[] }]
   (.panicking [{ v:=aj 73 (pp b),recovered:=false }]) d:=by
 refine aHe q4 e zo ?_;have m:=bh q4;have n:=bh e;have g:(bS (bS d w.heap.size (ae #[bX] 68)) (w.heap.size+1) (ae #[aj 73 (pp b)] 57)).heap[w.heap.size]?=aN #[bX] 68:=by
  exact yH
 have h:(bS (bS d w.heap.size (ae #[bX] 68)) (w.heap.size+1) (ae #[aj 73 (pp b)] 57)).heap[w.heap.size+1]?=aN #[aj 73 (pp b)] 57:=by
  exact yH
 refine dF @g @h ?_;refine⟨yF,?_⟩;exact yH
def aHf(s:Bs)(w:Z)(S:s.length<=100000)(u:Xw w) :
  Calls bbh 45 #[aT s,.func (.func 46) #[] #[]] w (Xx w s):=by
 refine aG7 ?_;refine bG ?_;obtain⟨l,U⟩:=cg ((w.alloc (ae #[bX] 68)).alloc (ae #[ai] 57));have sA:l.heap.size=w.heap.size+2:=yH;have W:Ext w l:=yF;have x:l.heap[w.heap.size]?=aN #[bX] 68:=yH;have y:l.heap[w.heap.size+1]?=aN #[ai] 57:=yH;rw[size_alloc,<- U];refine(alK s l S (u.sig.ext W)).mono ?_;rintro e w1 ⟨d,f⟩;have s1:=d.size;by_cases m:2000<s.length
 .rw[zip m] at f;obtain⟨b,rfl,p,H⟩:=f;exact adl (by rw[P.program,zip m]) yF (d.ext _ _ x) (d.ext _ _ y) p zo
 rw[bI m] at f;cases hx:P.lex s with
 | inl i=>
  rw[hx] at f;obtain⟨b,rfl,p,H⟩:=f;exact adl (by rw[P.program,bI m,hx]) yF (d.ext _ _ x) (d.ext _ _ y) p zo
 | inr T=>
  rw[hx] at f;obtain⟨v,rfl,z⟩:=f;have I:=NY hx;have X:0<T.length:=(Tv.of I zo).toTW.pos;obtain⟨tP,z⟩:=z;rcases z with⟨-,h0⟩| ⟨tb,cap,cur,rfl,G2,CE,Ft,xl,ht5,K4⟩
  .omega
  refine bG ?_;have B:=bh CE;obtain⟨g,C⟩:=cg (w1.alloc (ae #[cV tb T.length cap,bX,zi 0] 145));have D:Ext w1 g:=yF;have sP:g.heap.size=w1.heap.size+1:=yH;have bP:g.heap[w1.heap.size]?=aN #[cV tb T.length cap,bX,zi 0] 145:=yH;rw[<- C];have K:Ext w g:=yF;have oH:SP g w1.heap.size tb T 0 [] 0:=SP.fresh I zo yH K4 ((u.GL.ext fun b o _=>K.ext b o).up zo) B Ft (by grind [maxLen]) bP;refine⟨zk,(aGH oH ((u.cmp.ext fun b o _=>K.ext b o).up zo)).mono ?_⟩;have L:P.program s=I2 T:=by rw[P.program,bI m,hx]
  rintro e w3 ⟨q,r⟩;have s3:=q.size;have M:Ext w1 w3:=⟨q.os.trans D.os,q.tape.trans D.tape,q.output.trans D.output,zo,fun b o N _=>q.block b o yH (by
   have:=bh N;rintro (h | ⟨h,_⟩)<;>omega)⟩
  have E:Ext w w3:=yF;have q4:=M.ext _ _ (d.ext _ _ x);have F:=M.ext _ _ (d.ext _ _ y);cases hr:I2 T with
  | err c a=>
   rw[hr] at r;obtain⟨b,rfl,p,H⟩:=r;exact adl (L.trans hr) E q4 F p zo
  | ok cs k qO=>
   rw[hr] at r;obtain⟨v,vs,rfl,g1,g2⟩:=r;obtain⟨Q,sn,R,rfl⟩:∃ a n c,v = .slice a n c:=by rcases g1 with⟨-,rfl⟩| ⟨b,cs',rfl,-⟩<;>exact zg
   have l4:=bh q4;have l5:=bh F;refine dF @q4 @F ?_;refine aHd ?_;obtain⟨j,uG⟩:=cg (bS (bS w3 w.heap.size (ae #[.slice Q sn R] 68)) (w.heap.size+1) (ae #[ai] 57));have k4:j.heap[w.heap.size]?=aN #[.slice Q sn R] 68:=yH;have k5:j.heap[w.heap.size+1]?=aN #[ai] 57:=yH;have hz:∀ b o,b≠w.heap.size->b≠w.heap.size+1->w3.heap[b]?=O o->j.heap[b]?=O o:=yH;have Xy:Ext w j:=yF;have sz:j.heap.size=w3.heap.size:=yH;rw[<- uG];refine dF @k4 @k5 ?_;refine⟨Xy,?_⟩;rw[L,hr];have hf:∀ b,Nu g w3 b->Nu w j b:=zg;exact⟨_,vs,J,(by grind [fJ.mono]),g2.mono hf (fun b cs t N _ ho=>yH)⟩
def aHi{w:Z}(h:res w) :
  LV bbh res R [{ target:=.fn (.func 90) #[tv,vv],args:=#[]++#[] }] .returning w:=by
 refine Cj zk zs ((aHb tv vv w).mono ?_);rintro e a w' ⟨rfl,rfl,rfl⟩;exact h
def aHj{w:Z}(a:w.heap[pb]?=aN #[o4] 79)
  (d:w.heap[cap]?=aN #[o5] 57) (f:pb≠cap)
  (h:res (bS (bS w pb (ae #[aq V] 79)) cap (ae #[aj 73 v] 57))) :
  LV bbh res R [{ target:=.fn (.func 90) #[pp pb,pp cap],args:=#[]++#[] }]
   (.panicking [{ v:=aj 73 v,recovered:=false }]) w:=by
 have b:w.setCell ⟨pb,0,V⟩ (aq V)=bS w pb (ae #[aq V] 79):=vq a _;have c:(bS w pb (ae #[aq V] 79)).heap[cap]?=aN #[o5] 57:=by
  exact yH
 refine Cj zk zs ((aHc pb cap o4 o5 v [] w (by grind [a1M]) (jX a 0) (by grind [a1M]) (by grind [jX])).mono ?_);rintro e g w' ⟨rfl,rfl,rfl⟩;rw[b,vq c];exact h
def adq{α:Type}(I:(Nat->Prop)->Z->Nat->α->List Bs->Prop)(pb:Nat)(w:Z)(r:cd α)(e:Ending)(w':Z):Prop:=
 dc pb w w'/\match r with
 | .err c a=>nA c a w w' e
 | .ok x _ vs=>∃ b,e = ah (aq (O ⟨b,0,V⟩))/\I (Nu w w') w' b x vs
def Tx{α:Type}(I:(Nat->Prop)->Z->Nat->α->List Bs->Prop)(w:Z)(r:cd α)(e:Ending)(w':Z):Prop:=
 Ext w w'/\match r with
 | .err c a=>∃ b,e = ah (ak #[aq V,aj 73 (aq (O ⟨b,0,V⟩))])/\w'.heap[b]?=O (ae #[.int .i64 c,.int .i64 a] 77 (0,0))
 | .ok x _ vs=>∃ b,e = ah (ak #[aq (O ⟨b,0,V⟩),ai])/\I (Nu w w') w' b x vs
def adr{α:Type}{I:(Nat->Prop)->Z->Nat->α->List Bs->Prop}{r:cd α}{w d:Z}{a:Nat}(f:r = .err c a)(k:Ext w d)(q4:d.heap[w.heap.size]?=aN #[o4] 79)
  (e:d.heap[w.heap.size+1]?=aN #[o5] 57) (l:d.heap[b]?=aN #[zi c,zi a] 77) (m:w.heap.size+2<=b) :
  LV bbh (fun d=>RD bbh (a1p 79 (pp w.heap.size)) d (fun g=>RD bbh (a1p 57 (pp (w.heap.size+1))) d
    (fun h=>Tx I w r (ah (ak #[g,h])) d) NX) NX) (Tx I w r)
   [{ target:=.fn (.func 90) #[pp w.heap.size,pp (w.heap.size+1)],args:=#[]++#[] }]
   (.panicking [{ v:=aj 73 (pp b),recovered:=false }]) d:=by
 subst f;refine aHj q4 e zo ?_;have n:=bh q4;have o:=bh e;have i:(bS (bS d w.heap.size (ae #[aq V] 79)) (w.heap.size+1) (ae #[aj 73 (pp b)] 57)).heap[w.heap.size]?=aN #[aq V] 79:=by
  exact yH
 have j:(bS (bS d w.heap.size (ae #[aq V] 79)) (w.heap.size+1) (ae #[aj 73 (pp b)] 57)).heap[w.heap.size+1]?=aN #[aj 73 (pp b)] 57:=by
  exact yH
 refine dF @i @j ?_;refine⟨yF,b,J,?_⟩;exact yH
structure Ef(w:Z):Prop where
 GL:Av w w.heap.size
 sig:NN w
theorem Ef.ext{w w':Z}(h:Ef w)(a:Ext w w'):Ef w':=
 ⟨(h.GL.ext fun b o _=>a.ext b o).up a.size,h.sig.ext a⟩
def amp{α:Type}{I:(Nat->Prop)->Z->Nat->α->List Bs->Prop}
  (hI:∀ (F F':Nat->Prop) (w w':Z) (b:Nat) (x:α) (vs:List Bs),(∀ b,F b->F' b)->(∀ b o,F b->w.heap[b]?=O o->w'.heap[b]?=O o)->I F w b x vs->I F' w' b x vs)
  {g:List P.Tok->cd α} (Q:Ai bbh k'=A)
  (s:Bs) (w:Z) (R:s.length<=100000) (H:Ef w)
  (S:let w0:=w;∀ {pb tb:Nat} {T:List P.Tok} {w:Z},P.lex s = .inr T->SP w pb tb T 0 [] 0->(mZ w0 w0.heap.size->mZ w tb)->w.heap.size=pb+1->Calls bbh k' #[pp pb] w (adq I pb w (g T))) :
  Calls bbh 58 #[aT s,.func (.func k') #[] #[]] w (Tx I w (nY g s)):=by
 refine aG8 ?_;refine bG ?_;obtain⟨j,U⟩:=cg ((w.alloc (ae #[aq V] 79)).alloc (ae #[ai] 57));have sA:j.heap.size=w.heap.size+2:=yH;have W:Ext w j:=yF;have t:j.heap[w.heap.size]?=aN #[aq V] 79:=yH;have u:j.heap[w.heap.size+1]?=aN #[ai] 57:=yH;rw[size_alloc,<- U];refine(alK s j R (H.sig.ext W)).mono ?_;rintro e w1 ⟨d,f⟩;have s1:=d.size;by_cases l:2000<s.length
 .rw[zip l] at f;obtain⟨b,rfl,m,K⟩:=f;exact adr (by rw[nY,zip l]) yF (d.ext _ _ t) (d.ext _ _ u) m zo
 rw[bI l] at f;cases hx:P.lex s with
 | inl i=>
  rw[hx] at f;obtain⟨b,rfl,m,K⟩:=f;exact adr (by rw[nY,bI l,hx]) yF (d.ext _ _ t) (d.ext _ _ u) m zo
 | inr T=>
  rw[hx] at f;obtain⟨v,rfl,y⟩:=f;have L:=NY hx;have X:0<T.length:=(Tv.of L zo).toTW.pos;obtain⟨tP,y⟩:=y;rcases y with⟨-,h0⟩| ⟨tb,cap,cur,rfl,G2,CE,Ft,xl,ht5,K4⟩
  .omega
  refine bG ?_;have z:=bh CE;obtain⟨n,B⟩:=cg (w1.alloc (ae #[cV tb T.length cap,bX,zi 0] 145));have C:Ext w1 n:=yF;have sP:n.heap.size=w1.heap.size+1:=yH;have bP:n.heap[w1.heap.size]?=aN #[cV tb T.length cap,bX,zi 0] 145:=yH;rw[<- B];have M:Ext w n:=yF;have oH:SP n w1.heap.size tb T 0 [] 0:=SP.fresh L zo yH K4 ((H.GL.ext fun b o _=>M.ext b o).up zo) z Ft (by grind [maxLen]) bP;refine⟨Q,(S hx oH (fun hC=>(hC.ext fun b o _=>M.ext b o).up zo) sP).mono ?_⟩;have tU:nY g s=g T:=by rw[nY,bI l,hx]
  rintro e w3 ⟨p,r⟩;have s3:=p.size;have N:Ext w1 w3:=⟨p.os.trans C.os,p.tape.trans C.tape,p.output.trans C.output,zo,fun b o hb _=>p.block b o yH (by
   have:=bh hb;rintro (h | ⟨h,_⟩)<;>omega)⟩
  have D:Ext w w3:=yF;have q4:=N.ext _ _ (d.ext _ _ t);have E:=N.ext _ _ (d.ext _ _ u);cases hr:g T with
  | err c a=>
   rw[hr] at r;obtain⟨b,rfl,m,K⟩:=r;exact adr (tU.trans hr) D q4 E m zo
  | ok x k vs=>
   rw[hr] at r;obtain⟨b,rfl,g1⟩:=r;have l4:=bh q4;have l5:=bh E;refine dF @q4 @E ?_;refine aHi ?_;obtain⟨q,uG⟩:=cg (bS (bS w3 w.heap.size (ae #[pp b] 79)) (w.heap.size+1) (ae #[ai] 57));have k4:q.heap[w.heap.size]?=aN #[pp b] 79:=yH;have k5:q.heap[w.heap.size+1]?=aN #[ai] 57:=yH;have hz:∀ b o,b≠w.heap.size->b≠w.heap.size+1->w3.heap[b]?=O o->q.heap[b]?=O o:=yH;have Xy:Ext w q:=yF;have sz:q.heap.size=w3.heap.size:=yH;rw[<- uG];refine dF @k4 @k5 ?_;refine⟨Xy,?_⟩;exact yH
