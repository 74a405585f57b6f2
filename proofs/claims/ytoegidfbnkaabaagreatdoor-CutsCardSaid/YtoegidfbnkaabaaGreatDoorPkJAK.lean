/- A part of one proof (PureF, SX3, SX4, ShS2, SX5, PX1, PureTx, GBase2, SX6, PX2). -/
import Derived.Test.YtoegidfbnkaabaaGreatDoorPkJAJ
import Derived.Recover
import Derived.Tactics
import Derived.Tactics2
set_option linter.all false
set_option maxRecDepth 100000
set_option maxHeartbeats 8000000
open Option renaming some → O, none → V
open Go renaming Value → Y, World → Z
open Bool renaming true → A, false → G
open Go.Obj renaming cells → ae
open Go.Ending renaming returned → ah
open Go.Value renaming nilIface → ai, iface → aj, tuple → ak, pointer → aq
open Option.some renaming injEq → aZG, inj → aZN
open Go.Instr renaming loadAt → aZX
open Go.World renaming ownsRow_nil → aZ8, cell? → a0l
open Nat renaming lt_of_lt_of_le → a0b
open Go.Exit renaming thenS → a0o
open Go.Proofs.Tryz renaming prog → a9y
open Go.Proofs.Tryz
namespace Go.Proofs.YtoegidfbnkaabaaGreatDoor
open P
variable{B B' b base c cap d e f k k' m mb n o pb so tb:Nat}{F:Nat->Prop}{R:Ending->Z->Prop}{T:List P.Tok}{W w w' w1 w2 w3:Z}{X:Y->Z->Prop}{av o4 o5 tv u v vv:Y}{cs iB:Array Y}{res:Z->Prop}{s:Bs}{vars:List Bs}{xs:List Y}
namespace P
def Mx{T:List Tok}(h:(tk T k).kind≠0):k<T.length:=by
 grind [Nat.lt_or_ge,absurd,tk,List.getElem?_eq_none]
def xo{T:List Tok}{s:Bs}(h:eh T k s=A):k<T.length:=by
 refine Mx fun a=>?_;simp_all [eh]
def bind_some{α β:Type}{r:Option (cj α)}{g:α->Nat->List Bs->Option (cj β)}(h:∃ q,r=O q)(b:∀ a k v,r=O (.ok a k v)->∃ q,g a k v=O q):∃ q,cj.bind r g=O q:=by
 obtain⟨q,rfl⟩:=h;cases q with
 | err e a=>exact⟨_,J⟩
 | ok a k v=>exact b a k v J
def J4{α:Type}(T:List Tok)(s:Bs)(x:α)(k:Nat)(v:List Bs):∃ q,mW T s x k v=O q:=by
 unfold mW;split<;>exact⟨_,J⟩
def aFh{T:List Tok}{v v':List Bs}{x:Ex}(h:pN T f k v d=O (.ok x k' v')):k<T.length:=by
 cases f with
 | zero=>simp_all [pN]
 | succ f=>
  refine Mx fun a=>?_;grind [eh,pN]
def OV{T:List Tok}:∀ {f l k:Nat} {v v':List Bs} {d k':Nat} {x:Ex},jt T f l k v d=O (.ok x k' v')->k<T.length
 | 0,_,_,_,_,_,_,_,h=>by simp_all [jt]
 | f+1,l,k,v,v',d,k',x,h=>by
  rw[jt] at h;split at h
  .exact aFh h
  .obtain⟨a,c,v1,b,_⟩:=ee h;exact OV b
def aFi{T:List Tok}{l:Nat}{o:Bs}(h:Ra T l k=O o):k<T.length:=xo (List.find?_some h)
structure Tot(T:List Tok)(f:Nat):Prop where
 Ez:∀ k v d,16*(T.length-k)+1<=f->∃ r,pN T f k v d=O r
 args:∀ k v d a acc,16*(T.length-k)+5<=f->∃ r,oW T f k v d a acc=O r
 list:∀ k v d,16*(T.length-k)+6<=f->∃ r,qV T f k v d=O r
 elems:∀ k v d acc,16*(T.length-k)+5<=f->∃ r,rK T f k v d acc=O r
 oper:∀ l k v d,l<=2->16*(T.length-k)+(4-l)<=f->∃ r,jt T f l k v d=O r
 more:∀ l y k v d,l<=1->16*(T.length-k)+1<=f->∃ r,qx T f l y k v d=O r
def tot(T:List Tok):∀ f,Tot T f
 | 0=>⟨fun _ _ _ h=>zo,fun _ _ _ _ _ h=>zo,fun _ _ _ h=>zo,fun _ _ _ _ h=>zo,fun _ _ _ _ _ h=>zo,fun _ _ _ _ _ _ h=>zo⟩
 | f+1=>by
  have ih:=tot T f;have b:=mono T f;refine⟨?_,?_,?_,?_,?_,?_⟩
  .intro k v d c;rw[pN];split
   .grind
   split
   .grind
   split
   .grind
   split
   .split
    .rename_i h;have:=xo h;exact bind_some (ih.args _ _ _ _ _ zo) fun _ _ _ _=>J4 _ _ _ _ _
    grind
   split
   .split<;>exact⟨_,J⟩
   split
   .rename_i h;have:=xo h;exact bind_some (ih.oper 0 _ _ _ zo zo) fun _ _ _ _=>J4 _ _ _ _ _
   split
   .rename_i h;have:=xo h;exact ih.list _ _ _ zo
   grind
  .intro k v d a acc c;rw[oW];refine bind_some (ih.oper 0 _ _ _ zo zo) fun x k' v' h=>?_;have g:=OV h;have e:=b.oper _ _ _ _ _ _ _ h;split
   .exact ih.args _ _ _ _ _ zo
   .split<;>exact⟨_,J⟩
  .intro k v d c;rw[qV];split
   .grind
   .refine bind_some (ih.elems _ _ _ _ zo) fun x k' v' h=>?_;have e:=b.elems _ _ _ _ _ _ _ h;split
    .rename_i j;have:=xo j;exact bind_some (ih.oper 0 _ _ _ zo zo) fun _ _ _ _=>J4 _ _ _ _ _
    simp_all [J4]
  .intro k v d acc c;rw[rK];refine bind_some (ih.oper 0 _ _ _ zo zo) fun x k' v' h=>?_;have g:=OV h;have e:=b.oper _ _ _ _ _ _ _ h;split
   .exact ih.elems _ _ _ _ zo
   grind
  .intro l k v d i c;rw[jt];split
   .exact ih.Ez _ _ _ zo
   .refine bind_some (ih.oper _ _ _ _ zo zo) fun x k' v' h=>?_;have g:=OV h;have e:=b.oper _ _ _ _ _ _ _ h;exact ih.more _ _ _ _ _ zo zo
  .intro l y k v d i c;rw[qx];split
   .grind
   .rename_i o m;have n:=aFi m;refine bind_some (ih.oper _ _ _ _ zo zo) fun x k' v' h=>?_;have e:=b.oper _ _ _ _ _ _ _ h;exact ih.more _ _ _ _ _ i zo
def aFk{T:List Tok}{v v':List Bs}{x:Bd}(h:np T f k v d=O (.ok x k' v')):k<T.length:=by
 cases f with
 | zero=>simp_all [np]
 | succ f=>
  rw[np] at h;split at h
  .grind
  split at h
  .rename_i b;exact xo b
  split at h
  .rename_i b;exact xo b
  split at h
  .rename_i b;exact xo b
  .obtain⟨a,e,v1,c,_⟩:=ee h;exact OV c
structure aFl(T:List Tok)(f:Nat):Prop where
 lit:∀ k v d,16*(T.length-k)+5<=f->∃ r,np T f k v d=O r
 lits:∀ k v d acc,16*(T.length-k)+6<=f->∃ r,pO T f k v d acc=O r
 row:∀ k v d,16*(T.length-k)+7<=f->∃ r,nJ T f k v d=O r
 rest:∀ k v d,16*(T.length-k)+9<=f->∃ r,pP T f k v d=O r
 body:∀ k v d,16*(T.length-k)+8<=f->∃ r,ml T f k v d=O r
def totB(T:List Tok):∀ f,aFl T f
 | 0=>⟨fun _ _ _ h=>zo,fun _ _ _ _ h=>zo,fun _ _ _ h=>zo,fun _ _ _ h=>zo,fun _ _ _ h=>zo⟩
 | f+1=>by
  have ih:=totB T f;have it:=tot T f;have g:=mono T f;have mb:=Se T f;refine⟨?_,?_,?_,?_,?_⟩
  .intro k v d a;rw[np];split
   .grind
   split
   .grind
   split
   .rename_i h;have:=xo h;exact bind_some (ih.lit _ _ _ zo) fun _ _ _ _=>⟨_,J⟩
   split
   .rename_i h;have:=xo h;exact bind_some (ih.body _ _ _ zo) fun _ _ _ _=>J4 _ _ _ _ _
   .refine bind_some (it.oper 0 _ _ _ zo zo) fun x k' v' h=>?_;have c:=g.oper _ _ _ _ _ _ _ h;have e:=OV h;split
    .exact bind_some (it.oper 0 _ _ _ zo zo) fun _ _ _ _=>⟨_,J⟩
    .repeat' split<;>simp_all
  .intro k v d acc a;rw[pO];refine bind_some (ih.lit _ _ _ zo) fun x k' v' h=>?_;have e:=aFk h;have c:=mb.lit _ _ _ _ _ _ h;split
   .exact ih.lits _ _ _ _ zo
   grind
  .intro k v d a;rw[nJ];exact bind_some (ih.lits _ _ _ _ zo) fun _ _ _ _=>⟨_,J⟩
  .intro k v d a;rw[pP];split
   .grind
   .exact ih.body _ _ _ zo
  .intro k v d a;rw[ml];refine bind_some (ih.row _ _ _ zo) fun x k' v' h=>?_;have c:=mb.row _ _ _ _ _ _ h;split
   .rename_i i;have e:=xo i;refine bind_some (ih.row _ _ _ zo) fun x m v2 j=>?_;have n:=mb.row _ _ _ _ _ _ j;split
    .rename_i b;have l:=xo b;exact bind_some (ih.rest _ _ _ zo) fun _ _ _ _=>⟨_,J⟩
    grind
   .split
    .rename_i b;have l:=xo b;exact bind_some (ih.rest _ _ _ zo) fun _ _ _ _=>⟨_,J⟩
    grind
def xp(T:List Tok):Nat:=16*T.length+20
def ak0(T:List Tok)(name:Bs)(args:List Ex)(a k:Nat)(v:List Bs):∃ r,Jn T (xp T) name args a k v=O r:=by
 unfold Jn xp;split
 .grind
 split
 .exact bind_some ((totB T _).body _ _ _ zo) fun _ _ _ _=>J4 _ _ _ _ _
 simp_all [J4]
def aFm(T:List Tok)(k:Nat):∃ r,Ei T (xp T) k=O r:=by
 unfold Ei;split
 .split
  .refine bind_some ((tot T _).args _ _ _ _ _ (by grind [xp])) fun l k' v' h=>?_;simp_all [bind_some,J4,ak0]
  simp_all [ak0]
 grind
def ak1{T:List Tok}{name:Bs}{args:List Ex}{a:Nat}{v:List Bs}{c:Cl}{v':List Bs}(h:Jn T f name args a k v=O (.ok c k' v')):k<k'/\c.vars=v':=by
 unfold Jn at h;split at h
 .grind
 split at h
 .obtain⟨b,g,v1,d,e⟩:=ee h;obtain⟨i,j,l⟩:=nP e;have:=(Se T f).body _ _ _ _ _ _ d;grind
 grind [nP]
def aFn{T:List Tok}{c:Cl}{v':List Bs}(h:Ei T f k=O (.ok c k' v')):k<k'/\k<T.length:=by
 unfold Ei at h;split at h
 .rename_i hk;have g:k<T.length:=Mx zo;split at h
  .obtain⟨l,i,v1,a,b⟩:=ee h;obtain⟨j,m,v2,d,e⟩:=ee b;have n:=(mono T f).args _ _ _ _ _ _ _ _ a;obtain⟨o,_,_⟩:=nP d;have:=(ak1 e).1;omega
  .have:=(ak1 h).1;omega
 grind
def EG(T:List Tok):Nat->Nat->List Cl->Option (cj (List Cl))
 | 0,_,_=>V
 | f+1,k,acc=>
  if (tk T k).kind=0 then O (.ok acc k [])
  else if acc.length=40 then O (.err 4 (tk T k).pos)
  else cj.bind (Ei T (xp T) k) fun c k' _=>EG T f k' (acc++[c])
def ak2{T:List Tok}:∀ (f k:Nat) (acc:List Cl),T.length-k<f->∃ r,EG T f k acc=O r
 | 0,_,_,h=>zo
 | f+1,k,acc,h=>by
  rw[EG];split
  .grind
  split
  .grind
  .refine bind_some (aFm _ _) fun c k' v' a=>?_;have b:=aFn a;exact ak2 f k' _ zo
def Ib(T:List Tok):cj (List Cl):=(EG T (T.length+1) 0 []).getD (.err 0 0)
def ak3(T:List Tok):EG T (T.length+1) 0 []=O (Ib T):=by
 obtain⟨r,hr⟩:=ak2 (T:=T) (T.length+1) 0 [] zo;simp_all [Ib]
end P
open Go.RowKit Sx
def EH(F:Nat->Prop)(w:Z)(v:Y)(c:Cl):Prop:=∃ b av bv a d,v=pp b/\F b /\
 w.heap[b]?=aM #[aT c.name,av,bv,.slice a c.vars.length d] 86/\lp F w av c.args/\dL F w bv c.body
def j9(F:Nat->Prop)(w:Z)(vs:List Y):List Cl->Prop
 | []=>vs=[]
 | x::xs=>∃ v r,vs=v::r/\EH F w v x/\j9 F w r xs
def B1(F:Nat->Prop)(w w':Z):Prop:=∀ b cs t,F b->t≠9->w.heap[b]?=aM cs t->w'.heap[b]?=aM cs t
theorem B1.kX(h:B1 F w w'):∀ b o,F b->C5 o->w.heap[b]?=O o->w'.heap[b]?=O o:=by
 intro b o c a d;cases o with
 | cells cs t z=>
  obtain⟨e,rfl⟩:=a;refine h b cs t c ?_ d;grind
 | _=>exact a.elim
theorem EH.mono{F F':Nat->Prop}{w w':Z}{v:Y}{c:Cl}(a:∀ b,F b->F' b)(hw:B1 F w w')(h:EH F w v c):EH F' w' v c:=by
 obtain⟨b,av,bv,e,f,g,d,i,j,k⟩:=h;exact⟨b,av,bv,e,f,g,a b d,hw b _ _ d zg i,j.mono a hw.kX,dL.mono a hw.kX _ _ k⟩
theorem j9.mono{F F':Nat->Prop}{w w':Z}(a:∀ b,F b->F' b)(hw:B1 F w w'):∀ (xs:List Cl) (vs:List Y),j9 F w vs xs->j9 F' w' vs xs
 | [],vs,h=>h
 | x::xs,vs,h=>by
  obtain⟨v,r,c,d,e⟩:=h;exact⟨v,r,c,d.mono a hw,j9.mono a hw xs r e⟩
def j9.snoc{F:Nat->Prop}{w:Z}{v:Y}{x:Cl}(hx:EH F w v x):∀ {xs:List Cl} {vs:List Y},j9 F w vs xs->j9 F w (vs++[v]) (xs++[x])
 | [],vs,h=>by
  have h:vs=[]:=h;subst h;exact⟨v,[],J,hx,J⟩
 | y::c,vs,h=>by
  obtain⟨u,r,rfl,a,b⟩:=h;exact⟨u,r++[v],J,a,j9.snoc hx b⟩
theorem cZ.ak4(h:cZ pb w w')(a:∀ b,F b->b≠pb):B1 F w w':=fun b _ _ c ht d=>(by grind [bH])
def SP.x(h:SP w pb tb T k vars d):∃ cap e f cs,
  w.heap[pb]?=aM #[.slice (O ⟨tb,k*3,V⟩) (T.length-k) (cap-k),.slice e vars.length f,zi d] 145/\T.length<=cap/\cap<=9223372036854775807/\T.length<=2001/\k<T.length /\
  w.heap[tb]?=aM cs 142/\k*3+3<=cs.size/\(cs.toList.drop (k*3)).take 3=[zi (tk T k).kind,aT ((tk T k).text),zi (tk T k).pos] /\
  cs[k*3]?=O (zi (tk T k).kind)/\cs[k*3+1]?=O (aT ((tk T k).text))/\cs[k*3+2]?=O (zi (tk T k).pos):=by
 obtain⟨tw,lt,kt,nv,⟨-,cs,t1,t2⟩,cap,vv,g,i,j,l⟩:=h;obtain⟨a,b,c⟩:=t2 k kt;obtain⟨e,f,rfl⟩:=gV l;have m:=(Array.getElem?_eq_some_iff.1 c).1;refine⟨cap,e,f,cs,j,g,i,tw.len,kt,t1,zo,?_,a,b,c⟩;apply List.ext_getElem?;grind
def SP.abQ{x:Nat}{t:TypeId}{z:Nat×Nat}{o:Obj}(h:SP w pb tb T k vars d)
  (hx:w.heap[x]?=O (ae cs t z)) (ht:t≠9) (a:x≠pb) (b:tb<x):SP (bO w x o) pb tb T k vars d:=
 (by grind [iY,other])
def SP.abR(h:SP w pb tb T k vars d)(a:Ext w w'):SP w' pb tb T k vars d:=h.ext a.ext
def SP.aFo(h:SP w pb tb T k vars d)
  (c:w.heap[pb]?=aM #[.slice (O ⟨tb,k*3,V⟩) (T.length-k) (cap-k),vv,zi d] 145) (a:T.length<=cap) (b:cap<=9223372036854775807) :
  SP (bO w pb (ae #[.slice (O ⟨tb,k*3,V⟩) (T.length-k) (cap-k),bV,zi d] 145)) pb tb T k [] d:=by
 obtain⟨tw,lt,kt,nv,⟨e,cs,t1,t2⟩,_⟩:=h;refine⟨tw,lt,kt,zs,⟨(by grind [iY,zy.ext]),cs,yH,t2⟩,cap,bV,a,b,yH,aZ8 _ _ _ _⟩
theorem SP.onU(h:SP w pb tb T k vars d)
  (f:w.heap[pb]?=aM #[.slice (O ⟨tb,k*3,V⟩) (T.length-k) (cap-k),vv,zi d] 145) (hk:k+1<T.length) (a:k'=T.length-(k+1)) (b:so=cap-(k+1)) (c:mb=(k+1)*3) :
  SP (bO w pb (ae #[.slice (O ⟨tb,mb,V⟩) k' so,vv,zi d] 145)) pb tb T (k+1) vars d:=by
 subst a b c;refine h.set hk ((bB.refl _ _).bO (.inl fun _=>.inl J)) (fun g e i=>?_) yH;exact yH
def ak5(pb:Nat)(w:Z)(r:cj (List Cl))(e:Ending)(w':Z):Prop:=
 cZ pb w w'/\match r with
 | .err c a=>mN c a w w' e
 | .ok cs _ _=>∃ v vs,e = ah v/\fK (Nu w w') w' 79 v vs/\j9 (Nu w w') w' vs cs
def Wg(B:Nat)(w1:Z)(v:Y)(acc:List Cl):Prop:=
 ∃ xs,w1.ownsRow B 79 1 v acc.length xs/\j9 (fun b=>B<=b/\b<w1.heap.size/\O b≠v.ownBlock) w1 xs acc
def aFr:(Tryz.prog.info? 79).map (fun i=>(i.zero,i.size,i.bytes))=O (O (aq V),1,8):=zk
def abS(d:w.ownsRow base 79 1 v n xs){a:Y}
  (f:w.heap[b]?=aM #[a] 79) (q:a.oneCell'=A)
  (r:n<=100000) (g:base<=w.heap.size) {K:Y->Z->Prop}
  (h:∀ v' w',w'.ownsRow base 79 1 v' (n+1) (xs++[a])->w.grownBy w' v.ownBlock->(v'.ownBlock=v.ownBlock\/∀ k,v'.ownBlock=O k->w.heap.size<=k)->K v' w') :
  WR a9y (Builtin.append_ #[68,68] 68 #[v,cR b 1 m]) w K X:=by
 obtain⟨i,j,c⟩:=Option.map_eq_some_iff.1 aFr;simp only[Prod.mk.injEq] at c;obtain⟨l,o,p⟩:=c;refine ajh (m:=1) (t:=68) (e:=79) zk j l o p J zo d f J (fun u hu=>?_) zo zo g h;grind
theorem abT{l:Nat}(h:¬ cap=l):sliced (O ⟨b,o,V⟩) l pb cap n = .slice (O ⟨b,o+l*n,V⟩) (pb-l) (cap-l):=by
 unfold sliced;rw[bZ h];simp [addr_add]
theorem ak6(h:cZ pb w w'){size:Nat}(hu:w.ownsRow base e size v n xs)(d:pb<base)(he:e≠9):w'.ownsRow base e size v n xs:=by
 obtain⟨a,hu⟩:=hu;refine⟨a,?_⟩;rcases hu with hu | ⟨g,cap,cur,rfl,b,f,c⟩
 .exact yH
 .exact .inr ⟨g,cap,cur,J,b,(by grind [cZ.bH]),c⟩
def aFs{size:Nat}{a:List Y}(h:w.ownsRow base e size v n xs)(b:w.ownsRow base e size v n a):xs=a:=by
 rcases h.2 with⟨c,d⟩| ⟨g1,o,f,c,_,g2,_,_,_,g3⟩
 .have g:=h.1;have i:=b.1;rw[d] at g i;grind
 .rcases b.2 with⟨j,_⟩| ⟨p,k,l,j,_,q,_,_,_,m⟩<;>grind
def Wg.more{acc:List Cl}{x:Cl}(h:Wg B w1 v acc)(j:cZ pb w1 w2)(y:pb<B)(hx:EH (Nu w1 w2) w2 u x)(l:B<=w1.heap.size)
  (f:Ext w2 w3) (m:w3.ownsRow B 79 1 v acc.length xs) (n:W.ownsRow B 79 1 tv (acc.length+1) (xs++[u]))
  (o:w3.grownBy W v.ownBlock) (hv:tv.ownBlock=v.ownBlock\/∀ k,tv.ownBlock=O k->w3.heap.size<=k):Wg B W tv (acc++[x]):=by
 obtain⟨a,o1,o2⟩:=h;have p:=j.size;have q:=f.size;have r:=o.size;have s:w3.ownsRow B 79 1 v acc.length a:=jJ f.ext (by grind [ak6]);have e:a=xs:=aFs s m;subst e;have lt:∀ k,v.ownBlock=O k->k<w1.heap.size:=fun k hk=>(o1.lt k hk).2;have c:∀ b t cs,O b≠v.ownBlock->b<w3.heap.size->w3.heap[b]?=aM cs t->W.heap[b]?=aM cs t:=
  (by grind [World.grownBy.block])
 have nv:∀ b,b<w3.heap.size->O b≠v.ownBlock->O b≠tv.ownBlock:=yH;refine⟨_,by rw[List.length_append];exact n,j9.snoc ?_ ?_⟩
 .refine hx.mono yH (fun b cs t g ht i=>?_);have d:=f.ext _ _ i;exact c b _ cs (fun e=>by have:=lt b e.symm;have:=g.1;omega) (bg d) d
 .refine j9.mono (F:=fun b=>B<=b/\b<w1.heap.size/\O b≠v.ownBlock) yH (fun b cs t g ht i=>?_) _ _ o2;have w:=j.bH i (by have:=g.1;omega) ht;have d:=f.ext _ _ w;exact c b _ cs g.2.2 (bg d) d
structure Gh(pb tb:Nat)(T:List P.Tok)(B:Nat)(w:Z)(q3 q:Nat)(nm:Bs)(r:cj Cl)(cont:List Ex->Bd->Nat->List Bs->Option (cj Cl))(w':Z):Prop where
 fr:cZ pb w w'
 t3:∃ kd ps,w'.heap[q3]?=aM #[zi kd,aT nm,zi ps] 142
 st:∃ av bv l bd k vs,w'.heap[q]?=aM #[aT nm,av,bv,bV] 86 /\
  lp (fun b=>B<=b/\b<w'.heap.size/\b≠q) w' av l/\dL (fun b=>B<=b/\b<w'.heap.size/\b≠q) w' bv bd/\SP w' pb tb T k vs 0/\cont l bd k vs=O r
def ak9(h:SP w pb tb T k vars d)(s:Bs)(b:s.all P.digit=G) :
  Calls a9y 49 #[pp pb,aT s] w fun e w'=>e = ah (.bool (eh T k s))/\SP w' pb tb T (if eh T k s=A then k+1 else k) vars d/\cZ pb w w':=by
 by_cases hx:eh T k s=A
 .refine Calls.mono (uE h s hx) ?_;grind
 .have a:eh T k s=false:=zg;refine Calls.mono (pW h s a b) ?_;rintro e w' ⟨rfl,rfl⟩;rw[bZ hx,a];exact⟨J,h,bB.refl _ _⟩
def abV(h:SP w pb tb T k vars d)(s:Bs)(b:s.all P.digit=G){α:Type}(x:α){r:cj α}(hr:mW T s x k vars=O r) :
  Calls a9y 51 #[pp pb,aT s] w fun e w'=>cZ pb w w' /\
   ((e = ah (ak #[])/\r = .ok x (k+1) vars/\SP w' pb tb T (k+1) vars d)\/(∃ c a,r = .err c a/\mN c a w w' e)):=by
 unfold mW at hr;split at hr
 .rename_i hx;refine(RF h s hx).mono ?_;grind
 .rename_i hx;refine(RG h s zg b).mono ?_;grind
theorem Gh.step{q:Nat}{nm:Bs}{r:cj Cl}{a:List Ex->Bd->Nat->List Bs->Option (cj Cl)}(d:cZ pb w w1)(c:cZ pb w1 w2)
  (e:pb<cap/\cap<B/\B<=q) (t3:∃ kd ps,w1.heap[cap]?=aM #[zi kd,aT nm,zi ps] 142) {l:List Ex} {bd:Bd} {vs:List Bs}
  (g1:w1.heap[q]?=aM #[aT nm,av,tv,bV] 86)
  (g2:lp (fun b=>B<=b/\b<w1.heap.size/\b≠q) w1 av l) (g3:dL (fun b=>B<=b/\b<w1.heap.size/\b≠q) w1 tv bd) (g4:SP w2 pb tb T k vs 0) (g5:a l bd k vs=O r):Gh pb tb T B w cap q nm r a w2:=by
 have:=c.size;obtain⟨kd,ps,t3⟩:=t3;have hm:∀ b,(fun b=>B<=b/\b<w1.heap.size/\b≠q) b->(fun b=>B<=b/\b<w2.heap.size/\b≠q) b:=yH;have hk:B1 (fun b=>B<=b/\b<w1.heap.size/\b≠q) w1 w2:=(by grind [cZ.ak4]);exact⟨d.trans c,(by grind [t3,cZ.bH]),av,tv,l,bd,k,vs,(by grind [cZ.bH]),g2.mono hm hk.kX,dL.mono hm hk.kX _ _ g3,g4,g5⟩
def aFt(h:SP w pb tb T 0 [] 0)(z:mw w tb) :
  Calls a9y 46 #[pp pb] w (ak5 pb w (Ib T)):=by
 have hlt:=h.lt;have fY:=h.d2.2.2;refine avO ?_;refine⟨fun n t w2=>cZ pb w w2/\∃ f k vs acc,n=f+1/\acc.length<=40/\EG T f k acc=O (Ib T)/\SP w2 pb tb T k vs 0/\Wg w.heap.size w2 (t 2) acc,
  ⟨_,bB.refl _ _,_,0,[],[],J,zs,ak3 T,h,[],aZ8 _ _ _ _,J⟩,?_⟩
 intro n t dd w2 hI;refine toPr ?_;obtain⟨hF,f,k,vs,acc,rfl,aUc,j,hP,eP⟩:=hI;have s12:=hF.size;cases f with
 | zero=>rw[EG] at j;cases j
 | succ f=>
 rw[EG] at j;obtain⟨cap,va,vc,cs,h3,jw,rO,hlT,Hv,g0,g1,g2,g3,g4,g5⟩:=hP.x;have l3:=bg h3;have e0:((0:Nat):Int)=0:=rfl;rw[e0] at h3;obtain⟨xs,o1,o2⟩:=id eP;obtain⟨ra,rc,hv⟩:=gV o1;have hcw:mw w2 tb:=z.fr hF hlt;by_cases AW:(tk T k).kind=0
 .rw[zip AW] at j;refine iZ h3 @g0 @g3 ?_;rw[<- aZN j];refine⟨hF,t 2,xs,J,Et o1 (fun b p=>⟨(o1.lt b p).1,(o1.lt b p).2⟩),j9.mono yH (fun b cs t _ _ z=>z) _ _ o2⟩
 .rw[bZ AW] at j;have alb:¬ (((tk T k).kind:Nat):Int)=0:=zo;have hnx:=hP.tw.next Hv AW
  refine dH h3 @g0 @g3 @g5 ?_;refine⟨fun _ w3=>w3=w2/\¬ acc.length=40,?_,?_⟩
  .by_cases H:acc.length=40
   .rw[zip H] at j;have aFv:(acc.length:Int)=40:=zo;refine cH hv ?_;refine(BF _ _ _ pb hP.sb).mono ?_;rintro e w3 ⟨i,xr,-⟩;have OO:=Mt i s12;obtain⟨b,rfl,-,-⟩:=i;refine bE ?_;rw[<- aZN j];exact⟨hF.trans xr,OO⟩
   .have aFv:¬ (acc.length:Int)=40:=zo;refine cH hv ?_;omega
  .rintro _ w3 ⟨rfl,H⟩ _;rw[bZ H] at j;cases g:Ei T (xp T) k with
   | none=>rw[g] at j;cases j
   | some qc=>
   rw[g] at j;have hq5:=hP.aFo h3 jw rO;have Sq:cZ pb w3 (bO w3 pb (ae #[.slice (O ⟨tb,k*3,V⟩) (T.length-k) (cap-k),bV,zi 0] 145)):=(bB.refl _ _).bO (.inl fun _=>.inl J);have g05:(bO w3 pb (ae #[.slice (O ⟨tb,k*3,V⟩) (T.length-k) (cap-k),bV,zi 0] 145)).heap[tb]?=aM cs 142:=yH;refine iZ h3 @g0 @g2 ?_;refine⟨fun _ d=>(tk T k).kind=1/\cZ pb w3 d/\SP d pb tb T k [] 0/\d.heap[w3.heap.size]?=aM #[zi (tk T k).kind,aT ((tk T k).text),zi (tk T k).pos] 142/\d.heap.size=w3.heap.size+1 /\
    (∀ b cs t,b<w3.heap.size->b≠pb->w3.heap[b]?=aM cs t->d.heap[b]?=aM cs t),?_,?_⟩
   .have B:Ext (bO w3 pb (ae #[.slice (O ⟨tb,k*3,V⟩) (T.length-k) (cap-k),bV,zi 0] 145)) (bO ((bO w3 pb (ae #[.slice (O ⟨tb,k*3,V⟩) (T.length-k) (cap-k),bV,zi 0] 145)).alloc (ae #[zi 0,aT [],zi 0] 142)) w3.heap.size (ae #[zi (tk T k).kind,aT ((tk T k).text),zi (tk T k).pos] 142)):=yF;have uK:=hq5.abR B;by_cases jQ:(tk T k).kind=1
    .have aFx:(((tk T k).kind:Nat):Int)=1:=zo;refine cH @g2 ?_;refine⟨jQ,Sq.trans B.toM,uK,fun b cs t p B3 z=>B.ext _ _ ?_⟩;rw[iY B3];exact z
    .have aFx:¬ (((tk T k).kind:Nat):Int)=1:=zo;rw[Ei,bZ jQ] at g;refine cH @g2 ?_;refine(RE uK).mono ?_;rintro e w7 ⟨i,y,-⟩;have OO:=Mt (w:=w) i (by rw[uC,size_alloc,uC];omega);obtain⟨b,rfl,-,-⟩:=i;refine bE ?_;rw[<- aZN g] at j;simp only[cj.bind,aZG] at j;rw[<- j];exact⟨hF.trans ((Sq.trans B.toM).trans y),OO⟩
   .rintro _ d ⟨jQ,rh,uK,t6,s6,k6⟩ _;obtain⟨Wh,I,K,cs6,L,aUf,aUg,-,-,g06,-⟩:=uK.x;rw[e0] at L;have l6:=bg L;have lt6:=bg t6;have xm:¬ Wh-k=1:=zo;have lp6:pb<d.heap.size:=l6;have hB6:w.heap.size<=w3.heap.size:=s12;simp (disch:=first|assumption|omega|simp only[zS]<;>omega|decide) only[Pr,PX,PC,NX,ends,Em,oF,jd,Nat.reduceAdd,Nat.reduceMul,Nat.reduceLeDiff,Nat.reduceEqDiff,Int.reduceToNat,Int.reduceAdd,Int.reduceLT,Int.reduceLE,↓reduceIte,forall_const,eq_self,aaa,ju,ZK,ZL,Oq,Ot,FL,FM,ZN,ZO,ZP,ZQ,ZR,ZS,ZT,ZU,ZV,ZY,ZZ,ZW,ZX,Z4,Z5,Z6,Z7,Vx,Z1,aab,aac,aaJ,aad,aae,aaf,aag,LQ,sx,pS,iY,Ro,BE,uC,size_alloc,Rt,aam,aah,aai,aaj,aak,aal,aan,aao,aap,aaq,aar,aas,aat,aau,aav,aaw,aax,aay,aaz,aaA,aaB,aaC,aaD,aaE,Ov,Z9,Vs,ZH,ZI,Int.toNat_natCast,Option.isNone_none,Option.isNone_some,List.getElem?_toArray,List.getElem?_cons_zero,List.getElem?_cons_succ,List.setIfInBounds_toArray,List.set_cons_zero,List.set_cons_succ,List.size_toArray,List.length_cons,List.length_nil,List.drop_zero,List.drop_succ_cons,List.take_succ_cons,List.take_zero,List.take_nil,List.drop_nil,List.all_cons,List.all_nil,Bool.and_true,Bool.true_and,Nat.zero_add,Nat.add_zero,Nat.mul_one,and_self,and_true,true_and,decide_true,decide_false,Bool.not_true,Bool.not_false,not_true_eq_false,not_false_eq_true,aiJ,aiL,aiM,aiO,aiQ,aiR,aiS,aiT,aiU,aiV,aiW,aiX,aiY,aiZ,ai0,ai1,ai3,ai4,ai5,ai6,ai8,ajb,ajc,ajd,aje,ajf,L,t6,abT];have eq3:(bO w3 pb (ae #[.slice (O ⟨tb,k*3,V⟩) (T.length-k) (cap-k),bV,zi 0] 145)).heap.size=w3.heap.size:=yH;have eq:((bO d pb (ae #[.slice (O ⟨tb,k*3+3,V⟩) (T.length-k-1) (Wh-k-1),.slice I 0 K,zi 0] 145)).alloc (ae #[.int .u8 103,aT [116,114,117,101],bV,bV] 149)).heap.size=d.heap.size+1:=yH;have hlq:pb<w3.heap.size/\w3.heap.size<d.heap.size/\d.heap.size<=d.heap.size+1:=yH;have aUl:Ei T (xp T) k=O qc:=g;have aUm:∀ {M:Z},cZ pb w3 M->mw M tb:=(by grind [mw.fr,bB.trans]);have Ss:∀ {M w':Z} {e:Ending} {c a:Nat},cZ pb w3 M->cZ pb M w'->mN c a M w' e->qc = .err c a->ak5 pb w (Ib T) e w':=by
     intro M w' e c a EJ A4 i hqc;rw[hqc] at j;simp only[cj.bind,aZG] at j;rw[<- j];exact⟨(by grind [bB.trans]),Mt i (by have:=EJ.size;omega)⟩
    try rw[eq3]
    try rw[eq]
    refine⟨fun _ w'=>Gh pb tb T d.heap.size w3 w3.heap.size (d.heap.size+1) (tk T k).text qc (abA T (xp T) (tk T k).text (tk T k).pos) w',?_,?_⟩
    .have aUn:SP d pb tb T k [] 0:=uK;obtain⟨q,qG⟩:∃ q,q=((bO d pb (ae #[.slice (O ⟨tb,k*3+3,V⟩) (T.length-k-1) (Wh-k-1),.slice I 0 K,zi 0] 145)).alloc (ae #[.int .u8 103,aT [116,114,117,101],bV,bV] 149)).alloc
       (ae #[aT ((tk T k).text),bV,pp d.heap.size,bV] 86):=yH
     have N:SP q pb tb T (k+1) [] 0:=by
      have C:SP (bO d pb (ae #[.slice (O ⟨tb,k*3+3,V⟩) (T.length-k-1) (Wh-k-1),.slice I 0 K,zi 0] 145)) pb tb T (k+1) [] 0:=
       (by grind [SP.onU])
      rw[qG];exact C.abR (((bB.refl _ _).alloc _).alloc _)
     have D:cZ pb w3 q:=by
      rw[qG];exact((rh.bO (.inl fun _=>.inl J)).alloc _).alloc _
     have tA:q.heap[w3.heap.size]?=aM #[zi (tk T k).kind,aT ((tk T k).text),zi (tk T k).pos] 142:=by
      exact yH
     have bA:q.heap[d.heap.size]?=aM #[.int .u8 103,aT [116,114,117,101],bV,bV] 149:=by
      exact yH
     have cA:q.heap[d.heap.size+1]?=aM #[aT ((tk T k).text),bV,pp d.heap.size,bV] 86:=by
      exact yH
     have sA:q.heap.size=d.heap.size+2:=yH;have ny:dL (fun b=>d.heap.size<=b/\b<q.heap.size/\b≠d.heap.size+1) q (pp d.heap.size) Oh:=Dp yH bA H6 JY;show CA _ _ _ _ _ _;rw[<- qG];refine(ak9 N [40] zd).mono ?_;rintro e wB ⟨rfl,Wi,OW⟩;rw[Ei,zip jQ] at g;have sB:=OW.size;refine bE ?_;by_cases E:eh T (k+1) [40]=A
     .rw[zip E] at g Wi;rw[E,Oq];have tB:=OW.bH tA zo zd;have cB:=OW.bH cA zo zd;cases P:oW T (xp T) (k+1+1) [] 0 (tk T k).pos [] with
      | none=>rw[P] at g;simp [cj.bind] at g
      | some qa=>
      rw[P] at g;refine((aB9 _).go _ Wi zo P).mono ?_;intro e wC Su;cases qa with
      | err c a=>
       obtain⟨i,OX,-⟩:=Su;simp only[cj.bind,aZG] at g;have kK:=Ss (D.trans OW) OX i g.symm;obtain⟨b,rfl,-,-⟩:=i;refine bE ?_;omega
      | ok l k2 Sv=>
       obtain⟨v,rfl,jU,hPC,OX⟩:=Su;simp only[cj.bind] at g;have sC:=OX.size;have tC:=OX.bH tB zo zd;have cC:=OX.bH cB zo zd;have lcC:=bg cC;obtain⟨Q,R,ac,rfl⟩:∃ a n c,v = .slice a n c:=by
        obtain⟨vK,h1,-⟩:=jU;obtain⟨a,n,c,h,-⟩:=h1.shape;exact⟨a,n,c,h⟩
       refine cH @cC ?_;obtain⟨m,S⟩:=cd (bO wC (d.heap.size+1) (ae #[aT ((tk T k).text),.slice Q R ac,pp d.heap.size,bV] 86));rw[<- S];have hPD:SP m pb tb T k2 Sv 0:=by rw[S];exact hPC.abQ cC zd zo zo
       have U:cZ pb w3 m:=by rw[S];exact((D.trans OW).trans OX).bO (.inr zo)
       have tD:m.heap[w3.heap.size]?=aM #[zi (tk T k).kind,aT ((tk T k).text),zi (tk T k).pos] 142:=yH;have cD:m.heap[d.heap.size+1]?=aM #[aT ((tk T k).text),.slice Q R ac,pp d.heap.size,bV] 86:=yH;have sD:m.heap.size=wC.heap.size:=yH;have kD:B1 (fun b=>d.heap.size<=b/\b≠d.heap.size+1) wC m:=fun b cs t p _ z=>yH;have alh:dL (fun b=>d.heap.size<=b/\b<m.heap.size/\b≠d.heap.size+1) m (pp d.heap.size) Oh:=
        Dp yH (by grind [iY,cZ.bH]) H6 JY
       have ali:lp (fun b=>d.heap.size<=b/\b<m.heap.size/\b≠d.heap.size+1) m (.slice Q R ac) l:=
        jU.mono yH yH
       cases Gi:mW T [41] l k2 Sv with
       | none=>rw[Gi] at g;cases g
       | some qm=>
       rw[Gi] at g;refine(abV hPD [41] zd l Gi).mono ?_;rintro e wE ⟨W,(⟨rfl,X,Wj⟩| ⟨c,a,X,i⟩)⟩
       .rw[X] at g;refine bE ?_;exact Gh.step U W hlq yH cD ali alh Wj g
       .rw[X] at g;simp only[aZG] at g;have kK:=Ss U W i g.symm;obtain⟨b,rfl,-,-⟩:=i;refine bE ?_;omega
     .rw[bZ E] at g Wi;have sS:eh T (k+1) [40]=false:=zg;rw[sS,Ot];exact Gh.step D OW hlq yH cA H6 ny Wi g
    .rintro _ w7 r _;obtain⟨kd7,ps7,t7⟩:=r.t3;have y:=r.fr;obtain⟨av,bv,l,bd,k7,F,g7,ga,gb,C,o⟩:=r.st;generalize (tk T k).text=nm at *;generalize (tk T k).pos=pos at *;refine⟨fun _ w'=>Gh pb tb T d.heap.size w3 w3.heap.size (d.heap.size+1) nm qc (V0 T (xp T) nm) w',?_,?_⟩
     .refine⟨fun s w'=>w'=w7/\s 72 = .bool (decide (0<=jG nm\/nm=[109,111,100])),?_,?_⟩
      .refine cH @t7 ?_;refine(Mq _).mono ?_;rintro e w8 ⟨rfl,rfl⟩;refine du @ZM @t7 ?_;grind
      .rintro s8 w8 ⟨rfl,hs8⟩ _;rw[hs8];by_cases p:0<=jG nm\/nm=[109,111,100]
       .rw[FL _ _ p];rw[abA,zip p] at o;refine(BF _ _ _ pb C.sb).mono ?_;rintro e w9 ⟨i,ke,-⟩;have kK:=Ss y ke i (aZN o).symm;obtain⟨b,rfl,-,-⟩:=i;refine bE ?_;omega
       .rw[FM _ _ p];rw[abA,bZ p] at o;grind [Gh.step,bB.refl]
     .clear o C gb ga g7 y t7 r;rintro _ w8 r _;obtain⟨kd7,ps7,t7⟩:=r.t3;have y:=r.fr;obtain⟨av,bv,l,bd,k7,F,g7,ga,gb,C,o⟩:=r.st;refine⟨fun _ w'=>Gh pb tb T d.heap.size w3 w3.heap.size (d.heap.size+1) nm qc (fun l bd k vs=>mW T [46] ⟨nm,l,bd,vs⟩ k vs) w',?_,?_⟩
      .refine(ak9 C [58,45] zd).mono ?_;rintro e w9 ⟨rfl,hP9,ke⟩;refine bE ?_;by_cases E:eh T k7 [58,45]=A
       .rw[V0,zip E] at o;rw[zip E] at hP9;rw[E,Oq];cases p:ml T (xp T) (k7+1) F 0 with
        | none=>rw[p] at o;simp [cj.bind] at o
        | some qb=>
        rw[p] at o;refine((akZ _).go hP9 (by grind [bB.trans]) zo p).mono ?_;intro e q Su;cases qb with
        | err c a=>
         obtain⟨i,D,-⟩:=Su;simp only[cj.bind,aZG] at o;have kK:=Ss (y.trans ke) D i o.symm;obtain⟨b,rfl,-,-⟩:=i;refine bE ?_;omega
        | ok bd2 k2 Sv=>
         obtain⟨v,rfl,jU,N,D⟩:=Su;simp only[cj.bind] at o;have s9:=ke.size;have t9:=cZ.bH (ke.trans D) t7 zo zg;have g9:=cZ.bH (ke.trans D) g7 zo zg;have lg9:=bg g9;have lg7:=bg g7;obtain⟨vb,rfl,yw⟩:=jU.shape;refine cH @g9 ?_;obtain⟨m,S⟩:=cd (bO q (d.heap.size+1) (ae #[aT nm,av,pp vb,bV] 86));rw[<- S];have hPD:SP m pb tb T k2 Sv 0:=by rw[S];exact N.abQ g9 zd zo zo
         have U:cZ pb w3 m:=by rw[S];exact((y.trans ke).trans D).bO (.inr zo)
         have tD:m.heap[w3.heap.size]?=aM #[zi kd7,aT nm,zi ps7] 142:=yH;have cD:m.heap[d.heap.size+1]?=aM #[aT nm,av,pp vb,bV] 86:=yH;have sD:m.heap.size=q.heap.size:=yH;have kD:B1 (fun b=>d.heap.size<=b/\b≠d.heap.size+1) q m:=fun b cs t p _ z=>yH;have k9:B1 (fun b=>d.heap.size<=b/\b≠d.heap.size+1) w8 q:=(by grind [cZ.ak4,bB.trans]);have ali:lp (fun b=>d.heap.size<=b/\b<m.heap.size/\b≠d.heap.size+1) m av l:=
          ga.mono yH (by grind [B1.kX])
         have alh:dL (fun b=>d.heap.size<=b/\b<m.heap.size/\b≠d.heap.size+1) m (pp vb) bd2:=
          dL.mono yH yH _ _ jU
         grind [Gh.step,bB.refl]
       .rw[V0,bZ E] at o;rw[bZ E] at hP9;have sS:eh T k7 [58,45]=false:=zg;rw[sS,Ot];grind [Gh.step]
      .clear o C gb ga g7 y t7 r;rintro _ w9 r _;obtain⟨kd7,ps7,t7⟩:=r.t3;have y:=r.fr;obtain⟨av,bv,l,bd,k7,F,g7,ga,gb,C,o⟩:=r.st;refine(abV C [46] zd _ o).mono ?_;rintro e wE ⟨W,(⟨rfl,X,Wj⟩| ⟨c,a,X,i⟩)⟩
       .obtain⟨aUs,vaE,vcE,csE,h3E,-⟩:=Wj.x;have sE:=W.size;have gE:=W.bH g7 zo zd;have lgE:=bg gE;have lg7:=bg g7;obtain⟨vb,rfl,yw⟩:=gb.shape;obtain⟨Q,R,ac,rfl⟩:∃ a n c,av = .slice a n c:=by
         obtain⟨vK,h1,-⟩:=ga;obtain⟨a,n,c,h,-⟩:=h1.shape;exact⟨a,n,c,h⟩
        refine du h3E @gE ?_;obtain⟨u,Wm⟩:=cd (bO wE (d.heap.size+1) (ae #[aT nm,.slice Q R ac,pp vb,.slice vaE F.length vcE] 86));rw[<- Wm];have aFO:cZ pb w3 wE:=y.trans W;have hPG:SP u pb tb T (k7+1) F 0:=by rw[Wm];exact Wj.abQ gE zd zo zo
        have ace:cZ pb w3 u:=by rw[Wm];exact aFO.bO (.inr zo)
        have gG:u.heap[d.heap.size+1]?=aM #[aT nm,.slice Q R ac,pp vb,.slice vaE F.length vcE] 86:=yH;have sG:u.heap.size=wE.heap.size:=yH;have kG:B1 (fun b=>d.heap.size<=b/\b≠d.heap.size+1) w9 u:=fun b cs t p ht z=>by
         grind [iY,cZ.bH]
        have aFR:lp (fun b=>d.heap.size<=b/\b<u.heap.size) u (.slice Q R ac) l:=
         ga.mono yH (by grind [B1.kX])
        have bdG:dL (fun b=>d.heap.size<=b/\b<u.heap.size) u (pp vb) bd:=
         dL.mono yH (by grind [B1.kX]) _ _ gb
        rw[X] at j;simp only[cj.bind] at j;have clG:EH (fun b=>d.heap.size<=b/\b<u.heap.size) u (pp (d.heap.size+1)) ⟨nm,l,bd,F⟩:=
         ⟨d.heap.size+1,_,_,vaE,vcE,J,yH,gG,aFR,bdG⟩
        have B:Ext u (u.alloc (ae #[pp (d.heap.size+1)] 79)):=yF;have Il:=jJ B.ext (ak6 ace (hv ▸ o1) zo zd);rw[hv];refine abS Il (sx (by rw[Wm,uC])) J zo (by have:=B.size;omega) ?_;intro v' jg Sb po AQ;have uM:cZ pb w jg:=((hF.trans ace).trans B.toM).grow po (fun kk nu=>(Il.lt kk nu).1);refine⟨f+1,zo,uM,f,k7+1,F,acc++[⟨nm,l,bd,F⟩],J,zg,j,(hPG.abR B).OD Il zg zo po,?_⟩;rw[hv] at eP;exact eP.more ace zo (clG.mono yH (fun b cs t _ _ z=>z)) zo B Il Sb po AQ
       .have kK:=Ss y W i X;obtain⟨b,rfl,-,-⟩:=i;refine bE ?_;omega
open Go.Proofs.YtoegidfbnkaabaaGreatDoor.Sx
section
variable{p0 p1 p2 p3 p4 p5 p6 p7:Y}{w:Z}{R:Ending->Z->Prop}
def aFU:=cy w R [p0,p1] (gc [] [] []) func45
def aFV:=cy w R [p0,p1] (gc [] [] []) func58
end
def acf(w:Z):(Instr.typeAssert ai 20 73 A).run a9y w = .ok (ak #[aq V,.bool G]) w:=zk
def acg(v:Y)(w:Z):(Instr.typeAssert (aj 73 v) 20 73 A).run a9y w = .ok (ak #[v,.bool A]) w:=zk
def aFW(v4 v5:Y)(w:Z):CallsD a9y 83 #[v4,v5] .returning w fun e u' w'=>e = ah (ak #[])/\u' = .returning/\w'=w:=by
 refine callsD_of_wpS func83 J fun Ab cs hu=>?_;apply wpS_seq;apply wpS_region;simp [wpOpsS,go_sem,recoverD,hu,ntmps83,a0o,acf];apply wpS_seq;apply wpS_region;simp [wpOpsS,go_sem,recoverD,hu,ntmps83,a0o];refine wpS_cond (t:=false) (by simp [Act.eval]) ?_;simp only[Bool.false_eq_true,if_false];refine wpS_of_wp (wp_skip ?_);cases Ab;simp_all [bodyPostS,results,Tryz.results83]
def aFX(b4 b5:Nat)(o4 o5:Y)(v:Y)(xt:List PanicEntry)(w:Z)(h4:w.cell? ⟨b4,0,V⟩=O o4)(z4:w.frozen? ⟨b4,0,V⟩=G)
  (h5:(w.setCell ⟨b4,0,V⟩ bV).cell? ⟨b5,0,V⟩=O o5) (z5:(w.setCell ⟨b4,0,V⟩ bV).frozen? ⟨b5,0,V⟩=G) :
  CallsD a9y 83 #[pp b4,pp b5] (.panicking ({ v:=aj 73 v,recovered:=false }::xt)) w fun e u' w'=>
   e = ah (ak #[])/\u' = .panicking ({ v:=aj 73 v,recovered:=true }::xt)/\w'=(w.setCell ⟨b4,0,V⟩ bV).setCell ⟨b5,0,V⟩ (aj 73 v):=by
 refine callsD_of_wpS func83 J fun Ab cs hu=>?_;apply wpS_seq;apply wpS_region;simp [wpOpsS,go_sem,recoverD,hu,ntmps83,a0o,acg];apply wpS_seq;apply wpS_region;simp [wpOpsS,go_sem,recoverD,hu,ntmps83,a0o];refine wpS_cond (t:=true) (by simp [Act.eval]) ?_;simp only[if_true];apply wpS_seq;apply wpS_region;simp [wpOpsS,go_sem,recoverD,hu,ntmps83,a0o];apply wpS_region;simp [wpOpsS,go_sem,recoverD,hu,ntmps83,a0o,h4,z4,h5,z5];simp [bodyPostS,results,Tryz.results83]
def aFY(v4 v5:Y)(w:Z):CallsD a9y 90 #[v4,v5] .returning w fun e u' w'=>e = ah (ak #[])/\u' = .returning/\w'=w:=by
 refine callsD_of_wpS func90 J fun Ab cs hu=>?_;apply wpS_seq;apply wpS_region;simp [wpOpsS,go_sem,recoverD,hu,ntmps90,a0o,acf];apply wpS_seq;apply wpS_region;simp [wpOpsS,go_sem,recoverD,hu,ntmps90,a0o];refine wpS_cond (t:=false) (by simp [Act.eval]) ?_;simp only[Bool.false_eq_true,if_false];refine wpS_of_wp (wp_skip ?_);cases Ab;simp_all [bodyPostS,results,Tryz.results90]
def aFZ(b4 b5:Nat)(o4 o5:Y)(v:Y)(xt:List PanicEntry)(w:Z)(h4:w.cell? ⟨b4,0,V⟩=O o4)(z4:w.frozen? ⟨b4,0,V⟩=G)
  (h5:(w.setCell ⟨b4,0,V⟩ (aq V)).cell? ⟨b5,0,V⟩=O o5) (z5:(w.setCell ⟨b4,0,V⟩ (aq V)).frozen? ⟨b5,0,V⟩=G) :
  CallsD a9y 90 #[pp b4,pp b5] (.panicking ({ v:=aj 73 v,recovered:=false }::xt)) w fun e u' w'=>
   e = ah (ak #[])/\u' = .panicking ({ v:=aj 73 v,recovered:=true }::xt)/\w'=(w.setCell ⟨b4,0,V⟩ (aq V)).setCell ⟨b5,0,V⟩ (aj 73 v):=by
 refine callsD_of_wpS func90 J fun Ab cs hu=>?_;apply wpS_seq;apply wpS_region;simp [wpOpsS,go_sem,recoverD,hu,ntmps90,a0o,acg];apply wpS_seq;apply wpS_region;simp [wpOpsS,go_sem,recoverD,hu,ntmps90,a0o];refine wpS_cond (t:=true) (by simp [Act.eval]) ?_;simp only[if_true];apply wpS_seq;apply wpS_region;simp [wpOpsS,go_sem,recoverD,hu,ntmps90,a0o];apply wpS_region;simp [wpOpsS,go_sem,recoverD,hu,ntmps90,a0o,h4,z4,h5,z5];simp [bodyPostS,results,Tryz.results90]
namespace P
def program(s:Bs):cj (List Cl):=
 if 2000<s.length then .err 1 0 else match lex s with
 | .inl i=>.err 2 i
 | .inr T=>Ib T
def xw{α:Type}(g:List Tok->cj α)(s:Bs):cj α:=if 2000<s.length then .err 1 0 else match lex s with
 | .inl i=>.err 2 i
 | .inr T=>g T
def aF0(T:List Tok):cj Ex:=
 match jt T (xp T) 0 0 [] 0 with
 | some (.ok x k vs)=>if (tk T k).kind=0 then .ok x k vs else .err 2 (tk T k).pos
 | some (.err e a)=>.err e a
 | none=>.err 0 0
end P
structure Sw(T:List P.Tok):Prop extends TW T where
 sg:∀ u∈T,u.kind=4->u.text=[46]\/u.text∈og
theorem Sw.of(h:F8 n T)(a:n<=2000):Sw T:=
 { len:=by have:=h.len;omega,last:=h.last,kind:=fun u hu=>(h.tok u hu).1,digits:=fun u hu=>(h.tok u hu).2.1,words:=fun u hu=>(h.tok u hu).2.2.1,vars:=fun u hu=>(h.tok u hu).2.2.2.1,sg:=fun u hu=>(h.tok u hu).2.2.2.2 }
def Sz(h:P.lex s = .inr T):F8 s.length T:=R8 _ _ _ _ (by rw[R9,h])
theorem zy.up(h:zy w B)(a:B<=B'):zy w B':=
 ⟨a0b h.lt a,(by grind [a0b,FV])⟩
theorem mw.up(h:mw w B)(a:B<=B'):mw w B':=⟨a0b h.lt a,h.cell⟩
structure Wn(w:Z):Prop where
 FV:zy w w.heap.size
 cmp:mw w w.heap.size
 sig:Ms w
def aF1(h:res w) :
  LV a9y res R [{ target:=.fn (.func 83) #[tv,vv],args:=#[]++#[] }] .returning w:=by
 refine BD zk zs ((aFW tv vv w).mono ?_);rintro e a w' ⟨rfl,rfl,rfl⟩;exact h
def aF2(a:w.heap[pb]?=aM #[o4] 68)
  (d:w.heap[cap]?=aM #[o5] 57) (f:pb≠cap)
  (h:res (bO (bO w pb (ae #[bV] 68)) cap (ae #[aj 73 v] 57))) :
  LV a9y res R [{ target:=.fn (.func 83) #[pp pb,pp cap],args:=#[]++#[] }]
   (.panicking [{ v:=aj 73 v,recovered:=false }]) w:=by
 have b:w.setCell ⟨pb,0,V⟩ bV=bO w pb (ae #[bV] 68):=uD a _;have c:(bO w pb (ae #[bV] 68)).heap[cap]?=aM #[o5] 57:=by
  exact yH
 refine BD zk zs ((aFX pb cap o4 o5 v [] w (by grind [a0l]) (jH a 0) (by grind [a0l]) (by grind [jH])).mono ?_);rintro e g w' ⟨rfl,rfl,rfl⟩;rw[b,uD c];exact h
def SP.fresh(b:F8 n T)(c:n<=2000)(ht:w.heap[tb]?=aM iB 142)
  (g:iB.toList.take (T.length*3)=BT T) (d:zy w tb) (hlt:tb<pb) (e:T.length<=cap) (f:cap<=9223372036854775807)
  (h:w.heap[pb]?=aM #[cR tb T.length cap,bV,zi 0] 145):SP w pb tb T 0 [] 0:=by
 have a:=Sw.of b c;have k:∀ i,i<T.length*3->iB[i]?=(BT T)[i]?:=zg;refine⟨a.toTW,hlt,a.toTW.pos,zs,⟨d,iB,ht,fun j l=>?_⟩,cap,bV,e,f,yH,aZ8 _ _ _ _⟩;grind [akA]
def Wo(w:Z)(s:Bs)(e:Ending)(w':Z):Prop:=
 Ext w w'/\match P.program s with
 | .err c a=>∃ b,e = ah (ak #[.slice V 0 0,aj 73 (aq (O ⟨b,0,V⟩))])/\w'.heap[b]?=O (ae #[.int .i64 c,.int .i64 a] 77 (0,0))
 | .ok cs _ _=>∃ v vs,e = ah (ak #[v,ai])/\fK (Nu w w') w' 79 v vs/\j9 (Nu w w') w' vs cs
def ach{d:Z}{a:Nat}(i:P.program s = .err c a)(j:Ext w d)(q4:d.heap[w.heap.size]?=aM #[o4] 68)
  (e:d.heap[w.heap.size+1]?=aM #[o5] 57) (k:d.heap[b]?=aM #[zi c,zi a] 77) (l:w.heap.size+2<=b) :
  LV a9y (fun d=>RD a9y (aZX 68 (pp w.heap.size)) d (fun r=>RD a9y (aZX 57 (pp (w.heap.size+1))) d
    (fun f=>Wo w s (ah (ak #[r,f])) d) NX) NX) (Wo w s)
   [{ target:=.fn (.func 83) #[pp w.heap.size,pp (w.heap.size+1)],args:=#[]++#[] }]
   (.panicking [{ v:=aj 73 (pp b),recovered:=false }]) d:=by
 refine aF2 q4 e zo ?_;have m:=bg q4;have n:=bg e;have g:(bO (bO d w.heap.size (ae #[bV] 68)) (w.heap.size+1) (ae #[aj 73 (pp b)] 57)).heap[w.heap.size]?=aM #[bV] 68:=by
  exact yH
 have h:(bO (bO d w.heap.size (ae #[bV] 68)) (w.heap.size+1) (ae #[aj 73 (pp b)] 57)).heap[w.heap.size+1]?=aM #[aj 73 (pp b)] 57:=by
  exact yH
 refine du @g @h ?_;refine⟨yF,?_⟩;exact yH
def aF3(s:Bs)(w:Z)(S:s.length<=100000)(u:Wn w) :
  Calls a9y 45 #[aT s,.func (.func 46) #[] #[]] w (Wo w s):=by
 refine aFU ?_;refine bE ?_;obtain⟨l,U⟩:=cd ((w.alloc (ae #[bV] 68)).alloc (ae #[ai] 57));have sA:l.heap.size=w.heap.size+2:=yH;have W:Ext w l:=yF;have x:l.heap[w.heap.size]?=aM #[bV] 68:=yH;have y:l.heap[w.heap.size+1]?=aM #[ai] 57:=yH;rw[size_alloc,<- U];refine(akC s l S (u.sig.ext W)).mono ?_;rintro e w1 ⟨d,f⟩;have s1:=d.size;by_cases m:2000<s.length
 .rw[zip m] at f;obtain⟨b,rfl,p,H⟩:=f;exact ach (by rw[P.program,zip m]) yF (d.ext _ _ x) (d.ext _ _ y) p zo
 rw[bZ m] at f;cases hx:P.lex s with
 | inl i=>
  rw[hx] at f;obtain⟨b,rfl,p,H⟩:=f;exact ach (by rw[P.program,bZ m,hx]) yF (d.ext _ _ x) (d.ext _ _ y) p zo
 | inr T=>
  rw[hx] at f;obtain⟨v,rfl,z⟩:=f;have I:=Sz hx;have X:0<T.length:=(Sw.of I zo).toTW.pos;obtain⟨sI,z⟩:=z;rcases z with⟨-,h0⟩| ⟨tb,cap,cur,rfl,Gb,BV,EE,vO,ht5,J7⟩
  .omega
  refine bE ?_;have B:=bg BV;obtain⟨g,C⟩:=cd (w1.alloc (ae #[cR tb T.length cap,bV,zi 0] 145));have D:Ext w1 g:=yF;have sP:g.heap.size=w1.heap.size+1:=yH;have bP:g.heap[w1.heap.size]?=aM #[cR tb T.length cap,bV,zi 0] 145:=yH;rw[<- C];have K:Ext w g:=yF;have qf:SP g w1.heap.size tb T 0 [] 0:=SP.fresh I zo yH J7 ((u.FV.ext fun b o _=>K.ext b o).up zo) B EE (by grind [maxLen]) bP;refine⟨zk,(aFt qf ((u.cmp.ext fun b o _=>K.ext b o).up zo)).mono ?_⟩;have L:P.program s=Ib T:=by rw[P.program,bZ m,hx]
  rintro e w3 ⟨q,r⟩;have s3:=q.size;have M:Ext w1 w3:=⟨q.os.trans D.os,q.tape.trans D.tape,q.output.trans D.output,zo,fun b o N _=>q.block b o yH (by
   have:=bg N;rintro (h | ⟨h,_⟩)<;>omega)⟩
  have E:Ext w w3:=yF;have q4:=M.ext _ _ (d.ext _ _ x);have F:=M.ext _ _ (d.ext _ _ y);cases hr:Ib T with
  | err c a=>
   rw[hr] at r;obtain⟨b,rfl,p,H⟩:=r;exact ach (L.trans hr) E q4 F p zo
  | ok cs k vK=>
   rw[hr] at r;obtain⟨v,vs,rfl,g1,g2⟩:=r;obtain⟨Q,sn,R,rfl⟩:∃ a n c,v = .slice a n c:=by rcases g1 with⟨-,rfl⟩| ⟨b,cs',rfl,-⟩<;>exact zg
   have l4:=bg q4;have l5:=bg F;refine du @q4 @F ?_;refine aF1 ?_;obtain⟨j,tQ⟩:=cd (bO (bO w3 w.heap.size (ae #[.slice Q sn R] 68)) (w.heap.size+1) (ae #[ai] 57));have k4:j.heap[w.heap.size]?=aM #[.slice Q sn R] 68:=yH;have k5:j.heap[w.heap.size+1]?=aM #[ai] 57:=yH;have hz:∀ b o,b≠w.heap.size->b≠w.heap.size+1->w3.heap[b]?=O o->j.heap[b]?=O o:=yH;have Wp:Ext w j:=yF;have sz:j.heap.size=w3.heap.size:=yH;rw[<- tQ];refine du @k4 @k5 ?_;refine⟨Wp,?_⟩;rw[L,hr];have hf:∀ b,Nu g w3 b->Nu w j b:=zg;exact⟨_,vs,J,(by grind [fK.mono]),g2.mono hf (fun b cs t N _ ho=>yH)⟩
def aF6(h:res w) :
  LV a9y res R [{ target:=.fn (.func 90) #[tv,vv],args:=#[]++#[] }] .returning w:=by
 refine BD zk zs ((aFY tv vv w).mono ?_);rintro e a w' ⟨rfl,rfl,rfl⟩;exact h
def aF7(a:w.heap[pb]?=aM #[o4] 79)
  (d:w.heap[cap]?=aM #[o5] 57) (f:pb≠cap)
  (h:res (bO (bO w pb (ae #[aq V] 79)) cap (ae #[aj 73 v] 57))) :
  LV a9y res R [{ target:=.fn (.func 90) #[pp pb,pp cap],args:=#[]++#[] }]
   (.panicking [{ v:=aj 73 v,recovered:=false }]) w:=by
 have b:w.setCell ⟨pb,0,V⟩ (aq V)=bO w pb (ae #[aq V] 79):=uD a _;have c:(bO w pb (ae #[aq V] 79)).heap[cap]?=aM #[o5] 57:=by
  exact yH
 refine BD zk zs ((aFZ pb cap o4 o5 v [] w (by grind [a0l]) (jH a 0) (by grind [a0l]) (by grind [jH])).mono ?_);rintro e g w' ⟨rfl,rfl,rfl⟩;rw[b,uD c];exact h
def alk{α:Type}(I:(Nat->Prop)->Z->Nat->α->List Bs->Prop)(pb:Nat)(w:Z)(r:cj α)(e:Ending)(w':Z):Prop:=
 cZ pb w w'/\match r with
 | .err c a=>mN c a w w' e
 | .ok x _ vs=>∃ b,e = ah (aq (O ⟨b,0,V⟩))/\I (Nu w w') w' b x vs
def Wq{α:Type}(I:(Nat->Prop)->Z->Nat->α->List Bs->Prop)(w:Z)(r:cj α)(e:Ending)(w':Z):Prop:=
 Ext w w'/\match r with
 | .err c a=>∃ b,e = ah (ak #[aq V,aj 73 (aq (O ⟨b,0,V⟩))])/\w'.heap[b]?=O (ae #[.int .i64 c,.int .i64 a] 77 (0,0))
 | .ok x _ vs=>∃ b,e = ah (ak #[aq (O ⟨b,0,V⟩),ai])/\I (Nu w w') w' b x vs
def acn{α:Type}{I:(Nat->Prop)->Z->Nat->α->List Bs->Prop}{r:cj α}{d:Z}{a:Nat}(f:r = .err c a)(k:Ext w d)(q4:d.heap[w.heap.size]?=aM #[o4] 79)
  (e:d.heap[w.heap.size+1]?=aM #[o5] 57) (l:d.heap[b]?=aM #[zi c,zi a] 77) (m:w.heap.size+2<=b) :
  LV a9y (fun d=>RD a9y (aZX 79 (pp w.heap.size)) d (fun g=>RD a9y (aZX 57 (pp (w.heap.size+1))) d
    (fun h=>Wq I w r (ah (ak #[g,h])) d) NX) NX) (Wq I w r)
   [{ target:=.fn (.func 90) #[pp w.heap.size,pp (w.heap.size+1)],args:=#[]++#[] }]
   (.panicking [{ v:=aj 73 (pp b),recovered:=false }]) d:=by
 subst f;refine aF7 q4 e zo ?_;have n:=bg q4;have o:=bg e;have i:(bO (bO d w.heap.size (ae #[aq V] 79)) (w.heap.size+1) (ae #[aj 73 (pp b)] 57)).heap[w.heap.size]?=aM #[aq V] 79:=by
  exact yH
 have j:(bO (bO d w.heap.size (ae #[aq V] 79)) (w.heap.size+1) (ae #[aj 73 (pp b)] 57)).heap[w.heap.size+1]?=aM #[aj 73 (pp b)] 57:=by
  exact yH
 refine du @i @j ?_;refine⟨yF,b,J,?_⟩;exact yH
structure Io(w:Z):Prop where
 FV:zy w w.heap.size
 sig:Ms w
theorem Io.ext{w w':Z}(h:Io w)(a:Ext w w'):Io w':=
 ⟨(h.FV.ext fun b o _=>a.ext b o).up a.size,h.sig.ext a⟩
def aF8{α:Type}{I:(Nat->Prop)->Z->Nat->α->List Bs->Prop}
  (hI:∀ (F F':Nat->Prop) (w w':Z) (b:Nat) (x:α) (vs:List Bs),(∀ b,F b->F' b)->(∀ b o,F b->w.heap[b]?=O o->w'.heap[b]?=O o)->I F w b x vs->I F' w' b x vs)
  {g:List P.Tok->cj α} (Q:zb a9y k'=A)
  (s:Bs) (w:Z) (R:s.length<=100000) (H:Io w)
  (S:let w0:=w;∀ {pb tb:Nat} {T:List P.Tok} {w:Z},P.lex s = .inr T->SP w pb tb T 0 [] 0->(mw w0 w0.heap.size->mw w tb)->w.heap.size=pb+1->Calls a9y k' #[pp pb] w (alk I pb w (g T))) :
  Calls a9y 58 #[aT s,.func (.func k') #[] #[]] w (Wq I w (xw g s)):=by
 refine aFV ?_;refine bE ?_;obtain⟨j,U⟩:=cd ((w.alloc (ae #[aq V] 79)).alloc (ae #[ai] 57));have sA:j.heap.size=w.heap.size+2:=yH;have W:Ext w j:=yF;have t:j.heap[w.heap.size]?=aM #[aq V] 79:=yH;have u:j.heap[w.heap.size+1]?=aM #[ai] 57:=yH;rw[size_alloc,<- U];refine(akC s j R (H.sig.ext W)).mono ?_;rintro e w1 ⟨d,f⟩;have s1:=d.size;by_cases l:2000<s.length
 .rw[zip l] at f;obtain⟨b,rfl,m,K⟩:=f;exact acn (by rw[xw,zip l]) yF (d.ext _ _ t) (d.ext _ _ u) m zo
 rw[bZ l] at f;cases hx:P.lex s with
 | inl i=>
  rw[hx] at f;obtain⟨b,rfl,m,K⟩:=f;exact acn (by rw[xw,bZ l,hx]) yF (d.ext _ _ t) (d.ext _ _ u) m zo
 | inr T=>
  rw[hx] at f;obtain⟨v,rfl,y⟩:=f;have L:=Sz hx;have X:0<T.length:=(Sw.of L zo).toTW.pos;obtain⟨sI,y⟩:=y;rcases y with⟨-,h0⟩| ⟨tb,cap,cur,rfl,Gb,BV,EE,vO,ht5,J7⟩
  .omega
  refine bE ?_;have z:=bg BV;obtain⟨n,B⟩:=cd (w1.alloc (ae #[cR tb T.length cap,bV,zi 0] 145));have C:Ext w1 n:=yF;have sP:n.heap.size=w1.heap.size+1:=yH;have bP:n.heap[w1.heap.size]?=aM #[cR tb T.length cap,bV,zi 0] 145:=yH;rw[<- B];have M:Ext w n:=yF;have qf:SP n w1.heap.size tb T 0 [] 0:=SP.fresh L zo yH J7 ((H.FV.ext fun b o _=>M.ext b o).up zo) z EE (by grind [maxLen]) bP;refine⟨Q,(S hx qf (fun hC=>(hC.ext fun b o _=>M.ext b o).up zo) sP).mono ?_⟩;have sO:xw g s=g T:=by rw[xw,bZ l,hx]
  rintro e w3 ⟨p,r⟩;have s3:=p.size;have N:Ext w1 w3:=⟨p.os.trans C.os,p.tape.trans C.tape,p.output.trans C.output,zo,fun b o hb _=>p.block b o yH (by
   have:=bg hb;rintro (h | ⟨h,_⟩)<;>omega)⟩
  have D:Ext w w3:=yF;have q4:=N.ext _ _ (d.ext _ _ t);have E:=N.ext _ _ (d.ext _ _ u);cases hr:g T with
  | err c a=>
   rw[hr] at r;obtain⟨b,rfl,m,K⟩:=r;exact acn (sO.trans hr) D q4 E m zo
  | ok x k vs=>
   rw[hr] at r;obtain⟨b,rfl,g1⟩:=r;have l4:=bg q4;have l5:=bg E;refine du @q4 @E ?_;refine aF6 ?_;obtain⟨q,tQ⟩:=cd (bO (bO w3 w.heap.size (ae #[pp b] 79)) (w.heap.size+1) (ae #[ai] 57));have k4:q.heap[w.heap.size]?=aM #[pp b] 79:=yH;have k5:q.heap[w.heap.size+1]?=aM #[ai] 57:=yH;have hz:∀ b o,b≠w.heap.size->b≠w.heap.size+1->w3.heap[b]?=O o->q.heap[b]?=O o:=yH;have Wp:Ext w q:=yF;have sz:q.heap.size=w3.heap.size:=yH;rw[<- tQ];refine du @k4 @k5 ?_;refine⟨Wp,?_⟩;exact yH
