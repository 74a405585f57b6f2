/- A part of one proof (PureF, SX3, SX4, ShS2, SX5, PX1, PureTx, GBase2, SX6, PX2). -/
import Derived.Test.YtoegidfbnkaabaaGreatDoorPkLAJ
import Derived.Recover
import Derived.Tactics
import Derived.Tactics2
set_option linter.all false
set_option maxRecDepth 100000
set_option maxHeartbeats 8000000
open Option renaming some → O, none → V
open Go renaming Value → Y, World → Z
open Bool renaming true → A, false → G
open Go.Obj renaming cells → ae
open Go.Ending renaming returned → ah
open Go.Value renaming nilIface → ai, iface → aj, tuple → ak, pointer → aq
open Option.some renaming injEq → a1o, inj → a1w
open Go.Instr renaming loadAt → a1G
open Go.World renaming ownsRow_nil → a1Q, cell? → a19
open Nat renaming lt_of_lt_of_le → a1W
open Go.Exit renaming thenS → a2c
open Go.Proofs.Tryz renaming prog → bbv
open Go.Proofs.Tryz
namespace Go.Proofs.YtoegidfbnkaabaaGreatDoor
open P
variable{B B' b base c cap d e f k k' m mb n o pb so tb:Nat}{F:Nat->Prop}{R:Ending->Z->Prop}{T:List P.Tok}{W w w' w1 w2 w3:Z}{X:Y->Z->Prop}{av o4 o5 tv u v vv:Y}{cs iB:Array Y}{res:Z->Prop}{s:Bs}{vars:List Bs}{xs:List Y}
namespace P
def Nh{T:List Tok}(h:(tk T k).kind≠0):k<T.length:=by
 grind [Nat.lt_or_ge,absurd,tk,List.getElem?_eq_none]
def xR{T:List Tok}{s:Bs}(h:dZ T k s=A):k<T.length:=by
 refine Nh fun a=>?_;simp_all [dZ]
def bind_some{α β:Type}{r:Option (cj α)}{g:α->Nat->List Bs->Option (cj β)}(h:∃ q,r=O q)(b:∀ a k v,r=O (.ok a k v)->∃ q,g a k v=O q):∃ q,cj.bind r g=O q:=by
 obtain⟨q,rfl⟩:=h;cases q with
 | err e a=>exact⟨_,J⟩
 | ok a k v=>exact b a k v J
def Ky{α:Type}(T:List Tok)(s:Bs)(x:α)(k:Nat)(v:List Bs):∃ q,mR T s x k v=O q:=by
 unfold mR;split<;>exact⟨_,J⟩
def aGk{T:List Tok}{v v':List Bs}{x:Ex}(h:oP T f k v d=O (.ok x k' v')):k<T.length:=by
 cases f with
 | zero=>simp_all [oP]
 | succ f=>
  refine Nh fun a=>?_;grind [dZ,oP]
def PL{T:List Tok}:∀ {f l k:Nat} {v v':List Bs} {d k':Nat} {x:Ex},iZ T f l k v d=O (.ok x k' v')->k<T.length
 | 0,_,_,_,_,_,_,_,h=>by simp_all [iZ]
 | f+1,l,k,v,v',d,k',x,h=>by
  rw[iZ] at h;split at h
  .exact aGk h
  .obtain⟨a,c,v1,b,_⟩:=eh h;exact PL b
def aGl{T:List Tok}{l:Nat}{o:Bs}(h:O5 T l k=O o):k<T.length:=xR (List.find?_some h)
structure Tot(T:List Tok)(f:Nat):Prop where
 Cp:∀ k v d,16*(T.length-k)+1<=f->∃ r,oP T f k v d=O r
 args:∀ k v d a acc,16*(T.length-k)+5<=f->∃ r,oQ T f k v d a acc=O r
 list:∀ k v d,16*(T.length-k)+6<=f->∃ r,qu T f k v d=O r
 elems:∀ k v d acc,16*(T.length-k)+5<=f->∃ r,q8 T f k v d acc=O r
 oper:∀ l k v d,l<=2->16*(T.length-k)+(4-l)<=f->∃ r,iZ T f l k v d=O r
 more:∀ l y k v d,l<=1->16*(T.length-k)+1<=f->∃ r,pj T f l y k v d=O r
def tot(T:List Tok):∀ f,Tot T f
 | 0=>⟨fun _ _ _ h=>zo,fun _ _ _ _ _ h=>zo,fun _ _ _ h=>zo,fun _ _ _ _ h=>zo,fun _ _ _ _ _ h=>zo,fun _ _ _ _ _ _ h=>zo⟩
 | f+1=>by
  have ih:=tot T f;have b:=mono T f;refine⟨?_,?_,?_,?_,?_,?_⟩
  .intro k v d c;rw[oP];split
   .grind
   split
   .grind
   split
   .grind
   split
   .split
    .rename_i h;have:=xR h;exact bind_some (ih.args _ _ _ _ _ zo) fun _ _ _ _=>Ky _ _ _ _ _
    grind
   split
   .split<;>exact⟨_,J⟩
   split
   .rename_i h;have:=xR h;exact bind_some (ih.oper 0 _ _ _ zo zo) fun _ _ _ _=>Ky _ _ _ _ _
   split
   .rename_i h;have:=xR h;exact ih.list _ _ _ zo
   grind
  .intro k v d a acc c;rw[oQ];refine bind_some (ih.oper 0 _ _ _ zo zo) fun x k' v' h=>?_;have g:=PL h;have e:=b.oper _ _ _ _ _ _ _ h;split
   .exact ih.args _ _ _ _ _ zo
   .split<;>exact⟨_,J⟩
  .intro k v d c;rw[qu];split
   .grind
   .refine bind_some (ih.elems _ _ _ _ zo) fun x k' v' h=>?_;have e:=b.elems _ _ _ _ _ _ _ h;split
    .rename_i j;have:=xR j;exact bind_some (ih.oper 0 _ _ _ zo zo) fun _ _ _ _=>Ky _ _ _ _ _
    simp_all [Ky]
  .intro k v d acc c;rw[q8];refine bind_some (ih.oper 0 _ _ _ zo zo) fun x k' v' h=>?_;have g:=PL h;have e:=b.oper _ _ _ _ _ _ _ h;split
   .exact ih.elems _ _ _ _ zo
   grind
  .intro l k v d i c;rw[iZ];split
   .exact ih.Cp _ _ _ zo
   .refine bind_some (ih.oper _ _ _ _ zo zo) fun x k' v' h=>?_;have g:=PL h;have e:=b.oper _ _ _ _ _ _ _ h;exact ih.more _ _ _ _ _ zo zo
  .intro l y k v d i c;rw[pj];split
   .grind
   .rename_i o m;have n:=aGl m;refine bind_some (ih.oper _ _ _ _ zo zo) fun x k' v' h=>?_;have e:=b.oper _ _ _ _ _ _ _ h;exact ih.more _ _ _ _ _ i zo
def aGn{T:List Tok}{v v':List Bs}{x:Bd}(h:nQ T f k v d=O (.ok x k' v')):k<T.length:=by
 cases f with
 | zero=>simp_all [nQ]
 | succ f=>
  rw[nQ] at h;split at h
  .grind
  split at h
  .rename_i b;exact xR b
  split at h
  .rename_i b;exact xR b
  split at h
  .rename_i b;exact xR b
  .obtain⟨a,e,v1,c,_⟩:=eh h;exact PL c
structure aGo(T:List Tok)(f:Nat):Prop where
 lit:∀ k v d,16*(T.length-k)+5<=f->∃ r,nQ T f k v d=O r
 lits:∀ k v d acc,16*(T.length-k)+6<=f->∃ r,qw T f k v d acc=O r
 row:∀ k v d,16*(T.length-k)+7<=f->∃ r,oo T f k v d=O r
 rest:∀ k v d,16*(T.length-k)+9<=f->∃ r,qx T f k v d=O r
 body:∀ k v d,16*(T.length-k)+8<=f->∃ r,mS T f k v d=O r
def totB(T:List Tok):∀ f,aGo T f
 | 0=>⟨fun _ _ _ h=>zo,fun _ _ _ _ h=>zo,fun _ _ _ h=>zo,fun _ _ _ h=>zo,fun _ _ _ h=>zo⟩
 | f+1=>by
  have ih:=totB T f;have it:=tot T f;have g:=mono T f;have mb:=Tb T f;refine⟨?_,?_,?_,?_,?_⟩
  .intro k v d a;rw[nQ];split
   .grind
   split
   .grind
   split
   .rename_i h;have:=xR h;exact bind_some (ih.lit _ _ _ zo) fun _ _ _ _=>⟨_,J⟩
   split
   .rename_i h;have:=xR h;exact bind_some (ih.body _ _ _ zo) fun _ _ _ _=>Ky _ _ _ _ _
   .refine bind_some (it.oper 0 _ _ _ zo zo) fun x k' v' h=>?_;have c:=g.oper _ _ _ _ _ _ _ h;have e:=PL h;split
    .exact bind_some (it.oper 0 _ _ _ zo zo) fun _ _ _ _=>⟨_,J⟩
    .repeat' split<;>simp_all
  .intro k v d acc a;rw[qw];refine bind_some (ih.lit _ _ _ zo) fun x k' v' h=>?_;have e:=aGn h;have c:=mb.lit _ _ _ _ _ _ h;split
   .exact ih.lits _ _ _ _ zo
   grind
  .intro k v d a;rw[oo];exact bind_some (ih.lits _ _ _ _ zo) fun _ _ _ _=>⟨_,J⟩
  .intro k v d a;rw[qx];split
   .grind
   .exact ih.body _ _ _ zo
  .intro k v d a;rw[mS];refine bind_some (ih.row _ _ _ zo) fun x k' v' h=>?_;have c:=mb.row _ _ _ _ _ _ h;split
   .rename_i i;have e:=xR i;refine bind_some (ih.row _ _ _ zo) fun x m v2 j=>?_;have n:=mb.row _ _ _ _ _ _ j;split
    .rename_i b;have l:=xR b;exact bind_some (ih.rest _ _ _ zo) fun _ _ _ _=>⟨_,J⟩
    grind
   .split
    .rename_i b;have l:=xR b;exact bind_some (ih.rest _ _ _ zo) fun _ _ _ _=>⟨_,J⟩
    grind
def xS(T:List Tok):Nat:=16*T.length+20
def alX(T:List Tok)(name:Bs)(args:List Ex)(a k:Nat)(v:List Bs):∃ r,JT T (xS T) name args a k v=O r:=by
 unfold JT xS;split
 .grind
 split
 .exact bind_some ((totB T _).body _ _ _ zo) fun _ _ _ _=>Ky _ _ _ _ _
 simp_all [Ky]
def aGp(T:List Tok)(k:Nat):∃ r,EP T (xS T) k=O r:=by
 unfold EP;split
 .split
  .refine bind_some ((tot T _).args _ _ _ _ _ (by grind [xS])) fun l k' v' h=>?_;simp_all [bind_some,Ky,alX]
  simp_all [alX]
 grind
def alY{T:List Tok}{name:Bs}{args:List Ex}{a:Nat}{v:List Bs}{c:Cl}{v':List Bs}(h:JT T f name args a k v=O (.ok c k' v')):k<k'/\c.vars=v':=by
 unfold JT at h;split at h
 .grind
 split at h
 .obtain⟨b,g,v1,d,e⟩:=eh h;obtain⟨i,j,l⟩:=oz e;have:=(Tb T f).body _ _ _ _ _ _ d;grind
 grind [oz]
def aGq{T:List Tok}{c:Cl}{v':List Bs}(h:EP T f k=O (.ok c k' v')):k<k'/\k<T.length:=by
 unfold EP at h;split at h
 .rename_i hk;have g:k<T.length:=Nh zo;split at h
  .obtain⟨l,i,v1,a,b⟩:=eh h;obtain⟨j,m,v2,d,e⟩:=eh b;have n:=(mono T f).args _ _ _ _ _ _ _ _ a;obtain⟨o,_,_⟩:=oz d;have:=(alY e).1;omega
  .have:=(alY h).1;omega
 grind
def Fa(T:List Tok):Nat->Nat->List Cl->Option (cj (List Cl))
 | 0,_,_=>V
 | f+1,k,acc=>
  if (tk T k).kind=0 then O (.ok acc k [])
  else if acc.length=40 then O (.err 4 (tk T k).pos)
  else cj.bind (EP T (xS T) k) fun c k' _=>Fa T f k' (acc++[c])
def alZ{T:List Tok}:∀ (f k:Nat) (acc:List Cl),T.length-k<f->∃ r,Fa T f k acc=O r
 | 0,_,_,h=>zo
 | f+1,k,acc,h=>by
  rw[Fa];split
  .grind
  split
  .grind
  .refine bind_some (aGp _ _) fun c k' v' a=>?_;have b:=aGq a;exact alZ f k' _ zo
def ID(T:List Tok):cj (List Cl):=(Fa T (T.length+1) 0 []).getD (.err 0 0)
def al0(T:List Tok):Fa T (T.length+1) 0 []=O (ID T):=by
 obtain⟨r,hr⟩:=alZ (T:=T) (T.length+1) 0 [] zo;simp_all [ID]
end P
open Go.RowKit Sx
def Fb(F:Nat->Prop)(w:Z)(v:Y)(c:Cl):Prop:=∃ b av bv a d,v=pp b/\F b /\
 w.heap[b]?=aO #[aT c.name,av,bv,.slice a c.vars.length d] 86/\lO F w av c.args/\dJ F w bv c.body
def km(F:Nat->Prop)(w:Z)(vs:List Y):List Cl->Prop
 | []=>vs=[]
 | x::xs=>∃ v r,vs=v::r/\Fb F w v x/\km F w r xs
def CB(F:Nat->Prop)(w w':Z):Prop:=∀ b cs t,F b->t≠9->w.heap[b]?=aO cs t->w'.heap[b]?=aO cs t
theorem CB.lF(h:CB F w w'):∀ b o,F b->DE o->w.heap[b]?=O o->w'.heap[b]?=O o:=by
 intro b o c a d;cases o with
 | cells cs t z=>
  obtain⟨e,rfl⟩:=a;refine h b cs t c ?_ d;grind
 | _=>exact a.elim
theorem Fb.mono{F F':Nat->Prop}{w w':Z}{v:Y}{c:Cl}(a:∀ b,F b->F' b)(hw:CB F w w')(h:Fb F w v c):Fb F' w' v c:=by
 obtain⟨b,av,bv,e,f,g,d,i,j,k⟩:=h;exact⟨b,av,bv,e,f,g,a b d,hw b _ _ d zg i,j.mono a hw.lF,dJ.mono a hw.lF _ _ k⟩
theorem km.mono{F F':Nat->Prop}{w w':Z}(a:∀ b,F b->F' b)(hw:CB F w w'):∀ (xs:List Cl) (vs:List Y),km F w vs xs->km F' w' vs xs
 | [],vs,h=>h
 | x::xs,vs,h=>by
  obtain⟨v,r,c,d,e⟩:=h;exact⟨v,r,c,d.mono a hw,km.mono a hw xs r e⟩
def km.snoc{F:Nat->Prop}{w:Z}{v:Y}{x:Cl}(hx:Fb F w v x):∀ {xs:List Cl} {vs:List Y},km F w vs xs->km F w (vs++[v]) (xs++[x])
 | [],vs,h=>by
  have h:vs=[]:=h;subst h;exact⟨v,[],J,hx,J⟩
 | y::c,vs,h=>by
  obtain⟨u,r,rfl,a,b⟩:=h;exact⟨u,r++[v],J,a,km.snoc hx b⟩
theorem db.al1(h:db pb w w')(a:∀ b,F b->b≠pb):CB F w w':=fun b _ _ c ht d=>(by grind [bJ])
def SP.x(h:SP w pb tb T k vars d):∃ cap e f cs,
  w.heap[pb]?=aO #[.slice (O ⟨tb,k*3,V⟩) (T.length-k) (cap-k),.slice e vars.length f,zi d] 145/\T.length<=cap/\cap<=9223372036854775807/\T.length<=2001/\k<T.length /\
  w.heap[tb]?=aO cs 142/\k*3+3<=cs.size/\(cs.toList.drop (k*3)).take 3=[zi (tk T k).kind,aT ((tk T k).text),zi (tk T k).pos] /\
  cs[k*3]?=O (zi (tk T k).kind)/\cs[k*3+1]?=O (aT ((tk T k).text))/\cs[k*3+2]?=O (zi (tk T k).pos):=by
 obtain⟨tw,lt,kt,nv,⟨-,cs,t1,t2⟩,cap,vv,g,i,j,l⟩:=h;obtain⟨a,b,c⟩:=t2 k kt;obtain⟨e,f,rfl⟩:=gV l;have m:=(Array.getElem?_eq_some_iff.1 c).1;refine⟨cap,e,f,cs,j,g,i,tw.len,kt,t1,zo,?_,a,b,c⟩;apply List.ext_getElem?;grind
def SP.acM{x:Nat}{t:TypeId}{z:Nat×Nat}{o:Obj}(h:SP w pb tb T k vars d)
  (hx:w.heap[x]?=O (ae cs t z)) (ht:t≠9) (a:x≠pb) (b:tb<x):SP (bQ w x o) pb tb T k vars d:=
 (by grind [jb,other])
def SP.acN(h:SP w pb tb T k vars d)(a:Ext w w'):SP w' pb tb T k vars d:=h.ext a.ext
def SP.aGr(h:SP w pb tb T k vars d)
  (c:w.heap[pb]?=aO #[.slice (O ⟨tb,k*3,V⟩) (T.length-k) (cap-k),vv,zi d] 145) (a:T.length<=cap) (b:cap<=9223372036854775807) :
  SP (bQ w pb (ae #[.slice (O ⟨tb,k*3,V⟩) (T.length-k) (cap-k),bW,zi d] 145)) pb tb T k [] d:=by
 obtain⟨tw,lt,kt,nv,⟨e,cs,t1,t2⟩,_⟩:=h;refine⟨tw,lt,kt,zs,⟨(by grind [jb,Al.ext]),cs,yH,t2⟩,cap,bW,a,b,yH,a1Q _ _ _ _⟩
theorem SP.onU(h:SP w pb tb T k vars d)
  (f:w.heap[pb]?=aO #[.slice (O ⟨tb,k*3,V⟩) (T.length-k) (cap-k),vv,zi d] 145) (hk:k+1<T.length) (a:k'=T.length-(k+1)) (b:so=cap-(k+1)) (c:mb=(k+1)*3) :
  SP (bQ w pb (ae #[.slice (O ⟨tb,mb,V⟩) k' so,vv,zi d] 145)) pb tb T (k+1) vars d:=by
 subst a b c;refine h.set hk ((bB.refl _ _).bQ (.inl fun _=>.inl J)) (fun g e i=>?_) yH;exact yH
def al2(pb:Nat)(w:Z)(r:cj (List Cl))(e:Ending)(w':Z):Prop:=
 db pb w w'/\match r with
 | .err c a=>nw c a w w' e
 | .ok cs _ _=>∃ v vs,e = ah v/\fJ (Nu w w') w' 79 v vs/\km (Nu w w') w' vs cs
def Xj(B:Nat)(w1:Z)(v:Y)(acc:List Cl):Prop:=
 ∃ xs,w1.ownsRow B 79 1 v acc.length xs/\km (fun b=>B<=b/\b<w1.heap.size/\O b≠v.ownBlock) w1 xs acc
def aGu:(Tryz.prog.info? 79).map (fun i=>(i.zero,i.size,i.bytes))=O (O (aq V),1,8):=zk
def acO(d:w.ownsRow base 79 1 v n xs){a:Y}
  (f:w.heap[b]?=aO #[a] 79) (p:a.oneCell'=A)
  (q:n<=100000) (g:base<=w.heap.size) {K:Y->Z->Prop}
  (h:∀ v' w',w'.ownsRow base 79 1 v' (n+1) (xs++[a])->w.grownBy w' v.ownBlock->(v'.ownBlock=v.ownBlock\/∀ k,v'.ownBlock=O k->w.heap.size<=k)->K v' w') :
  WR bbv (Builtin.append_ #[68,68] 68 #[v,cS b 1 m]) w K X:=by
 obtain⟨i,hi,c⟩:=Option.map_eq_some_iff.1 aGu;simp only[Prod.mk.injEq] at c;obtain⟨j,l,o⟩:=c;refine akc (m:=1) (t:=68) (e:=79) zk hi j l o J zo d f J (fun u hu=>?_) zo zo g h;grind
theorem acP{l:Nat}(h:¬ cap=l):sliced (O ⟨b,o,V⟩) l pb cap n = .slice (O ⟨b,o+l*n,V⟩) (pb-l) (cap-l):=by
 unfold sliced;rw[bM h];simp [addr_add]
theorem al3(h:db pb w w'){size:Nat}(hu:w.ownsRow base e size v n xs)(d:pb<base)(he:e≠9):w'.ownsRow base e size v n xs:=by
 obtain⟨a,hu⟩:=hu;refine⟨a,?_⟩;rcases hu with hu | ⟨g,cap,cur,rfl,b,f,c⟩
 .exact yH
 .exact .inr ⟨g,cap,cur,J,b,(by grind [db.bJ]),c⟩
def aGv{size:Nat}{a:List Y}(h:w.ownsRow base e size v n xs)(b:w.ownsRow base e size v n a):xs=a:=by
 rcases h.2 with⟨c,d⟩| ⟨g1,o,f,c,_,g2,_,_,_,g3⟩
 .have g:=h.1;have i:=b.1;rw[d] at g i;grind
 .rcases b.2 with⟨j,_⟩| ⟨p,k,l,j,_,q,_,_,_,m⟩<;>grind
def Xj.more{acc:List Cl}{x:Cl}(h:Xj B w1 v acc)(j:db pb w1 w2)(y:pb<B)(hx:Fb (Nu w1 w2) w2 u x)(l:B<=w1.heap.size)
  (f:Ext w2 w3) (m:w3.ownsRow B 79 1 v acc.length xs) (n:W.ownsRow B 79 1 tv (acc.length+1) (xs++[u]))
  (o:w3.grownBy W v.ownBlock) (hv:tv.ownBlock=v.ownBlock\/∀ k,tv.ownBlock=O k->w3.heap.size<=k):Xj B W tv (acc++[x]):=by
 obtain⟨a,o1,o2⟩:=h;have p:=j.size;have q:=f.size;have r:=o.size;have s:w3.ownsRow B 79 1 v acc.length a:=jL f.ext (by grind [al3]);have e:a=xs:=aGv s m;subst e;have lt:∀ k,v.ownBlock=O k->k<w1.heap.size:=fun k hk=>(o1.lt k hk).2;have c:∀ b t cs,O b≠v.ownBlock->b<w3.heap.size->w3.heap[b]?=aO cs t->W.heap[b]?=aO cs t:=
  (by grind [World.grownBy.block])
 have nv:∀ b,b<w3.heap.size->O b≠v.ownBlock->O b≠tv.ownBlock:=yH;refine⟨_,by rw[List.length_append];exact n,km.snoc ?_ ?_⟩
 .refine hx.mono yH (fun b cs t g ht i=>?_);have d:=f.ext _ _ i;exact c b _ cs (fun e=>by have:=lt b e.symm;have:=g.1;omega) (bg d) d
 .refine km.mono (F:=fun b=>B<=b/\b<w1.heap.size/\O b≠v.ownBlock) yH (fun b cs t g ht i=>?_) _ _ o2;have w:=j.bJ i (by have:=g.1;omega) ht;have d:=f.ext _ _ w;exact c b _ cs g.2.2 (bg d) d
structure GR(pb tb:Nat)(T:List P.Tok)(B:Nat)(w:Z)(q3 q:Nat)(nm:Bs)(r:cj Cl)(cont:List Ex->Bd->Nat->List Bs->Option (cj Cl))(w':Z):Prop where
 fr:db pb w w'
 t3:∃ kd ps,w'.heap[q3]?=aO #[zi kd,aT nm,zi ps] 142
 st:∃ av bv l bd k vs,w'.heap[q]?=aO #[aT nm,av,bv,bW] 86 /\
  lO (fun b=>B<=b/\b<w'.heap.size/\b≠q) w' av l/\dJ (fun b=>B<=b/\b<w'.heap.size/\b≠q) w' bv bd/\SP w' pb tb T k vs 0/\cont l bd k vs=O r
def al6(h:SP w pb tb T k vars d)(s:Bs)(b:s.all P.digit=G) :
  Calls bbv 49 #[pp pb,aT s] w fun e w'=>e = ah (.bool (dZ T k s))/\SP w' pb tb T (if dZ T k s=A then k+1 else k) vars d/\db pb w w':=by
 by_cases hx:dZ T k s=A
 .refine Calls.mono (vh h s hx) ?_;grind
 .have a:dZ T k s=false:=zg;refine Calls.mono (qD h s a b) ?_;rintro e w' ⟨rfl,rfl⟩;rw[bM hx,a];exact⟨J,h,bB.refl _ _⟩
def acR(h:SP w pb tb T k vars d)(s:Bs)(b:s.all P.digit=G){α:Type}(x:α){r:cj α}(hr:mR T s x k vars=O r) :
  Calls bbv 51 #[pp pb,aT s] w fun e w'=>db pb w w' /\
   ((e = ah (ak #[])/\r = .ok x (k+1) vars/\SP w' pb tb T (k+1) vars d)\/(∃ c a,r = .err c a/\nw c a w w' e)):=by
 unfold mR at hr;split at hr
 .rename_i hx;refine(Sz h s hx).mono ?_;grind
 .rename_i hx;refine(SA h s zg b).mono ?_;grind
theorem GR.step{q:Nat}{nm:Bs}{r:cj Cl}{a:List Ex->Bd->Nat->List Bs->Option (cj Cl)}(d:db pb w w1)(c:db pb w1 w2)
  (e:pb<cap/\cap<B/\B<=q) (t3:∃ kd ps,w1.heap[cap]?=aO #[zi kd,aT nm,zi ps] 142) {l:List Ex} {bd:Bd} {vs:List Bs}
  (g1:w1.heap[q]?=aO #[aT nm,av,tv,bW] 86)
  (g2:lO (fun b=>B<=b/\b<w1.heap.size/\b≠q) w1 av l) (g3:dJ (fun b=>B<=b/\b<w1.heap.size/\b≠q) w1 tv bd) (g4:SP w2 pb tb T k vs 0) (g5:a l bd k vs=O r):GR pb tb T B w cap q nm r a w2:=by
 have:=c.size;obtain⟨kd,ps,t3⟩:=t3;have hm:∀ b,(fun b=>B<=b/\b<w1.heap.size/\b≠q) b->(fun b=>B<=b/\b<w2.heap.size/\b≠q) b:=yH;have hk:CB (fun b=>B<=b/\b<w1.heap.size/\b≠q) w1 w2:=(by grind [db.al1]);exact⟨d.trans c,(by grind [t3,db.bJ]),av,tv,l,bd,k,vs,(by grind [db.bJ]),g2.mono hm hk.lF,dJ.mono hm hk.lF _ _ g3,g4,g5⟩
def aGw(h:SP w pb tb T 0 [] 0)(z:mY w tb) :
  Calls bbv 46 #[pp pb] w (al2 pb w (ID T)):=by
 have hlt:=h.lt;have fZ:=h.d2.2.2;refine awV ?_;refine⟨fun n t w2=>db pb w w2/\∃ f k vs acc,n=f+1/\acc.length<=40/\Fa T f k acc=O (ID T)/\SP w2 pb tb T k vs 0/\Xj w.heap.size w2 (t 2) acc,
  ⟨_,bB.refl _ _,_,0,[],[],J,zs,al0 T,h,[],a1Q _ _ _ _,J⟩,?_⟩
 intro n t dd w2 hI;refine toPr ?_;obtain⟨hF,f,k,vs,acc,rfl,aVy,j,hP,eG⟩:=hI;have s12:=hF.size;cases f with
 | zero=>rw[Fa] at j;cases j
 | succ f=>
 rw[Fa] at j;obtain⟨cap,va,vc,cs,h3,jz,sQ,hlT,Im,g0,g1,g2,g3,g4,g5⟩:=hP.x;have l3:=bg h3;have e0:((0:Nat):Int)=0:=rfl;rw[e0] at h3;obtain⟨xs,o1,o2⟩:=id eG;obtain⟨ra,rc,hv⟩:=gV o1;have hcw:mY w2 tb:=z.fr hF hlt;by_cases xN:(tk T k).kind=0
 .rw[zip xN] at j;refine jc h3 @g0 @g3 ?_;rw[<- a1w j];refine⟨hF,t 2,xs,J,EZ o1 (fun b p=>⟨(o1.lt b p).1,(o1.lt b p).2⟩),km.mono yH (fun b cs t _ _ z=>z) _ _ o2⟩
 .rw[bM xN] at j;have al8:¬ (((tk T k).kind:Nat):Int)=0:=zo;have hnx:=hP.tw.next Im xN
  refine dB h3 @g0 @g3 @g5 ?_;refine⟨fun _ w3=>w3=w2/\¬ acc.length=40,?_,?_⟩
  .by_cases H:acc.length=40
   .rw[zip H] at j;have aGy:(acc.length:Int)=40:=zo;refine cJ hv ?_;refine(Cb _ _ _ pb hP.sb).mono ?_;rintro e w3 ⟨i,xU,-⟩;have PF:=Na i s12;obtain⟨b,rfl,-,-⟩:=i;refine bH ?_;rw[<- a1w j];exact⟨hF.trans xU,PF⟩
   .have aGy:¬ (acc.length:Int)=40:=zo;refine cJ hv ?_;omega
  .rintro _ w3 ⟨rfl,H⟩ _;rw[bM H] at j;cases g:EP T (xS T) k with
   | none=>rw[g] at j;cases j
   | some qc=>
   rw[g] at j;have hq5:=hP.aGr h3 jz sQ;have To:db pb w3 (bQ w3 pb (ae #[.slice (O ⟨tb,k*3,V⟩) (T.length-k) (cap-k),bW,zi 0] 145)):=(bB.refl _ _).bQ (.inl fun _=>.inl J);have g05:(bQ w3 pb (ae #[.slice (O ⟨tb,k*3,V⟩) (T.length-k) (cap-k),bW,zi 0] 145)).heap[tb]?=aO cs 142:=yH;refine jc h3 @g0 @g2 ?_;refine⟨fun _ d=>(tk T k).kind=1/\db pb w3 d/\SP d pb tb T k [] 0/\d.heap[w3.heap.size]?=aO #[zi (tk T k).kind,aT ((tk T k).text),zi (tk T k).pos] 142/\d.heap.size=w3.heap.size+1 /\
    (∀ b cs t,b<w3.heap.size->b≠pb->w3.heap[b]?=aO cs t->d.heap[b]?=aO cs t),?_,?_⟩
   .have B:Ext (bQ w3 pb (ae #[.slice (O ⟨tb,k*3,V⟩) (T.length-k) (cap-k),bW,zi 0] 145)) (bQ ((bQ w3 pb (ae #[.slice (O ⟨tb,k*3,V⟩) (T.length-k) (cap-k),bW,zi 0] 145)).alloc (ae #[zi 0,aT [],zi 0] 142)) w3.heap.size (ae #[zi (tk T k).kind,aT ((tk T k).text),zi (tk T k).pos] 142)):=yF;have vp:=hq5.acN B;by_cases jN:(tk T k).kind=1
    .have aGA:(((tk T k).kind:Nat):Int)=1:=zo;refine cJ @g2 ?_;refine⟨jN,To.trans B.toM,vp,fun b cs t p CC z=>B.ext _ _ ?_⟩;rw[jb CC];exact z
    .have aGA:¬ (((tk T k).kind:Nat):Int)=1:=zo;rw[EP,bM jN] at g;refine cJ @g2 ?_;refine(Sy vp).mono ?_;rintro e w7 ⟨i,y,-⟩;have PF:=Na (w:=w) i (by rw[vf,size_alloc,vf];omega);obtain⟨b,rfl,-,-⟩:=i;refine bH ?_;rw[<- a1w g] at j;simp only[cj.bind,a1o] at j;rw[<- j];exact⟨hF.trans ((To.trans B.toM).trans y),PF⟩
   .rintro _ d ⟨jN,rO,vp,t6,s6,k6⟩ _;obtain⟨Xk,I,K,cs6,L,aVB,aVC,-,-,g06,-⟩:=vp.x;rw[e0] at L;have l6:=bg L;have lt6:=bg t6;have xP:¬ Xk-k=1:=zo;have lp6:pb<d.heap.size:=l6;have hB6:w.heap.size<=w3.heap.size:=s12;simp (disch:=first|assumption|omega|simp only[zS]<;>omega|decide) only[Pr,PX,PC,NX,ends,EU,po,jg,Nat.reduceAdd,Nat.reduceMul,Nat.reduceLeDiff,Nat.reduceEqDiff,Int.reduceToNat,Int.reduceAdd,Int.reduceLT,Int.reduceLE,↓reduceIte,forall_const,eq_self,aa0,jx,aaA,aaB,Pf,Pg,Gk,Gl,aaD,aaE,aaF,aaG,aaH,aaI,aaJ,aaK,aaL,aaO,aaP,aaM,aaN,aaU,aaV,aaW,aaX,Wx,aaR,aa1,aa2,abA,aa3,aa4,aa5,aa6,MD,sK,qz,jb,Se,Ca,vf,size_alloc,Sj,abc,aa7,aa8,aa9,aba,abb,abd,abe,abf,abg,abh,abi,abj,abk,abl,abm,abn,abo,abp,abq,abr,abt,abu,abv,we,u8w,Wr,aax,aay,Int.toNat_natCast,Option.isNone_none,Option.isNone_some,List.getElem?_toArray,List.getElem?_cons_zero,List.getElem?_cons_succ,List.setIfInBounds_toArray,List.set_cons_zero,List.set_cons_succ,List.size_toArray,List.length_cons,List.length_nil,List.drop_zero,List.drop_succ_cons,List.take_succ_cons,List.take_zero,List.take_nil,List.drop_nil,List.all_cons,List.all_nil,Bool.and_true,Bool.true_and,Nat.zero_add,Nat.add_zero,Nat.mul_one,and_self,and_true,true_and,decide_true,decide_false,Bool.not_true,Bool.not_false,not_true_eq_false,not_false_eq_true,ajE,ajG,ajH,ajJ,ajL,ajM,ajN,ajO,ajP,ajQ,ajR,ajS,ajT,ajU,ajV,ajW,ajY,ajZ,aj0,aj1,aj3,aj6,aj7,aj8,aj9,aka,L,t6,acP];have eq3:(bQ w3 pb (ae #[.slice (O ⟨tb,k*3,V⟩) (T.length-k) (cap-k),bW,zi 0] 145)).heap.size=w3.heap.size:=yH;have eq:((bQ d pb (ae #[.slice (O ⟨tb,k*3+3,V⟩) (T.length-k-1) (Xk-k-1),.slice I 0 K,zi 0] 145)).alloc (ae #[.int .u8 103,aT [116,114,117,101],bW,bW] 149)).heap.size=d.heap.size+1:=yH;have hlq:pb<w3.heap.size/\w3.heap.size<d.heap.size/\d.heap.size<=d.heap.size+1:=yH;have aVH:EP T (xS T) k=O qc:=g;have aVI:∀ {M:Z},db pb w3 M->mY M tb:=(by grind [mY.fr,bB.trans]);have Tp:∀ {M w':Z} {e:Ending} {c a:Nat},db pb w3 M->db pb M w'->nw c a M w' e->qc = .err c a->al2 pb w (ID T) e w':=by
     intro M w' e c a Fe BC i hqc;rw[hqc] at j;simp only[cj.bind,a1o] at j;rw[<- j];exact⟨(by grind [bB.trans]),Na i (by have:=Fe.size;omega)⟩
    try rw[eq3]
    try rw[eq]
    refine⟨fun _ w'=>GR pb tb T d.heap.size w3 w3.heap.size (d.heap.size+1) (tk T k).text qc (acw T (xS T) (tk T k).text (tk T k).pos) w',?_,?_⟩
    .have aVJ:SP d pb tb T k [] 0:=vp;obtain⟨q,rk⟩:∃ q,q=((bQ d pb (ae #[.slice (O ⟨tb,k*3+3,V⟩) (T.length-k-1) (Xk-k-1),.slice I 0 K,zi 0] 145)).alloc (ae #[.int .u8 103,aT [116,114,117,101],bW,bW] 149)).alloc
       (ae #[aT ((tk T k).text),bW,pp d.heap.size,bW] 86):=yH
     have N:SP q pb tb T (k+1) [] 0:=by
      have C:SP (bQ d pb (ae #[.slice (O ⟨tb,k*3+3,V⟩) (T.length-k-1) (Xk-k-1),.slice I 0 K,zi 0] 145)) pb tb T (k+1) [] 0:=
       (by grind [SP.onU])
      rw[rk];exact C.acN (((bB.refl _ _).alloc _).alloc _)
     have D:db pb w3 q:=by
      rw[rk];exact((rO.bQ (.inl fun _=>.inl J)).alloc _).alloc _
     have tA:q.heap[w3.heap.size]?=aO #[zi (tk T k).kind,aT ((tk T k).text),zi (tk T k).pos] 142:=by
      exact yH
     have bA:q.heap[d.heap.size]?=aO #[.int .u8 103,aT [116,114,117,101],bW,bW] 149:=by
      exact yH
     have cA:q.heap[d.heap.size+1]?=aO #[aT ((tk T k).text),bW,pp d.heap.size,bW] 86:=by
      exact yH
     have sA:q.heap.size=d.heap.size+2:=yH;have nW:dJ (fun b=>d.heap.size<=b/\b<q.heap.size/\b≠d.heap.size+1) q (pp d.heap.size) O6:=DU yH bA Iz Ks;show CA _ _ _ _ _ _;rw[<- rk];refine(al6 N [40] zd).mono ?_;rintro e wB ⟨rfl,Xl,PM⟩;rw[EP,zip jN] at g;have sB:=PM.size;refine bH ?_;by_cases E:dZ T (k+1) [40]=A
     .rw[zip E] at g Xl;rw[E,Pf];have tB:=PM.bJ tA zo zd;have cB:=PM.bJ cA zo zd;cases P:oQ T (xS T) (k+1+1) [] 0 (tk T k).pos [] with
      | none=>rw[P] at g;simp [cj.bind] at g
      | some qa=>
      rw[P] at g;refine((aDb _).go _ Xl zo P).mono ?_;intro e wC Tq;cases qa with
      | err c a=>
       obtain⟨i,PN,-⟩:=Tq;simp only[cj.bind,a1o] at g;have kY:=Tp (D.trans PM) PN i g.symm;obtain⟨b,rfl,-,-⟩:=i;refine bH ?_;omega
      | ok l k2 PO=>
       obtain⟨v,rfl,j4,hPC,PN⟩:=Tq;simp only[cj.bind] at g;have sC:=PN.size;have tC:=PN.bJ tB zo zd;have cC:=PN.bJ cB zo zd;have lcC:=bg cC;obtain⟨Q,R,ac,rfl⟩:∃ a n c,v = .slice a n c:=by
        obtain⟨wN,h1,-⟩:=j4;obtain⟨a,n,c,h,-⟩:=h1.shape;exact⟨a,n,c,h⟩
       refine cJ @cC ?_;obtain⟨m,S⟩:=cg (bQ wC (d.heap.size+1) (ae #[aT ((tk T k).text),.slice Q R ac,pp d.heap.size,bW] 86));rw[<- S];have hPD:SP m pb tb T k2 PO 0:=by rw[S];exact hPC.acM cC zd zo zo
       have U:db pb w3 m:=by rw[S];exact((D.trans PM).trans PN).bQ (.inr zo)
       have tD:m.heap[w3.heap.size]?=aO #[zi (tk T k).kind,aT ((tk T k).text),zi (tk T k).pos] 142:=yH;have cD:m.heap[d.heap.size+1]?=aO #[aT ((tk T k).text),.slice Q R ac,pp d.heap.size,bW] 86:=yH;have sD:m.heap.size=wC.heap.size:=yH;have kD:CB (fun b=>d.heap.size<=b/\b≠d.heap.size+1) wC m:=fun b cs t p _ z=>yH;have ame:dJ (fun b=>d.heap.size<=b/\b<m.heap.size/\b≠d.heap.size+1) m (pp d.heap.size) O6:=
        DU yH (by grind [jb,db.bJ]) Iz Ks
       have amf:lO (fun b=>d.heap.size<=b/\b<m.heap.size/\b≠d.heap.size+1) m (.slice Q R ac) l:=
        j4.mono yH yH
       cases GS:mR T [41] l k2 PO with
       | none=>rw[GS] at g;cases g
       | some qm=>
       rw[GS] at g;refine(acR hPD [41] zd l GS).mono ?_;rintro e wE ⟨W,(⟨rfl,X,Xm⟩| ⟨c,a,X,i⟩)⟩
       .rw[X] at g;refine bH ?_;exact GR.step U W hlq yH cD amf ame Xm g
       .rw[X] at g;simp only[a1o] at g;have kY:=Tp U W i g.symm;obtain⟨b,rfl,-,-⟩:=i;refine bH ?_;omega
     .rw[bM E] at g Xl;have tT:dZ T (k+1) [40]=false:=zg;rw[tT,Pg];exact GR.step D PM hlq yH cA Iz nW Xl g
    .rintro _ w7 r _;obtain⟨kd7,ps7,t7⟩:=r.t3;have y:=r.fr;obtain⟨av,bv,l,bd,k7,F,g7,ga,gb,C,o⟩:=r.st;generalize (tk T k).text=nm at *;generalize (tk T k).pos=pos at *;refine⟨fun _ w'=>GR pb tb T d.heap.size w3 w3.heap.size (d.heap.size+1) nm qc (W2 T (xS T) nm) w',?_,?_⟩
     .refine⟨fun s w'=>w'=w7/\s 72 = .bool (decide (0<=jw nm\/nm=[109,111,100])),?_,?_⟩
      .refine cJ @t7 ?_;refine(M7 _).mono ?_;rintro e w8 ⟨rfl,rfl⟩;refine dj @aaC @t7 ?_;grind
      .rintro s8 w8 ⟨rfl,hs8⟩ _;rw[hs8];by_cases p:0<=jw nm\/nm=[109,111,100]
       .rw[Gk _ _ p];rw[acw,zip p] at o;refine(Cb _ _ _ pb C.sb).mono ?_;rintro e w9 ⟨i,ko,-⟩;have kY:=Tp y ko i (a1w o).symm;obtain⟨b,rfl,-,-⟩:=i;refine bH ?_;omega
       .rw[Gl _ _ p];rw[acw,bM p] at o;grind [GR.step,bB.refl]
     .clear o C gb ga g7 y t7 r;rintro _ w8 r _;obtain⟨kd7,ps7,t7⟩:=r.t3;have y:=r.fr;obtain⟨av,bv,l,bd,k7,F,g7,ga,gb,C,o⟩:=r.st;refine⟨fun _ w'=>GR pb tb T d.heap.size w3 w3.heap.size (d.heap.size+1) nm qc (fun l bd k vs=>mR T [46] ⟨nm,l,bd,vs⟩ k vs) w',?_,?_⟩
      .refine(al6 C [58,45] zd).mono ?_;rintro e w9 ⟨rfl,hP9,ko⟩;refine bH ?_;by_cases E:dZ T k7 [58,45]=A
       .rw[W2,zip E] at o;rw[zip E] at hP9;rw[E,Pf];cases p:mS T (xS T) (k7+1) F 0 with
        | none=>rw[p] at o;simp [cj.bind] at o
        | some qb=>
        rw[p] at o;refine((alW _).go hP9 (by grind [bB.trans]) zo p).mono ?_;intro e q Tq;cases qb with
        | err c a=>
         obtain⟨i,D,-⟩:=Tq;simp only[cj.bind,a1o] at o;have kY:=Tp (y.trans ko) D i o.symm;obtain⟨b,rfl,-,-⟩:=i;refine bH ?_;omega
        | ok bd2 k2 PO=>
         obtain⟨v,rfl,j4,N,D⟩:=Tq;simp only[cj.bind] at o;have s9:=ko.size;have t9:=db.bJ (ko.trans D) t7 zo zg;have g9:=db.bJ (ko.trans D) g7 zo zg;have lg9:=bg g9;have lg7:=bg g7;obtain⟨vb,rfl,yX⟩:=j4.shape;refine cJ @g9 ?_;obtain⟨m,S⟩:=cg (bQ q (d.heap.size+1) (ae #[aT nm,av,pp vb,bW] 86));rw[<- S];have hPD:SP m pb tb T k2 PO 0:=by rw[S];exact N.acM g9 zd zo zo
         have U:db pb w3 m:=by rw[S];exact((y.trans ko).trans D).bQ (.inr zo)
         have tD:m.heap[w3.heap.size]?=aO #[zi kd7,aT nm,zi ps7] 142:=yH;have cD:m.heap[d.heap.size+1]?=aO #[aT nm,av,pp vb,bW] 86:=yH;have sD:m.heap.size=q.heap.size:=yH;have kD:CB (fun b=>d.heap.size<=b/\b≠d.heap.size+1) q m:=fun b cs t p _ z=>yH;have k9:CB (fun b=>d.heap.size<=b/\b≠d.heap.size+1) w8 q:=(by grind [db.al1,bB.trans]);have amf:lO (fun b=>d.heap.size<=b/\b<m.heap.size/\b≠d.heap.size+1) m av l:=
          ga.mono yH (by grind [CB.lF])
         have ame:dJ (fun b=>d.heap.size<=b/\b<m.heap.size/\b≠d.heap.size+1) m (pp vb) bd2:=
          dJ.mono yH yH _ _ j4
         grind [GR.step,bB.refl]
       .rw[W2,bM E] at o;rw[bM E] at hP9;have tT:dZ T k7 [58,45]=false:=zg;rw[tT,Pg];grind [GR.step]
      .clear o C gb ga g7 y t7 r;rintro _ w9 r _;obtain⟨kd7,ps7,t7⟩:=r.t3;have y:=r.fr;obtain⟨av,bv,l,bd,k7,F,g7,ga,gb,C,o⟩:=r.st;refine(acR C [46] zd _ o).mono ?_;rintro e wE ⟨W,(⟨rfl,X,Xm⟩| ⟨c,a,X,i⟩)⟩
       .obtain⟨aVO,vaE,vcE,csE,h3E,-⟩:=Xm.x;have sE:=W.size;have gE:=W.bJ g7 zo zd;have lgE:=bg gE;have lg7:=bg g7;obtain⟨vb,rfl,yX⟩:=gb.shape;obtain⟨Q,R,ac,rfl⟩:∃ a n c,av = .slice a n c:=by
         obtain⟨wN,h1,-⟩:=ga;obtain⟨a,n,c,h,-⟩:=h1.shape;exact⟨a,n,c,h⟩
        refine dj h3E @gE ?_;obtain⟨u,Xo⟩:=cg (bQ wE (d.heap.size+1) (ae #[aT nm,.slice Q R ac,pp vb,.slice vaE F.length vcE] 86));rw[<- Xo];have aGR:db pb w3 wE:=y.trans W;have hPG:SP u pb tb T (k7+1) F 0:=by rw[Xo];exact Xm.acM gE zd zo zo
        have ac7:db pb w3 u:=by rw[Xo];exact aGR.bQ (.inr zo)
        have gG:u.heap[d.heap.size+1]?=aO #[aT nm,.slice Q R ac,pp vb,.slice vaE F.length vcE] 86:=yH;have sG:u.heap.size=wE.heap.size:=yH;have kG:CB (fun b=>d.heap.size<=b/\b≠d.heap.size+1) w9 u:=fun b cs t p ht z=>by
         grind [jb,db.bJ]
        have aGU:lO (fun b=>d.heap.size<=b/\b<u.heap.size) u (.slice Q R ac) l:=
         ga.mono yH (by grind [CB.lF])
        have bdG:dJ (fun b=>d.heap.size<=b/\b<u.heap.size) u (pp vb) bd:=
         dJ.mono yH (by grind [CB.lF]) _ _ gb
        rw[X] at j;simp only[cj.bind] at j;have clG:Fb (fun b=>d.heap.size<=b/\b<u.heap.size) u (pp (d.heap.size+1)) ⟨nm,l,bd,F⟩:=
         ⟨d.heap.size+1,_,_,vaE,vcE,J,yH,gG,aGU,bdG⟩
        have B:Ext u (u.alloc (ae #[pp (d.heap.size+1)] 79)):=yF;have IL:=jL B.ext (al3 ac7 (hv ▸ o1) zo zd);rw[hv];refine acO IL (sK (by rw[Xo,vf])) J zo (by have:=B.size;omega) ?_;intro v' jl S8 pY Br;have vu:db pb w jl:=((hF.trans ac7).trans B.toM).grow pY (fun kk nT=>(IL.lt kk nT).1);refine⟨f+1,zo,vu,f,k7+1,F,acc++[⟨nm,l,bd,F⟩],J,zg,j,(hPG.acN B).Ps IL zg zo pY,?_⟩;rw[hv] at eG;exact eG.more ac7 zo (clG.mono yH (fun b cs t _ _ z=>z)) zo B IL S8 pY Br
       .have kY:=Tp y W i X;obtain⟨b,rfl,-,-⟩:=i;refine bH ?_;omega
open Go.Proofs.YtoegidfbnkaabaaGreatDoor.Sx
section
variable{p0 p1 p2 p3 p4 p5 p6 p7:Y}{w:Z}{R:Ending->Z->Prop}
def aGX:=cy w R [p0,p1] (gc [] [] []) func45
def aGY:=cy w R [p0,p1] (gc [] [] []) func58
end
def ac8(w:Z):(Instr.typeAssert ai 20 73 A).run bbv w = .ok (ak #[aq V,.bool G]) w:=zk
def ac9(v:Y)(w:Z):(Instr.typeAssert (aj 73 v) 20 73 A).run bbv w = .ok (ak #[v,.bool A]) w:=zk
def aGZ(v4 v5:Y)(w:Z):CallsD bbv 83 #[v4,v5] .returning w fun e u' w'=>e = ah (ak #[])/\u' = .returning/\w'=w:=by
 refine callsD_of_wpS func83 J fun AD cs hu=>?_;apply wpS_seq;apply wpS_region;simp [wpOpsS,go_sem,recoverD,hu,ntmps83,a2c,ac8];apply wpS_seq;apply wpS_region;simp [wpOpsS,go_sem,recoverD,hu,ntmps83,a2c];refine wpS_cond (t:=false) (by simp [Act.eval]) ?_;simp only[Bool.false_eq_true,if_false];refine wpS_of_wp (wp_skip ?_);cases AD;simp_all [bodyPostS,results,Tryz.results83]
def aG0(b4 b5:Nat)(o4 o5:Y)(v:Y)(xV:List PanicEntry)(w:Z)(h4:w.cell? ⟨b4,0,V⟩=O o4)(z4:w.frozen? ⟨b4,0,V⟩=G)
  (h5:(w.setCell ⟨b4,0,V⟩ bW).cell? ⟨b5,0,V⟩=O o5) (z5:(w.setCell ⟨b4,0,V⟩ bW).frozen? ⟨b5,0,V⟩=G) :
  CallsD bbv 83 #[pp b4,pp b5] (.panicking ({ v:=aj 73 v,recovered:=false }::xV)) w fun e u' w'=>
   e = ah (ak #[])/\u' = .panicking ({ v:=aj 73 v,recovered:=true }::xV)/\w'=(w.setCell ⟨b4,0,V⟩ bW).setCell ⟨b5,0,V⟩ (aj 73 v):=by
 refine callsD_of_wpS func83 J fun AD cs hu=>?_;apply wpS_seq;apply wpS_region;simp [wpOpsS,go_sem,recoverD,hu,ntmps83,a2c,ac9];apply wpS_seq;apply wpS_region;simp [wpOpsS,go_sem,recoverD,hu,ntmps83,a2c];refine wpS_cond (t:=true) (by simp [Act.eval]) ?_;simp only[if_true];apply wpS_seq;apply wpS_region;simp [wpOpsS,go_sem,recoverD,hu,ntmps83,a2c];apply wpS_region;simp [wpOpsS,go_sem,recoverD,hu,ntmps83,a2c,h4,z4,h5,z5];simp [bodyPostS,results,Tryz.results83]
def aG1(v4 v5:Y)(w:Z):CallsD bbv 90 #[v4,v5] .returning w fun e u' w'=>e = ah (ak #[])/\u' = .returning/\w'=w:=by
 refine callsD_of_wpS func90 J fun AD cs hu=>?_;apply wpS_seq;apply wpS_region;simp [wpOpsS,go_sem,recoverD,hu,ntmps90,a2c,ac8];apply wpS_seq;apply wpS_region;simp [wpOpsS,go_sem,recoverD,hu,ntmps90,a2c];refine wpS_cond (t:=false) (by simp [Act.eval]) ?_;simp only[Bool.false_eq_true,if_false];refine wpS_of_wp (wp_skip ?_);cases AD;simp_all [bodyPostS,results,Tryz.results90]
def aG2(b4 b5:Nat)(o4 o5:Y)(v:Y)(xV:List PanicEntry)(w:Z)(h4:w.cell? ⟨b4,0,V⟩=O o4)(z4:w.frozen? ⟨b4,0,V⟩=G)
  (h5:(w.setCell ⟨b4,0,V⟩ (aq V)).cell? ⟨b5,0,V⟩=O o5) (z5:(w.setCell ⟨b4,0,V⟩ (aq V)).frozen? ⟨b5,0,V⟩=G) :
  CallsD bbv 90 #[pp b4,pp b5] (.panicking ({ v:=aj 73 v,recovered:=false }::xV)) w fun e u' w'=>
   e = ah (ak #[])/\u' = .panicking ({ v:=aj 73 v,recovered:=true }::xV)/\w'=(w.setCell ⟨b4,0,V⟩ (aq V)).setCell ⟨b5,0,V⟩ (aj 73 v):=by
 refine callsD_of_wpS func90 J fun AD cs hu=>?_;apply wpS_seq;apply wpS_region;simp [wpOpsS,go_sem,recoverD,hu,ntmps90,a2c,ac9];apply wpS_seq;apply wpS_region;simp [wpOpsS,go_sem,recoverD,hu,ntmps90,a2c];refine wpS_cond (t:=true) (by simp [Act.eval]) ?_;simp only[if_true];apply wpS_seq;apply wpS_region;simp [wpOpsS,go_sem,recoverD,hu,ntmps90,a2c];apply wpS_region;simp [wpOpsS,go_sem,recoverD,hu,ntmps90,a2c,h4,z4,h5,z5];simp [bodyPostS,results,Tryz.results90]
namespace P
def program(s:Bs):cj (List Cl):=
 if 2000<s.length then .err 1 0 else match lex s with
 | .inl i=>.err 2 i
 | .inr T=>ID T
def tU{α:Type}(g:List Tok->cj α)(s:Bs):cj α:=if 2000<s.length then .err 1 0 else match lex s with
 | .inl i=>.err 2 i
 | .inr T=>g T
def aG3(T:List Tok):cj Ex:=
 match iZ T (xS T) 0 0 [] 0 with
 | some (.ok x k vs)=>if (tk T k).kind=0 then .ok x k vs else .err 2 (tk T k).pos
 | some (.err e a)=>.err e a
 | none=>.err 0 0
end P
structure Ts(T:List P.Tok):Prop extends TW T where
 sg:∀ u∈T,u.kind=4->u.text=[46]\/u.text∈nH
theorem Ts.of(h:GH n T)(a:n<=2000):Ts T:=
 { len:=by have:=h.len;omega,last:=h.last,kind:=fun u hu=>(h.tok u hu).1,digits:=fun u hu=>(h.tok u hu).2.1,words:=fun u hu=>(h.tok u hu).2.2.1,vars:=fun u hu=>(h.tok u hu).2.2.2.1,sg:=fun u hu=>(h.tok u hu).2.2.2.2 }
def Tt(h:P.lex s = .inr T):GH s.length T:=S5 _ _ _ _ (by rw[S6,h])
theorem Al.up(h:Al w B)(a:B<=B'):Al w B':=
 ⟨a1W h.lt a,(by grind [a1W,Gt])⟩
theorem mY.up(h:mY w B)(a:B<=B'):mY w B':=⟨a1W h.lt a,h.cell⟩
structure Xp(w:Z):Prop where
 Gt:Al w w.heap.size
 cmp:mY w w.heap.size
 sig:M9 w
def aG4(h:res w) :
  LV bbv res R [{ target:=.fn (.func 83) #[tv,vv],args:=#[]++#[] }] .returning w:=by
 refine B8 zk zs ((aGZ tv vv w).mono ?_);rintro e a w' ⟨rfl,rfl,rfl⟩;exact h
def aG5(a:w.heap[pb]?=aO #[o4] 68)
  (d:w.heap[cap]?=aO #[o5] 57) (f:pb≠cap)
  (h:res (bQ (bQ w pb (ae #[bW] 68)) cap (ae #[aj 73 v] 57))) :
  LV bbv res R [{ target:=.fn (.func 83) #[pp pb,pp cap],args:=#[]++#[] }]
   (.panicking [{ v:=aj 73 v,recovered:=false }]) w:=by
 have b:w.setCell ⟨pb,0,V⟩ bW=bQ w pb (ae #[bW] 68):=vg a _;have c:(bQ w pb (ae #[bW] 68)).heap[cap]?=aO #[o5] 57:=by
  exact yH
 refine B8 zk zs ((aG0 pb cap o4 o5 v [] w (by grind [a19]) (jJ a 0) (by grind [a19]) (by grind [jJ])).mono ?_);rintro e g w' ⟨rfl,rfl,rfl⟩;rw[b,vg c];exact h
def SP.fresh(b:GH n T)(c:n<=2000)(ht:w.heap[tb]?=aO iB 142)
  (g:iB.toList.take (T.length*3)=Cs T) (d:Al w tb) (hlt:tb<pb) (e:T.length<=cap) (f:cap<=9223372036854775807)
  (h:w.heap[pb]?=aO #[cS tb T.length cap,bW,zi 0] 145):SP w pb tb T 0 [] 0:=by
 have a:=Ts.of b c;have k:∀ i,i<T.length*3->iB[i]?=(Cs T)[i]?:=zg;refine⟨a.toTW,hlt,a.toTW.pos,zs,⟨d,iB,ht,fun j l=>?_⟩,cap,bW,e,f,yH,a1Q _ _ _ _⟩;grind [alx]
def Xq(w:Z)(s:Bs)(e:Ending)(w':Z):Prop:=
 Ext w w'/\match P.program s with
 | .err c a=>∃ b,e = ah (ak #[.slice V 0 0,aj 73 (aq (O ⟨b,0,V⟩))])/\w'.heap[b]?=O (ae #[.int .i64 c,.int .i64 a] 77 (0,0))
 | .ok cs _ _=>∃ v vs,e = ah (ak #[v,ai])/\fJ (Nu w w') w' 79 v vs/\km (Nu w w') w' vs cs
def ada{d:Z}{a:Nat}(i:P.program s = .err c a)(j:Ext w d)(q4:d.heap[w.heap.size]?=aO #[o4] 68)
  (e:d.heap[w.heap.size+1]?=aO #[o5] 57) (k:d.heap[b]?=aO #[zi c,zi a] 77) (l:w.heap.size+2<=b) :
  LV bbv (fun d=>RD bbv (a1G 68 (pp w.heap.size)) d (fun r=>RD bbv (a1G 57 (pp (w.heap.size+1))) d
    (fun f=>Xq w s (ah (ak #[r,f])) d) NX) NX) (Xq w s)
   [{ target:=.fn (.func 83) #[pp w.heap.size,pp (w.heap.size+1)],args:=#[]++#[] }]
   (.panicking [{ v:=aj 73 (pp b),recovered:=false }]) d:=by
 refine aG5 q4 e zo ?_;have m:=bg q4;have n:=bg e;have g:(bQ (bQ d w.heap.size (ae #[bW] 68)) (w.heap.size+1) (ae #[aj 73 (pp b)] 57)).heap[w.heap.size]?=aO #[bW] 68:=by
  exact yH
 have h:(bQ (bQ d w.heap.size (ae #[bW] 68)) (w.heap.size+1) (ae #[aj 73 (pp b)] 57)).heap[w.heap.size+1]?=aO #[aj 73 (pp b)] 57:=by
  exact yH
 refine dj @g @h ?_;refine⟨yF,?_⟩;exact yH
def aG6(s:Bs)(w:Z)(S:s.length<=100000)(u:Xp w) :
  Calls bbv 45 #[aT s,.func (.func 46) #[] #[]] w (Xq w s):=by
 refine aGX ?_;refine bH ?_;obtain⟨l,U⟩:=cg ((w.alloc (ae #[bW] 68)).alloc (ae #[ai] 57));have sA:l.heap.size=w.heap.size+2:=yH;have W:Ext w l:=yF;have x:l.heap[w.heap.size]?=aO #[bW] 68:=yH;have y:l.heap[w.heap.size+1]?=aO #[ai] 57:=yH;rw[size_alloc,<- U];refine(alz s l S (u.sig.ext W)).mono ?_;rintro e w1 ⟨d,f⟩;have s1:=d.size;by_cases m:2000<s.length
 .rw[zip m] at f;obtain⟨b,rfl,p,H⟩:=f;exact ada (by rw[P.program,zip m]) yF (d.ext _ _ x) (d.ext _ _ y) p zo
 rw[bM m] at f;cases hx:P.lex s with
 | inl i=>
  rw[hx] at f;obtain⟨b,rfl,p,H⟩:=f;exact ada (by rw[P.program,bM m,hx]) yF (d.ext _ _ x) (d.ext _ _ y) p zo
 | inr T=>
  rw[hx] at f;obtain⟨v,rfl,z⟩:=f;have I:=Tt hx;have X:0<T.length:=(Ts.of I zo).toTW.pos;obtain⟨tM,z⟩:=z;rcases z with⟨-,h0⟩| ⟨tb,cap,cur,rfl,GJ,Cu,E8,wT,ht5,KB⟩
  .omega
  refine bH ?_;have B:=bg Cu;obtain⟨g,C⟩:=cg (w1.alloc (ae #[cS tb T.length cap,bW,zi 0] 145));have D:Ext w1 g:=yF;have sP:g.heap.size=w1.heap.size+1:=yH;have bP:g.heap[w1.heap.size]?=aO #[cS tb T.length cap,bW,zi 0] 145:=yH;rw[<- C];have K:Ext w g:=yF;have qJ:SP g w1.heap.size tb T 0 [] 0:=SP.fresh I zo yH KB ((u.Gt.ext fun b o _=>K.ext b o).up zo) B E8 (by grind [maxLen]) bP;refine⟨zk,(aGw qJ ((u.cmp.ext fun b o _=>K.ext b o).up zo)).mono ?_⟩;have L:P.program s=ID T:=by rw[P.program,bM m,hx]
  rintro e w3 ⟨q,r⟩;have s3:=q.size;have M:Ext w1 w3:=⟨q.os.trans D.os,q.tape.trans D.tape,q.output.trans D.output,zo,fun b o N _=>q.block b o yH (by
   have:=bg N;rintro (h | ⟨h,_⟩)<;>omega)⟩
  have E:Ext w w3:=yF;have q4:=M.ext _ _ (d.ext _ _ x);have F:=M.ext _ _ (d.ext _ _ y);cases hr:ID T with
  | err c a=>
   rw[hr] at r;obtain⟨b,rfl,p,H⟩:=r;exact ada (L.trans hr) E q4 F p zo
  | ok cs k wN=>
   rw[hr] at r;obtain⟨v,vs,rfl,g1,g2⟩:=r;obtain⟨Q,sn,R,rfl⟩:∃ a n c,v = .slice a n c:=by rcases g1 with⟨-,rfl⟩| ⟨b,cs',rfl,-⟩<;>exact zg
   have l4:=bg q4;have l5:=bg F;refine dj @q4 @F ?_;refine aG4 ?_;obtain⟨j,uD⟩:=cg (bQ (bQ w3 w.heap.size (ae #[.slice Q sn R] 68)) (w.heap.size+1) (ae #[ai] 57));have k4:j.heap[w.heap.size]?=aO #[.slice Q sn R] 68:=yH;have k5:j.heap[w.heap.size+1]?=aO #[ai] 57:=yH;have hz:∀ b o,b≠w.heap.size->b≠w.heap.size+1->w3.heap[b]?=O o->j.heap[b]?=O o:=yH;have Xs:Ext w j:=yF;have sz:j.heap.size=w3.heap.size:=yH;rw[<- uD];refine dj @k4 @k5 ?_;refine⟨Xs,?_⟩;rw[L,hr];have hf:∀ b,Nu g w3 b->Nu w j b:=zg;exact⟨_,vs,J,(by grind [fJ.mono]),g2.mono hf (fun b cs t N _ ho=>yH)⟩
def aG9(h:res w) :
  LV bbv res R [{ target:=.fn (.func 90) #[tv,vv],args:=#[]++#[] }] .returning w:=by
 refine B8 zk zs ((aG1 tv vv w).mono ?_);rintro e a w' ⟨rfl,rfl,rfl⟩;exact h
def aHa(a:w.heap[pb]?=aO #[o4] 79)
  (d:w.heap[cap]?=aO #[o5] 57) (f:pb≠cap)
  (h:res (bQ (bQ w pb (ae #[aq V] 79)) cap (ae #[aj 73 v] 57))) :
  LV bbv res R [{ target:=.fn (.func 90) #[pp pb,pp cap],args:=#[]++#[] }]
   (.panicking [{ v:=aj 73 v,recovered:=false }]) w:=by
 have b:w.setCell ⟨pb,0,V⟩ (aq V)=bQ w pb (ae #[aq V] 79):=vg a _;have c:(bQ w pb (ae #[aq V] 79)).heap[cap]?=aO #[o5] 57:=by
  exact yH
 refine B8 zk zs ((aG2 pb cap o4 o5 v [] w (by grind [a19]) (jJ a 0) (by grind [a19]) (by grind [jJ])).mono ?_);rintro e g w' ⟨rfl,rfl,rfl⟩;rw[b,vg c];exact h
def amh{α:Type}(I:(Nat->Prop)->Z->Nat->α->List Bs->Prop)(pb:Nat)(w:Z)(r:cj α)(e:Ending)(w':Z):Prop:=
 db pb w w'/\match r with
 | .err c a=>nw c a w w' e
 | .ok x _ vs=>∃ b,e = ah (aq (O ⟨b,0,V⟩))/\I (Nu w w') w' b x vs
def Xt{α:Type}(I:(Nat->Prop)->Z->Nat->α->List Bs->Prop)(w:Z)(r:cj α)(e:Ending)(w':Z):Prop:=
 Ext w w'/\match r with
 | .err c a=>∃ b,e = ah (ak #[aq V,aj 73 (aq (O ⟨b,0,V⟩))])/\w'.heap[b]?=O (ae #[.int .i64 c,.int .i64 a] 77 (0,0))
 | .ok x _ vs=>∃ b,e = ah (ak #[aq (O ⟨b,0,V⟩),ai])/\I (Nu w w') w' b x vs
def adh{α:Type}{I:(Nat->Prop)->Z->Nat->α->List Bs->Prop}{r:cj α}{d:Z}{a:Nat}(f:r = .err c a)(k:Ext w d)(q4:d.heap[w.heap.size]?=aO #[o4] 79)
  (e:d.heap[w.heap.size+1]?=aO #[o5] 57) (l:d.heap[b]?=aO #[zi c,zi a] 77) (m:w.heap.size+2<=b) :
  LV bbv (fun d=>RD bbv (a1G 79 (pp w.heap.size)) d (fun g=>RD bbv (a1G 57 (pp (w.heap.size+1))) d
    (fun h=>Xt I w r (ah (ak #[g,h])) d) NX) NX) (Xt I w r)
   [{ target:=.fn (.func 90) #[pp w.heap.size,pp (w.heap.size+1)],args:=#[]++#[] }]
   (.panicking [{ v:=aj 73 (pp b),recovered:=false }]) d:=by
 subst f;refine aHa q4 e zo ?_;have n:=bg q4;have o:=bg e;have i:(bQ (bQ d w.heap.size (ae #[aq V] 79)) (w.heap.size+1) (ae #[aj 73 (pp b)] 57)).heap[w.heap.size]?=aO #[aq V] 79:=by
  exact yH
 have j:(bQ (bQ d w.heap.size (ae #[aq V] 79)) (w.heap.size+1) (ae #[aj 73 (pp b)] 57)).heap[w.heap.size+1]?=aO #[aj 73 (pp b)] 57:=by
  exact yH
 refine dj @i @j ?_;refine⟨yF,b,J,?_⟩;exact yH
structure IN(w:Z):Prop where
 Gt:Al w w.heap.size
 sig:M9 w
theorem IN.ext{w w':Z}(h:IN w)(a:Ext w w'):IN w':=
 ⟨(h.Gt.ext fun b o _=>a.ext b o).up a.size,h.sig.ext a⟩
def aHb{α:Type}{I:(Nat->Prop)->Z->Nat->α->List Bs->Prop}
  (hI:∀ (F F':Nat->Prop) (w w':Z) (b:Nat) (x:α) (vs:List Bs),(∀ b,F b->F' b)->(∀ b o,F b->w.heap[b]?=O o->w'.heap[b]?=O o)->I F w b x vs->I F' w' b x vs)
  {g:List P.Tok->cj α} (Q:zR bbv k'=A)
  (s:Bs) (w:Z) (R:s.length<=100000) (H:IN w)
  (S:let w0:=w;∀ {pb tb:Nat} {T:List P.Tok} {w:Z},P.lex s = .inr T->SP w pb tb T 0 [] 0->(mY w0 w0.heap.size->mY w tb)->w.heap.size=pb+1->Calls bbv k' #[pp pb] w (amh I pb w (g T))) :
  Calls bbv 58 #[aT s,.func (.func k') #[] #[]] w (Xt I w (tU g s)):=by
 refine aGY ?_;refine bH ?_;obtain⟨j,U⟩:=cg ((w.alloc (ae #[aq V] 79)).alloc (ae #[ai] 57));have sA:j.heap.size=w.heap.size+2:=yH;have W:Ext w j:=yF;have t:j.heap[w.heap.size]?=aO #[aq V] 79:=yH;have u:j.heap[w.heap.size+1]?=aO #[ai] 57:=yH;rw[size_alloc,<- U];refine(alz s j R (H.sig.ext W)).mono ?_;rintro e w1 ⟨d,f⟩;have s1:=d.size;by_cases l:2000<s.length
 .rw[zip l] at f;obtain⟨b,rfl,m,K⟩:=f;exact adh (by rw[tU,zip l]) yF (d.ext _ _ t) (d.ext _ _ u) m zo
 rw[bM l] at f;cases hx:P.lex s with
 | inl i=>
  rw[hx] at f;obtain⟨b,rfl,m,K⟩:=f;exact adh (by rw[tU,bM l,hx]) yF (d.ext _ _ t) (d.ext _ _ u) m zo
 | inr T=>
  rw[hx] at f;obtain⟨v,rfl,y⟩:=f;have L:=Tt hx;have X:0<T.length:=(Ts.of L zo).toTW.pos;obtain⟨tM,y⟩:=y;rcases y with⟨-,h0⟩| ⟨tb,cap,cur,rfl,GJ,Cu,E8,wT,ht5,KB⟩
  .omega
  refine bH ?_;have z:=bg Cu;obtain⟨n,B⟩:=cg (w1.alloc (ae #[cS tb T.length cap,bW,zi 0] 145));have C:Ext w1 n:=yF;have sP:n.heap.size=w1.heap.size+1:=yH;have bP:n.heap[w1.heap.size]?=aO #[cS tb T.length cap,bW,zi 0] 145:=yH;rw[<- B];have M:Ext w n:=yF;have qJ:SP n w1.heap.size tb T 0 [] 0:=SP.fresh L zo yH KB ((H.Gt.ext fun b o _=>M.ext b o).up zo) z E8 (by grind [maxLen]) bP;refine⟨Q,(S hx qJ (fun hC=>(hC.ext fun b o _=>M.ext b o).up zo) sP).mono ?_⟩;have tR:tU g s=g T:=by rw[tU,bM l,hx]
  rintro e w3 ⟨p,r⟩;have s3:=p.size;have N:Ext w1 w3:=⟨p.os.trans C.os,p.tape.trans C.tape,p.output.trans C.output,zo,fun b o hb _=>p.block b o yH (by
   have:=bg hb;rintro (h | ⟨h,_⟩)<;>omega)⟩
  have D:Ext w w3:=yF;have q4:=N.ext _ _ (d.ext _ _ t);have E:=N.ext _ _ (d.ext _ _ u);cases hr:g T with
  | err c a=>
   rw[hr] at r;obtain⟨b,rfl,m,K⟩:=r;exact adh (tR.trans hr) D q4 E m zo
  | ok x k vs=>
   rw[hr] at r;obtain⟨b,rfl,g1⟩:=r;have l4:=bg q4;have l5:=bg E;refine dj @q4 @E ?_;refine aG9 ?_;obtain⟨q,uD⟩:=cg (bQ (bQ w3 w.heap.size (ae #[pp b] 79)) (w.heap.size+1) (ae #[ai] 57));have k4:q.heap[w.heap.size]?=aO #[pp b] 79:=yH;have k5:q.heap[w.heap.size+1]?=aO #[ai] 57:=yH;have hz:∀ b o,b≠w.heap.size->b≠w.heap.size+1->w3.heap[b]?=O o->q.heap[b]?=O o:=yH;have Xs:Ext w q:=yF;have sz:q.heap.size=w3.heap.size:=yH;rw[<- uD];refine dj @k4 @k5 ?_;refine⟨Xs,?_⟩;exact yH
