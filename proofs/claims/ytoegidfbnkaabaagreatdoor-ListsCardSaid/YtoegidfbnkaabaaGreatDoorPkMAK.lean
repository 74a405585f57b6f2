/- A part of one proof (PureF, SX3, SX4, ShS2, SX5, PX1, PureTx, GBase2, SX6, PX2). -/
import Derived.Test.YtoegidfbnkaabaaGreatDoorPkMAJ
import Derived.Recover
import Derived.Tactics
import Derived.Tactics2
set_option linter.all false
set_option maxRecDepth 100000
set_option maxHeartbeats 8000000
open Option renaming some → O, none → V
open Go renaming Value → Y, World → Z
open Bool renaming true → G, false → ae
open Go.Obj renaming cells → ah
open Go.Ending renaming returned → ai
open Go.Value renaming nilIface → aj, iface → ak, tuple → aq, pointer → au
open Option.some renaming injEq → a3I, inj → a3R
open Go.Instr renaming loadAt → a32
open Go.World renaming ownsRow_nil → a4d, cell? → a4n
open Nat renaming lt_of_lt_of_le → a4i
open Go.Exit renaming thenS → a4t
open Go.Proofs.Tryz renaming prog → bdI
open Go.Proofs.Tryz
namespace Go.Proofs.YtoegidfbnkaabaaGreatDoor
open P
variable{B B' b base c cap d e f k k' m n o pb so tb told:Nat}{F:Nat->Prop}{R:Ending->Z->Prop}{T:List P.Tok}{W w w' w1 w2 w3:Z}{X:Y->Z->Prop}{av o4 o5 tv u v vv:Y}{cs iF:Array Y}{res:Z->Prop}{s:Bs}{vars:List Bs}{xs:List Y}
namespace P
def N1{T:List Tok}(h:(tk T k).kind≠0):k<T.length:=by
 grind [Nat.lt_or_ge,absurd,tk,List.getElem?_eq_none]
def yg{T:List Tok}{s:Bs}(h:ee T k s=G):k<T.length:=by
 refine N1 fun a=>?_;simp_all [ee]
def bind_some{α β:Type}{r:Option (cr α)}{g:α->Nat->List Bs->Option (cr β)}(h:∃ q,r=O q)(b:∀ a k v,r=O (.ok a k v)->∃ q,g a k v=O q):∃ q,cr.bind r g=O q:=by
 obtain⟨q,rfl⟩:=h;cases q with
 | err e a=>exact⟨_,J⟩
 | ok a k v=>exact b a k v J
def K4{α:Type}(T:List Tok)(s:Bs)(x:α)(k:Nat)(v:List Bs):∃ q,mW T s x k v=O q:=by
 unfold mW;split<;>exact⟨_,J⟩
def aHQ{T:List Tok}{v v':List Bs}{x:Ex}(h:oU T f k v d=O (.ok x k' v')):k<T.length:=by
 cases f with
 | zero=>simp_all [oU]
 | succ f=>
  refine N1 fun a=>?_;grind [ee,oU]
def QC{T:List Tok}:∀ {f l k:Nat} {v v':List Bs} {d k':Nat} {x:Ex},jf T f l k v d=O (.ok x k' v')->k<T.length
 | 0,_,_,_,_,_,_,_,h=>by simp_all [jf]
 | f+1,l,k,v,v',d,k',x,h=>by
  rw[jf] at h;split at h
  .exact aHQ h
  .obtain⟨a,c,v1,b,_⟩:=eo h;exact QC b
def aHR{T:List Tok}{l:Nat}{o:Bs}(h:P0 T l k=O o):k<T.length:=yg (List.find?_some h)
structure Tot(T:List Tok)(f:Nat):Prop where
 CF:∀ k v d,16*(T.length-k)+1<=f->∃ r,oU T f k v d=O r
 args:∀ k v d a acc,16*(T.length-k)+5<=f->∃ r,oV T f k v d a acc=O r
 list:∀ k v d,16*(T.length-k)+6<=f->∃ r,qD T f k v d=O r
 elems:∀ k v d acc,16*(T.length-k)+5<=f->∃ r,rj T f k v d acc=O r
 oper:∀ l k v d,l<=2->16*(T.length-k)+(4-l)<=f->∃ r,jf T f l k v d=O r
 more:∀ l y k v d,l<=1->16*(T.length-k)+1<=f->∃ r,pE T f l y k v d=O r
def tot(T:List Tok):∀ f,Tot T f
 | 0=>⟨fun _ _ _ h=>zo,fun _ _ _ _ _ h=>zo,fun _ _ _ h=>zo,fun _ _ _ _ h=>zo,fun _ _ _ _ _ h=>zo,fun _ _ _ _ _ _ h=>zo⟩
 | f+1=>by
  have ih:=tot T f;have b:=mono T f;refine⟨?_,?_,?_,?_,?_,?_⟩
  .intro k v d c;rw[oU];split
   .grind
   split
   .grind
   split
   .grind
   split
   .split
    .rename_i h;have:=yg h;exact bind_some (ih.args _ _ _ _ _ zo) fun _ _ _ _=>K4 _ _ _ _ _
    grind
   split
   .split<;>exact⟨_,J⟩
   split
   .rename_i h;have:=yg h;exact bind_some (ih.oper 0 _ _ _ zo zo) fun _ _ _ _=>K4 _ _ _ _ _
   split
   .rename_i h;have:=yg h;exact ih.list _ _ _ zo
   grind
  .intro k v d a acc c;rw[oV];refine bind_some (ih.oper 0 _ _ _ zo zo) fun x k' v' h=>?_;have g:=QC h;have e:=b.oper _ _ _ _ _ _ _ h;split
   .exact ih.args _ _ _ _ _ zo
   .split<;>exact⟨_,J⟩
  .intro k v d c;rw[qD];split
   .grind
   .refine bind_some (ih.elems _ _ _ _ zo) fun x k' v' h=>?_;have e:=b.elems _ _ _ _ _ _ _ h;split
    .rename_i j;have:=yg j;exact bind_some (ih.oper 0 _ _ _ zo zo) fun _ _ _ _=>K4 _ _ _ _ _
    simp_all [K4]
  .intro k v d acc c;rw[rj];refine bind_some (ih.oper 0 _ _ _ zo zo) fun x k' v' h=>?_;have g:=QC h;have e:=b.oper _ _ _ _ _ _ _ h;split
   .exact ih.elems _ _ _ _ zo
   grind
  .intro l k v d i c;rw[jf];split
   .exact ih.CF _ _ _ zo
   .refine bind_some (ih.oper _ _ _ _ zo zo) fun x k' v' h=>?_;have g:=QC h;have e:=b.oper _ _ _ _ _ _ _ h;exact ih.more _ _ _ _ _ zo zo
  .intro l y k v d i c;rw[pE];split
   .grind
   .rename_i o m;have n:=aHR m;refine bind_some (ih.oper _ _ _ _ zo zo) fun x k' v' h=>?_;have e:=b.oper _ _ _ _ _ _ _ h;exact ih.more _ _ _ _ _ i zo
def aHT{T:List Tok}{v v':List Bs}{x:Bd}(h:nU T f k v d=O (.ok x k' v')):k<T.length:=by
 cases f with
 | zero=>simp_all [nU]
 | succ f=>
  rw[nU] at h;split at h
  .grind
  split at h
  .rename_i b;exact yg b
  split at h
  .rename_i b;exact yg b
  split at h
  .rename_i b;exact yg b
  .obtain⟨a,e,v1,c,_⟩:=eo h;exact QC c
structure aHU(T:List Tok)(f:Nat):Prop where
 lit:∀ k v d,16*(T.length-k)+5<=f->∃ r,nU T f k v d=O r
 lits:∀ k v d acc,16*(T.length-k)+6<=f->∃ r,qE T f k v d acc=O r
 row:∀ k v d,16*(T.length-k)+7<=f->∃ r,ow T f k v d=O r
 rest:∀ k v d,16*(T.length-k)+9<=f->∃ r,qF T f k v d=O r
 body:∀ k v d,16*(T.length-k)+8<=f->∃ r,mX T f k v d=O r
def totB(T:List Tok):∀ f,aHU T f
 | 0=>⟨fun _ _ _ h=>zo,fun _ _ _ _ h=>zo,fun _ _ _ h=>zo,fun _ _ _ h=>zo,fun _ _ _ h=>zo⟩
 | f+1=>by
  have ih:=totB T f;have it:=tot T f;have g:=mono T f;have mb:=T3 T f;refine⟨?_,?_,?_,?_,?_⟩
  .intro k v d a;rw[nU];split
   .grind
   split
   .grind
   split
   .rename_i h;have:=yg h;exact bind_some (ih.lit _ _ _ zo) fun _ _ _ _=>⟨_,J⟩
   split
   .rename_i h;have:=yg h;exact bind_some (ih.body _ _ _ zo) fun _ _ _ _=>K4 _ _ _ _ _
   .refine bind_some (it.oper 0 _ _ _ zo zo) fun x k' v' h=>?_;have c:=g.oper _ _ _ _ _ _ _ h;have e:=QC h;split
    .exact bind_some (it.oper 0 _ _ _ zo zo) fun _ _ _ _=>⟨_,J⟩
    .repeat' split<;>simp_all
  .intro k v d acc a;rw[qE];refine bind_some (ih.lit _ _ _ zo) fun x k' v' h=>?_;have e:=aHT h;have c:=mb.lit _ _ _ _ _ _ h;split
   .exact ih.lits _ _ _ _ zo
   grind
  .intro k v d a;rw[ow];exact bind_some (ih.lits _ _ _ _ zo) fun _ _ _ _=>⟨_,J⟩
  .intro k v d a;rw[qF];split
   .grind
   .exact ih.body _ _ _ zo
  .intro k v d a;rw[mX];refine bind_some (ih.row _ _ _ zo) fun x k' v' h=>?_;have c:=mb.row _ _ _ _ _ _ h;split
   .rename_i i;have e:=yg i;refine bind_some (ih.row _ _ _ zo) fun x m v2 j=>?_;have n:=mb.row _ _ _ _ _ _ j;split
    .rename_i b;have l:=yg b;exact bind_some (ih.rest _ _ _ zo) fun _ _ _ _=>⟨_,J⟩
    grind
   .split
    .rename_i b;have l:=yg b;exact bind_some (ih.rest _ _ _ zo) fun _ _ _ _=>⟨_,J⟩
    grind
def yh(T:List Tok):Nat:=16*T.length+20
def anj(T:List Tok)(name:Bs)(args:List Ex)(a k:Nat)(v:List Bs):∃ r,Kn T (yh T) name args a k v=O r:=by
 unfold Kn yh;split
 .grind
 split
 .exact bind_some ((totB T _).body _ _ _ zo) fun _ _ _ _=>K4 _ _ _ _ _
 simp_all [K4]
def aHV(T:List Tok)(k:Nat):∃ r,Fk T (yh T) k=O r:=by
 unfold Fk;split
 .split
  .refine bind_some ((tot T _).args _ _ _ _ _ (by grind [yh])) fun l k' v' h=>?_;simp_all [bind_some,K4,anj]
  simp_all [anj]
 grind
def ank{T:List Tok}{name:Bs}{args:List Ex}{a:Nat}{v:List Bs}{c:Cl}{v':List Bs}(h:Kn T f name args a k v=O (.ok c k' v')):k<k'/\c.vars=v':=by
 unfold Kn at h;split at h
 .grind
 split at h
 .obtain⟨b,g,v1,d,e⟩:=eo h;obtain⟨i,j,l⟩:=oC e;have:=(T3 T f).body _ _ _ _ _ _ d;grind
 grind [oC]
def aHW{T:List Tok}{c:Cl}{v':List Bs}(h:Fk T f k=O (.ok c k' v')):k<k'/\k<T.length:=by
 unfold Fk at h;split at h
 .rename_i hk;have g:k<T.length:=N1 zo;split at h
  .obtain⟨l,i,v1,a,b⟩:=eo h;obtain⟨j,m,v2,d,e⟩:=eo b;have n:=(mono T f).args _ _ _ _ _ _ _ _ a;obtain⟨o,_,_⟩:=oC d;have:=(ank e).1;omega
  .have:=(ank h).1;omega
 grind
def FH(T:List Tok):Nat->Nat->List Cl->Option (cr (List Cl))
 | 0,_,_=>V
 | f+1,k,acc=>
  if (tk T k).kind=0 then O (.ok acc k [])
  else if acc.length=40 then O (.err 4 (tk T k).pos)
  else cr.bind (Fk T (yh T) k) fun c k' _=>FH T f k' (acc++[c])
def anl{T:List Tok}:∀ (f k:Nat) (acc:List Cl),T.length-k<f->∃ r,FH T f k acc=O r
 | 0,_,_,h=>zo
 | f+1,k,acc,h=>by
  rw[FH];split
  .grind
  split
  .grind
  .refine bind_some (aHV _ _) fun c k' v' a=>?_;have b:=aHW a;exact anl f k' _ zo
def Jf(T:List Tok):cr (List Cl):=(FH T (T.length+1) 0 []).getD (.err 0 0)
def anm(T:List Tok):FH T (T.length+1) 0 []=O (Jf T):=by
 obtain⟨r,hr⟩:=anl (T:=T) (T.length+1) 0 [] zo;simp_all [Jf]
end P
open Go.RowKit Sx
def FI(F:Nat->Prop)(w:Z)(v:Y)(c:Cl):Prop:=∃ b av bv a d,v=pp b/\F b /\
 w.heap[b]?=aO #[aW c.name,av,bv,.slice a c.vars.length d] 86/\lV F w av c.args/\dL F w bv c.body
def ky(F:Nat->Prop)(w:Z)(vs:List Y):List Cl->Prop
 | []=>vs=[]
 | x::xs=>∃ v r,vs=v::r/\FI F w v x/\ky F w r xs
def CY(F:Nat->Prop)(w w':Z):Prop:=∀ b cs t,F b->t≠9->w.heap[b]?=aO cs t->w'.heap[b]?=aO cs t
theorem CY.lL(h:CY F w w'):∀ b o,F b->D0 o->w.heap[b]?=O o->w'.heap[b]?=O o:=by
 intro b o c a d;cases o with
 | cells cs t z=>
  obtain⟨e,rfl⟩:=a;refine h b cs t c ?_ d;grind
 | _=>exact a.elim
theorem FI.mono{F F':Nat->Prop}{w w':Z}{v:Y}{c:Cl}(a:∀ b,F b->F' b)(hw:CY F w w')(h:FI F w v c):FI F' w' v c:=by
 obtain⟨b,av,bv,e,f,g,d,i,j,k⟩:=h;exact⟨b,av,bv,e,f,g,a b d,hw b _ _ d zg i,j.mono a hw.lL,dL.mono a hw.lL _ _ k⟩
theorem ky.mono{F F':Nat->Prop}{w w':Z}(a:∀ b,F b->F' b)(hw:CY F w w'):∀ (xs:List Cl) (vs:List Y),ky F w vs xs->ky F' w' vs xs
 | [],vs,h=>h
 | x::xs,vs,h=>by
  obtain⟨v,r,c,d,e⟩:=h;exact⟨v,r,c,d.mono a hw,ky.mono a hw xs r e⟩
def ky.snoc{F:Nat->Prop}{w:Z}{v:Y}{x:Cl}(hx:FI F w v x):∀ {xs:List Cl} {vs:List Y},ky F w vs xs->ky F w (vs++[v]) (xs++[x])
 | [],vs,h=>by
  have h:vs=[]:=h;subst h;exact⟨v,[],J,hx,J⟩
 | y::c,vs,h=>by
  obtain⟨u,r,rfl,a,b⟩:=h;exact⟨u,r++[v],J,a,ky.snoc hx b⟩
theorem db.ann(h:db pb w w')(a:∀ b,F b->b≠pb):CY F w w':=fun b _ _ c ht d=>(by grind [bL])
def SP.x(h:SP w pb tb T k vars d):∃ cap e f cs,
  w.heap[pb]?=aO #[.slice (O ⟨tb,k*3,V⟩) (T.length-k) (cap-k),.slice e vars.length f,zi d] 145/\T.length<=cap/\cap<=9223372036854775807/\T.length<=2001/\k<T.length /\
  w.heap[tb]?=aO cs 142/\k*3+3<=cs.size/\(cs.toList.drop (k*3)).take 3=[zi (tk T k).kind,aW ((tk T k).text),zi (tk T k).pos] /\
  cs[k*3]?=O (zi (tk T k).kind)/\cs[k*3+1]?=O (aW ((tk T k).text))/\cs[k*3+2]?=O (zi (tk T k).pos):=by
 obtain⟨tw,lt,kt,nv,⟨-,cs,t1,t2⟩,cap,vv,g,i,j,l⟩:=h;obtain⟨a,b,c⟩:=t2 k kt;obtain⟨e,f,rfl⟩:=gZ l;have m:=(Array.getElem?_eq_some_iff.1 c).1;refine⟨cap,e,f,cs,j,g,i,tw.len,kt,t1,zo,?_,a,b,c⟩;apply List.ext_getElem?;grind
def SP.adU{x:Nat}{t:TypeId}{z:Nat×Nat}{o:Obj}(h:SP w pb tb T k vars d)
  (hx:w.heap[x]?=O (ah cs t z)) (ht:t≠9) (a:x≠pb) (b:tb<x):SP (bR w x o) pb tb T k vars d:=
 (by grind [jg,other])
def SP.adV(h:SP w pb tb T k vars d)(a:Ext w w'):SP w' pb tb T k vars d:=h.ext a.ext
def SP.aHX(h:SP w pb tb T k vars d)
  (c:w.heap[pb]?=aO #[.slice (O ⟨tb,k*3,V⟩) (T.length-k) (cap-k),vv,zi d] 145) (a:T.length<=cap) (b:cap<=9223372036854775807) :
  SP (bR w pb (ah #[.slice (O ⟨tb,k*3,V⟩) (T.length-k) (cap-k),bW,zi d] 145)) pb tb T k [] d:=by
 obtain⟨tw,lt,kt,nv,⟨e,cs,t1,t2⟩,_⟩:=h;refine⟨tw,lt,kt,zs,⟨(by grind [jg,AB.ext]),cs,yH,t2⟩,cap,bW,a,b,yH,a4d _ _ _ _⟩
theorem SP.onU(h:SP w pb tb T k vars d)
  (f:w.heap[pb]?=aO #[.slice (O ⟨tb,k*3,V⟩) (T.length-k) (cap-k),vv,zi d] 145) (hk:k+1<T.length) (a:k'=T.length-(k+1)) (b:so=cap-(k+1)) (c:told=(k+1)*3) :
  SP (bR w pb (ah #[.slice (O ⟨tb,told,V⟩) k' so,vv,zi d] 145)) pb tb T (k+1) vars d:=by
 subst a b c;refine h.set hk ((bD.refl _ _).bR (.inl fun _=>.inl J)) (fun g e i=>?_) yH;exact yH
def ano(pb:Nat)(w:Z)(r:cr (List Cl))(e:Ending)(w':Z):Prop:=
 db pb w w'/\match r with
 | .err c a=>nD c a w w' e
 | .ok cs _ _=>∃ v vs,e = ai v/\fO (Nu w w') w' 79 v vs/\ky (Nu w w') w' vs cs
def X9(B:Nat)(w1:Z)(v:Y)(acc:List Cl):Prop:=
 ∃ xs,w1.ownsRow B 79 1 v acc.length xs/\ky (fun b=>B<=b/\b<w1.heap.size/\O b≠v.ownBlock) w1 xs acc
def aH0:(Tryz.prog.info? 79).map (fun i=>(i.zero,i.size,i.bytes))=O (O (au V),1,8):=zk
def adW(d:w.ownsRow base 79 1 v n xs){a:Y}
  (f:w.heap[b]?=aO #[a] 79) (p:a.oneCell'=G)
  (q:n<=100000) (g:base<=w.heap.size) {K:Y->Z->Prop}
  (h:∀ v' w',w'.ownsRow base 79 1 v' (n+1) (xs++[a])->w.grownBy w' v.ownBlock->(v'.ownBlock=v.ownBlock\/∀ k,v'.ownBlock=O k->w.heap.size<=k)->K v' w') :
  WR bdI (Builtin.append_ #[68,68] 68 #[v,cS b 1 m]) w K X:=by
 obtain⟨i,hi,c⟩:=Option.map_eq_some_iff.1 aH0;simp only[Prod.mk.injEq] at c;obtain⟨j,l,o⟩:=c;refine aly (m:=1) (t:=68) (e:=79) zk hi j l o J zo d f J (fun u hu=>?_) zo zo g h;grind
theorem adX{l len:Nat}(h:¬ cap=l):sliced (O ⟨b,o,V⟩) l len cap n = .slice (O ⟨b,o+l*n,V⟩) (len-l) (cap-l):=by
 unfold sliced;rw[bU h];simp [addr_add]
theorem anp(h:db pb w w'){size:Nat}(hu:w.ownsRow base e size v n xs)(d:pb<base)(he:e≠9):w'.ownsRow base e size v n xs:=by
 obtain⟨a,hu⟩:=hu;refine⟨a,?_⟩;rcases hu with hu | ⟨g,cap,cur,rfl,b,f,c⟩
 .exact yH
 .exact .inr ⟨g,cap,cur,J,b,(by grind [db.bL]),c⟩
def aH1{size:Nat}{a:List Y}(h:w.ownsRow base e size v n xs)(b:w.ownsRow base e size v n a):xs=a:=by
 rcases h.2 with⟨c,d⟩| ⟨g1,o,f,c,_,g2,_,_,_,g3⟩
 .have g:=h.1;have i:=b.1;rw[d] at g i;grind
 .rcases b.2 with⟨j,_⟩| ⟨p,k,l,j,_,q,_,_,_,m⟩<;>grind
def X9.more{acc:List Cl}{x:Cl}(h:X9 B w1 v acc)(j:db pb w1 w2)(y:pb<B)(hx:FI (Nu w1 w2) w2 u x)(l:B<=w1.heap.size)
  (f:Ext w2 w3) (m:w3.ownsRow B 79 1 v acc.length xs) (n:W.ownsRow B 79 1 tv (acc.length+1) (xs++[u]))
  (o:w3.grownBy W v.ownBlock) (hv:tv.ownBlock=v.ownBlock\/∀ k,tv.ownBlock=O k->w3.heap.size<=k):X9 B W tv (acc++[x]):=by
 obtain⟨a,o1,o2⟩:=h;have p:=j.size;have q:=f.size;have r:=o.size;have s:w3.ownsRow B 79 1 v acc.length a:=jK f.ext (by grind [anp]);have e:a=xs:=aH1 s m;subst e;have lt:∀ k,v.ownBlock=O k->k<w1.heap.size:=fun k hk=>(o1.lt k hk).2;have c:∀ b t cs,O b≠v.ownBlock->b<w3.heap.size->w3.heap[b]?=aO cs t->W.heap[b]?=aO cs t:=
  (by grind [World.grownBy.block])
 have nv:∀ b,b<w3.heap.size->O b≠v.ownBlock->O b≠tv.ownBlock:=yH;refine⟨_,by rw[List.length_append];exact n,ky.snoc ?_ ?_⟩
 .refine hx.mono yH (fun b cs t g ht i=>?_);have d:=f.ext _ _ i;exact c b _ cs (fun e=>by have:=lt b e.symm;have:=g.1;omega) (bn d) d
 .refine ky.mono (F:=fun b=>B<=b/\b<w1.heap.size/\O b≠v.ownBlock) yH (fun b cs t g ht i=>?_) _ _ o2;have w:=j.bL i (by have:=g.1;omega) ht;have d:=f.ext _ _ w;exact c b _ cs g.2.2 (bn d) d
structure Hl(pb tb:Nat)(T:List P.Tok)(B:Nat)(w:Z)(q3 q:Nat)(nm:Bs)(r:cr Cl)(cont:List Ex->Bd->Nat->List Bs->Option (cr Cl))(w':Z):Prop where
 fr:db pb w w'
 t3:∃ kd ps,w'.heap[q3]?=aO #[zi kd,aW nm,zi ps] 142
 st:∃ av bv l bd k vs,w'.heap[q]?=aO #[aW nm,av,bv,bW] 86 /\
  lV (fun b=>B<=b/\b<w'.heap.size/\b≠q) w' av l/\dL (fun b=>B<=b/\b<w'.heap.size/\b≠q) w' bv bd/\SP w' pb tb T k vs 0/\cont l bd k vs=O r
def ant(h:SP w pb tb T k vars d)(s:Bs)(b:s.all P.digit=ae) :
  Calls bdI 49 #[pp pb,aW s] w fun e w'=>e = ai (.bool (ee T k s))/\SP w' pb tb T (if ee T k s=G then k+1 else k) vars d/\db pb w w':=by
 by_cases hx:ee T k s=G
 .refine Calls.mono (vA h s hx) ?_;grind
 .have a:ee T k s=false:=zg;refine Calls.mono (qK h s a b) ?_;rintro e w' ⟨rfl,rfl⟩;rw[bU hx,a];exact⟨J,h,bD.refl _ _⟩
def adZ(h:SP w pb tb T k vars d)(s:Bs)(b:s.all P.digit=ae){α:Type}(x:α){r:cr α}(hr:mW T s x k vars=O r) :
  Calls bdI 51 #[pp pb,aW s] w fun e w'=>db pb w w' /\
   ((e = ai (aq #[])/\r = .ok x (k+1) vars/\SP w' pb tb T (k+1) vars d)\/(∃ c a,r = .err c a/\nD c a w w' e)):=by
 unfold mW at hr;split at hr
 .rename_i hx;refine(Tw h s hx).mono ?_;grind
 .rename_i hx;refine(Tx h s zg b).mono ?_;grind
theorem Hl.step{q:Nat}{nm:Bs}{r:cr Cl}{a:List Ex->Bd->Nat->List Bs->Option (cr Cl)}(d:db pb w w1)(c:db pb w1 w2)
  (e:pb<k'/\k'<B/\B<=q) (t3:∃ kd ps,w1.heap[k']?=aO #[zi kd,aW nm,zi ps] 142) {l:List Ex} {bd:Bd} {vs:List Bs}
  (g1:w1.heap[q]?=aO #[aW nm,av,tv,bW] 86)
  (g2:lV (fun b=>B<=b/\b<w1.heap.size/\b≠q) w1 av l) (g3:dL (fun b=>B<=b/\b<w1.heap.size/\b≠q) w1 tv bd) (g4:SP w2 pb tb T k vs 0) (g5:a l bd k vs=O r):Hl pb tb T B w k' q nm r a w2:=by
 have:=c.size;obtain⟨kd,ps,t3⟩:=t3;have hm:∀ b,(fun b=>B<=b/\b<w1.heap.size/\b≠q) b->(fun b=>B<=b/\b<w2.heap.size/\b≠q) b:=yH;have hk:CY (fun b=>B<=b/\b<w1.heap.size/\b≠q) w1 w2:=(by grind [db.ann]);exact⟨d.trans c,(by grind [t3,db.bL]),av,tv,l,bd,k,vs,(by grind [db.bL]),g2.mono hm hk.lL,dL.mono hm hk.lL _ _ g3,g4,g5⟩
def aH2(h:SP w pb tb T 0 [] 0)(z:nk w tb) :
  Calls bdI 46 #[pp pb] w (ano pb w (Jf T)):=by
 have hlt:=h.lt;have gj:=h.d2.2.2;refine ayq ?_;refine⟨fun n t w2=>db pb w w2/\∃ f k vs acc,n=f+1/\acc.length<=40/\FH T f k acc=O (Jf T)/\SP w2 pb tb T k vs 0/\X9 w.heap.size w2 (t 2) acc,
  ⟨_,bD.refl _ _,_,0,[],[],J,zs,anm T,h,[],a4d _ _ _ _,J⟩,?_⟩
 intro n t dd w2 hI;refine toPr ?_;obtain⟨hF,f,k,vs,acc,rfl,aXz,j,hP,eT⟩:=hI;have s12:=hF.size;cases f with
 | zero=>rw[FH] at j;cases j
 | succ f=>
 rw[FH] at j;obtain⟨cap,va,vc,cs,h3,jz,sX,hlT,IY,g0,g1,g2,g3,g4,g5⟩:=hP.x;have l3:=bn h3;have e0:((0:Nat):Int)=0:=rfl;rw[e0] at h3;obtain⟨xs,o1,o2⟩:=id eT;obtain⟨ra,rc,hv⟩:=gZ o1;have hcw:nk w2 tb:=z.fr hF hlt;by_cases BJ:(tk T k).kind=0
 .rw[zip BJ] at j;refine jh h3 @g0 @g3 ?_;rw[<- a3R j];refine⟨hF,t 2,xs,J,Fy o1 (fun b p=>⟨(o1.lt b p).1,(o1.lt b p).2⟩),ky.mono yH (fun b cs t _ _ z=>z) _ _ o2⟩
 .rw[bU BJ] at j;have anv:¬ (((tk T k).kind:Nat):Int)=0:=zo;have hnx:=hP.tw.next IY BJ
  refine dG h3 @g0 @g3 @g5 ?_;refine⟨fun _ w3=>w3=w2/\¬ acc.length=40,?_,?_⟩
  .by_cases F:acc.length=40
   .rw[zip F] at j;have aH4:(acc.length:Int)=40:=zo;refine cJ hv ?_;refine(Cr _ _ _ pb hP.sb).mono ?_;rintro e w3 ⟨i,yi,-⟩;have Qu:=NW i s12;obtain⟨b,rfl,-,-⟩:=i;refine bG ?_;rw[<- a3R j];exact⟨hF.trans yi,Qu⟩
   .have aH4:¬ (acc.length:Int)=40:=zo;refine cJ hv ?_;omega
  .rintro _ w3 ⟨rfl,F⟩ _;rw[bU F] at j;cases g:Fk T (yh T) k with
   | none=>rw[g] at j;cases j
   | some qc=>
   rw[g] at j;have hq5:=hP.aHX h3 jz sX;have Ug:db pb w3 (bR w3 pb (ah #[.slice (O ⟨tb,k*3,V⟩) (T.length-k) (cap-k),bW,zi 0] 145)):=(bD.refl _ _).bR (.inl fun _=>.inl J);have g05:(bR w3 pb (ah #[.slice (O ⟨tb,k*3,V⟩) (T.length-k) (cap-k),bW,zi 0] 145)).heap[tb]?=aO cs 142:=yH;refine jh h3 @g0 @g2 ?_;refine⟨fun _ d=>(tk T k).kind=1/\db pb w3 d/\SP d pb tb T k [] 0/\d.heap[w3.heap.size]?=aO #[zi (tk T k).kind,aW ((tk T k).text),zi (tk T k).pos] 142/\d.heap.size=w3.heap.size+1 /\
    (∀ b cs t,b<w3.heap.size->b≠pb->w3.heap[b]?=aO cs t->d.heap[b]?=aO cs t),?_,?_⟩
   .have A:Ext (bR w3 pb (ah #[.slice (O ⟨tb,k*3,V⟩) (T.length-k) (cap-k),bW,zi 0] 145)) (bR ((bR w3 pb (ah #[.slice (O ⟨tb,k*3,V⟩) (T.length-k) (cap-k),bW,zi 0] 145)).alloc (ah #[zi 0,aW [],zi 0] 142)) w3.heap.size (ah #[zi (tk T k).kind,aW ((tk T k).text),zi (tk T k).pos] 142)):=yF;have vI:=hq5.adV A;by_cases jY:(tk T k).kind=1
    .have aH6:(((tk T k).kind:Nat):Int)=1:=zo;refine cJ @g2 ?_;refine⟨jY,Ug.trans A.toM,vI,fun b cs t p CZ z=>A.ext _ _ ?_⟩;rw[jg CZ];exact z
    .have aH6:¬ (((tk T k).kind:Nat):Int)=1:=zo;rw[Fk,bU jY] at g;refine cJ @g2 ?_;refine(Tv vI).mono ?_;rintro e w7 ⟨i,y,-⟩;have Qu:=NW (w:=w) i (by rw[vy,size_alloc,vy];omega);obtain⟨b,rfl,-,-⟩:=i;refine bG ?_;rw[<- a3R g] at j;simp only[cr.bind,a3I] at j;rw[<- j];exact⟨hF.trans ((Ug.trans A.toM).trans y),Qu⟩
   .rintro _ d ⟨jY,rU,vI,t6,s6,k6⟩ _;obtain⟨Ya,H,I,cs6,K,aXC,aXD,-,-,g06,-⟩:=vI.x;rw[e0] at K;have l6:=bn K;have lt6:=bn t6;have ye:¬ Ya-k=1:=zo;have lp6:pb<d.heap.size:=l6;have hB6:w.heap.size<=w3.heap.size:=s12;simp (disch:=first|assumption|omega|simp only[zS]<;>omega|decide) only[Pr,PX,PC,NX,ends,Ft,pF,jo,Nat.reduceAdd,Nat.reduceMul,Nat.reduceLeDiff,Nat.reduceEqDiff,Int.reduceToNat,Int.reduceAdd,Int.reduceLT,Int.reduceLE,↓reduceIte,forall_const,eq_self,ab8,jI,abG,abH,P8,P9,GS,GU,abJ,abK,abL,abM,abN,abO,abP,abQ,abR,abU,abV,abS,abT,ab0,ab1,ab2,ab5,Xu,abY,ab9,aca,acL,acb,acd,ace,acf,Nn,tW,qI,jg,Te,Cq,vy,size_alloc,Tj,acm,acg,ach,aci,acj,ack,acn,aco,acp,acq,acr,acu,acv,acw,acx,acy,acz,acA,acB,acC,acD,acE,acF,acG,Qc,u8w,Xo,abD,abE,Int.toNat_natCast,Option.isNone_none,Option.isNone_some,List.getElem?_toArray,List.getElem?_cons_zero,List.getElem?_cons_succ,List.setIfInBounds_toArray,List.set_cons_zero,List.set_cons_succ,List.size_toArray,List.length_cons,List.length_nil,List.drop_zero,List.drop_succ_cons,List.take_succ_cons,List.take_zero,List.take_nil,List.drop_nil,List.all_cons,List.all_nil,Bool.and_true,Bool.true_and,Nat.zero_add,Nat.add_zero,Nat.mul_one,and_self,and_true,true_and,decide_true,decide_false,Bool.not_true,Bool.not_false,not_true_eq_false,not_false_eq_true,akY,ak0,ak1,ak3,ak5,ak6,ak7,ak8,ak9,ala,alb,alc,ald,ale,alf,alg,ali,alj,alk,alm,alo,alr,als,alu,alv,alw,K,t6,adX];have eq3:(bR w3 pb (ah #[.slice (O ⟨tb,k*3,V⟩) (T.length-k) (cap-k),bW,zi 0] 145)).heap.size=w3.heap.size:=yH;have eq:((bR d pb (ah #[.slice (O ⟨tb,k*3+3,V⟩) (T.length-k-1) (Ya-k-1),.slice H 0 I,zi 0] 145)).alloc (ah #[.int .u8 103,aW [116,114,117,101],bW,bW] 149)).heap.size=d.heap.size+1:=yH;have hlq:pb<w3.heap.size/\w3.heap.size<d.heap.size/\d.heap.size<=d.heap.size+1:=yH;have aXI:Fk T (yh T) k=O qc:=g;have aXJ:∀ {L:Z},db pb w3 L->nk L tb:=(by grind [nk.fr,bD.trans]);have Uh:∀ {L w':Z} {e:Ending} {c a:Nat},db pb w3 L->db pb L w'->nD c a L w' e->qc = .err c a->ano pb w (Jf T) e w':=by
     intro L w' e c a FK BN i hqc;rw[hqc] at j;simp only[cr.bind,a3I] at j;rw[<- j];exact⟨(by grind [bD.trans]),NW i (by have:=FK.size;omega)⟩
    try rw[eq3]
    try rw[eq]
    refine⟨fun _ w'=>Hl pb tb T d.heap.size w3 w3.heap.size (d.heap.size+1) (tk T k).text qc (adE T (yh T) (tk T k).text (tk T k).pos) w',?_,?_⟩
    .have aXK:SP d pb tb T k [] 0:=vI;obtain⟨q,rv⟩:∃ q,q=((bR d pb (ah #[.slice (O ⟨tb,k*3+3,V⟩) (T.length-k-1) (Ya-k-1),.slice H 0 I,zi 0] 145)).alloc (ah #[.int .u8 103,aW [116,114,117,101],bW,bW] 149)).alloc
       (ah #[aW ((tk T k).text),bW,pp d.heap.size,bW] 86):=yH
     have M:SP q pb tb T (k+1) [] 0:=by
      have B:SP (bR d pb (ah #[.slice (O ⟨tb,k*3+3,V⟩) (T.length-k-1) (Ya-k-1),.slice H 0 I,zi 0] 145)) pb tb T (k+1) [] 0:=
       (by grind [SP.onU])
      rw[rv];exact B.adV (((bD.refl _ _).alloc _).alloc _)
     have C:db pb w3 q:=by
      rw[rv];exact((rU.bR (.inl fun _=>.inl J)).alloc _).alloc _
     have tA:q.heap[w3.heap.size]?=aO #[zi (tk T k).kind,aW ((tk T k).text),zi (tk T k).pos] 142:=by
      exact yH
     have bA:q.heap[d.heap.size]?=aO #[.int .u8 103,aW [116,114,117,101],bW,bW] 149:=by
      exact yH
     have cA:q.heap[d.heap.size+1]?=aO #[aW ((tk T k).text),bW,pp d.heap.size,bW] 86:=by
      exact yH
     have sA:q.heap.size=d.heap.size+2:=yH;have nZ:dL (fun b=>d.heap.size<=b/\b<q.heap.size/\b≠d.heap.size+1) q (pp d.heap.size) P1:=Eh yH bA Jb KX;show CA _ _ _ _ _ _;rw[<- rv];refine(ant M [40] zd).mono ?_;rintro e wB ⟨rfl,Yb,QD⟩;rw[Fk,zip jY] at g;have sB:=QD.size;refine bG ?_;by_cases D:ee T (k+1) [40]=G
     .rw[zip D] at g Yb;rw[D,P8];have tB:=QD.bL tA zo zd;have cB:=QD.bL cA zo zd;cases N:oV T (yh T) (k+1+1) [] 0 (tk T k).pos [] with
      | none=>rw[N] at g;simp [cr.bind] at g
      | some qa=>
      rw[N] at g;refine((aEI _).go _ Yb zo N).mono ?_;intro e wC Ui;cases qa with
      | err c a=>
       obtain⟨i,QE,-⟩:=Ui;simp only[cr.bind,a3I] at g;have lp:=Uh (C.trans QD) QE i g.symm;obtain⟨b,rfl,-,-⟩:=i;refine bG ?_;omega
      | ok l k2 Uj=>
       obtain⟨v,rfl,j9,hPC,QE⟩:=Ui;simp only[cr.bind] at g;have sC:=QE.size;have tC:=QE.bL tB zo zd;have cC:=QE.bL cB zo zd;have lcC:=bn cC;obtain⟨P,Q,ac,rfl⟩:∃ a n c,v = .slice a n c:=by
        obtain⟨xg,h1,-⟩:=j9;obtain⟨a,n,c,h,-⟩:=h1.shape;exact⟨a,n,c,h⟩
       refine cJ @cC ?_;obtain⟨m,R⟩:=cj (bR wC (d.heap.size+1) (ah #[aW ((tk T k).text),.slice P Q ac,pp d.heap.size,bW] 86));rw[<- R];have hPD:SP m pb tb T k2 Uj 0:=by rw[R];exact hPC.adU cC zd zo zo
       have S:db pb w3 m:=by rw[R];exact((C.trans QD).trans QE).bR (.inr zo)
       have tD:m.heap[w3.heap.size]?=aO #[zi (tk T k).kind,aW ((tk T k).text),zi (tk T k).pos] 142:=yH;have cD:m.heap[d.heap.size+1]?=aO #[aW ((tk T k).text),.slice P Q ac,pp d.heap.size,bW] 86:=yH;have sD:m.heap.size=wC.heap.size:=yH;have kD:CY (fun b=>d.heap.size<=b/\b≠d.heap.size+1) wC m:=fun b cs t p _ z=>yH;have anC:dL (fun b=>d.heap.size<=b/\b<m.heap.size/\b≠d.heap.size+1) m (pp d.heap.size) P1:=
        Eh yH (by grind [jg,db.bL]) Jb KX
       have anD:lV (fun b=>d.heap.size<=b/\b<m.heap.size/\b≠d.heap.size+1) m (.slice P Q ac) l:=
        j9.mono yH yH
       cases Hm:mW T [41] l k2 Uj with
       | none=>rw[Hm] at g;cases g
       | some qm=>
       rw[Hm] at g;refine(adZ hPD [41] zd l Hm).mono ?_;rintro e wE ⟨U,(⟨rfl,W,Yc⟩| ⟨c,a,W,i⟩)⟩
       .rw[W] at g;refine bG ?_;exact Hl.step S U hlq yH cD anD anC Yc g
       .rw[W] at g;simp only[a3I] at g;have lp:=Uh S U i g.symm;obtain⟨b,rfl,-,-⟩:=i;refine bG ?_;omega
     .rw[bU D] at g Yb;have uh:ee T (k+1) [40]=false:=zg;rw[uh,P9];exact Hl.step C QD hlq yH cA Jb nZ Yb g
    .rintro _ w7 r _;obtain⟨X,ps7,t7⟩:=r.t3;have y:=r.fr;obtain⟨av,bv,l,bd,k7,E,g7,ga,gb,B,o⟩:=r.st;generalize (tk T k).text=nm at *;generalize (tk T k).pos=pos at *;refine⟨fun _ w'=>Hl pb tb T d.heap.size w3 w3.heap.size (d.heap.size+1) nm qc (XT T (yh T) nm) w',?_,?_⟩
     .refine⟨fun s w'=>w'=w7/\s 72 = .bool (decide (0<=jx nm\/nm=[109,111,100])),?_,?_⟩
      .refine cJ @t7 ?_;refine(NR _).mono ?_;rintro e w8 ⟨rfl,rfl⟩;refine dA @abI @t7 ?_;grind
      .rintro s8 w8 ⟨rfl,hs8⟩ _;rw[hs8];by_cases p:0<=jx nm\/nm=[109,111,100]
       .rw[GS _ _ p];rw[adE,zip p] at o;refine(Cr _ _ _ pb B.sb).mono ?_;rintro e w9 ⟨i,kz,-⟩;have lp:=Uh y kz i (a3R o).symm;obtain⟨b,rfl,-,-⟩:=i;refine bG ?_;omega
       .rw[GU _ _ p];rw[adE,bU p] at o;grind [Hl.step,bD.refl]
     .clear o B gb ga g7 y t7 r;rintro _ w8 r _;obtain⟨X,ps7,t7⟩:=r.t3;have y:=r.fr;obtain⟨av,bv,l,bd,k7,E,g7,ga,gb,B,o⟩:=r.st;refine⟨fun _ w'=>Hl pb tb T d.heap.size w3 w3.heap.size (d.heap.size+1) nm qc (fun l bd k vs=>mW T [46] ⟨nm,l,bd,vs⟩ k vs) w',?_,?_⟩
      .refine(ant B [58,45] zd).mono ?_;rintro e w9 ⟨rfl,hP9,kz⟩;refine bG ?_;by_cases D:ee T k7 [58,45]=G
       .rw[XT,zip D] at o;rw[zip D] at hP9;rw[D,P8];cases p:mX T (yh T) (k7+1) E 0 with
        | none=>rw[p] at o;simp [cr.bind] at o
        | some qb=>
        rw[p] at o;refine((ani _).go hP9 (by grind [bD.trans]) zo p).mono ?_;intro e q Ui;cases qb with
        | err c a=>
         obtain⟨i,C,-⟩:=Ui;simp only[cr.bind,a3I] at o;have lp:=Uh (y.trans kz) C i o.symm;obtain⟨b,rfl,-,-⟩:=i;refine bG ?_;omega
        | ok bd2 k2 Uj=>
         obtain⟨v,rfl,j9,M,C⟩:=Ui;simp only[cr.bind] at o;have s9:=kz.size;have t9:=db.bL (kz.trans C) t7 zo zg;have g9:=db.bL (kz.trans C) g7 zo zg;have lg9:=bn g9;have lg7:=bn g7;obtain⟨vb,rfl,zj⟩:=j9.shape;refine cJ @g9 ?_;obtain⟨m,R⟩:=cj (bR q (d.heap.size+1) (ah #[aW nm,av,pp vb,bW] 86));rw[<- R];have hPD:SP m pb tb T k2 Uj 0:=by rw[R];exact M.adU g9 zd zo zo
         have S:db pb w3 m:=by rw[R];exact((y.trans kz).trans C).bR (.inr zo)
         have tD:m.heap[w3.heap.size]?=aO #[zi X,aW nm,zi ps7] 142:=yH;have cD:m.heap[d.heap.size+1]?=aO #[aW nm,av,pp vb,bW] 86:=yH;have sD:m.heap.size=q.heap.size:=yH;have kD:CY (fun b=>d.heap.size<=b/\b≠d.heap.size+1) q m:=fun b cs t p _ z=>yH;have k9:CY (fun b=>d.heap.size<=b/\b≠d.heap.size+1) w8 q:=(by grind [db.ann,bD.trans]);have anD:lV (fun b=>d.heap.size<=b/\b<m.heap.size/\b≠d.heap.size+1) m av l:=
          ga.mono yH (by grind [CY.lL])
         have anC:dL (fun b=>d.heap.size<=b/\b<m.heap.size/\b≠d.heap.size+1) m (pp vb) bd2:=
          dL.mono yH yH _ _ j9
         grind [Hl.step,bD.refl]
       .rw[XT,bU D] at o;rw[bU D] at hP9;have uh:ee T k7 [58,45]=false:=zg;rw[uh,P9];grind [Hl.step]
      .clear o B gb ga g7 y t7 r;rintro _ w9 r _;obtain⟨X,ps7,t7⟩:=r.t3;have y:=r.fr;obtain⟨av,bv,l,bd,k7,E,g7,ga,gb,B,o⟩:=r.st;refine(adZ B [46] zd _ o).mono ?_;rintro e wE ⟨U,(⟨rfl,W,Yc⟩| ⟨c,a,W,i⟩)⟩
       .obtain⟨aXP,vaE,vcE,csE,h3E,-⟩:=Yc.x;have sE:=U.size;have gE:=U.bL g7 zo zd;have lgE:=bn gE;have lg7:=bn g7;obtain⟨vb,rfl,zj⟩:=gb.shape;obtain⟨P,Q,ac,rfl⟩:∃ a n c,av = .slice a n c:=by
         obtain⟨xg,h1,-⟩:=ga;obtain⟨a,n,c,h,-⟩:=h1.shape;exact⟨a,n,c,h⟩
        refine dA h3E @gE ?_;obtain⟨u,Ye⟩:=cj (bR wE (d.heap.size+1) (ah #[aW nm,.slice P Q ac,pp vb,.slice vaE E.length vcE] 86));rw[<- Ye];have aIn:db pb w3 wE:=y.trans U;have hPG:SP u pb tb T (k7+1) E 0:=by rw[Ye];exact Yc.adU gE zd zo zo
        have ael:db pb w3 u:=by rw[Ye];exact aIn.bR (.inr zo)
        have gG:u.heap[d.heap.size+1]?=aO #[aW nm,.slice P Q ac,pp vb,.slice vaE E.length vcE] 86:=yH;have sG:u.heap.size=wE.heap.size:=yH;have kG:CY (fun b=>d.heap.size<=b/\b≠d.heap.size+1) w9 u:=fun b cs t p ht z=>by
         grind [jg,db.bL]
        have aIq:lV (fun b=>d.heap.size<=b/\b<u.heap.size) u (.slice P Q ac) l:=
         ga.mono yH (by grind [CY.lL])
        have bdG:dL (fun b=>d.heap.size<=b/\b<u.heap.size) u (pp vb) bd:=
         dL.mono yH (by grind [CY.lL]) _ _ gb
        rw[W] at j;simp only[cr.bind] at j;have clG:FI (fun b=>d.heap.size<=b/\b<u.heap.size) u (pp (d.heap.size+1)) ⟨nm,l,bd,E⟩:=
         ⟨d.heap.size+1,_,_,vaE,vcE,J,yH,gG,aIq,bdG⟩
        have A:Ext u (u.alloc (ah #[pp (d.heap.size+1)] 79)):=yF;have Jn:=jK A.ext (anp ael (hv ▸ o1) zo zd);rw[hv];refine adW Jn (tW (by rw[Ye,vy])) J zo (by have:=A.size;omega) ?_;intro v' ju TY qf BD;have vK:db pb w ju:=((hF.trans ael).trans A.toM).grow qf (fun kk nW=>(Jn.lt kk nW).1);refine⟨f+1,zo,vK,f,k7+1,E,acc++[⟨nm,l,bd,E⟩],J,zg,j,(hPG.adV A).Qk Jn zg zo qf,?_⟩;rw[hv] at eT;exact eT.more ael zo (clG.mono yH (fun b cs t _ _ z=>z)) zo A Jn TY qf BD
       .have lp:=Uh y U i W;obtain⟨b,rfl,-,-⟩:=i;refine bG ?_;omega
open Go.Proofs.YtoegidfbnkaabaaGreatDoor.Sx
section
variable{p0 p1 p2 p3 p4 p5 p6 p7:Y}{w:Z}{R:Ending->Z->Prop}
def aIt:=cy w R [p0,p1] (gc [] [] []) func45
def aIu:=cy w R [p0,p1] (gc [] [] []) func58
end
def aem(w:Z):(Instr.typeAssert aj 20 73 G).run bdI w = .ok (aq #[au V,.bool ae]) w:=zk
def aen(v:Y)(w:Z):(Instr.typeAssert (ak 73 v) 20 73 G).run bdI w = .ok (aq #[v,.bool G]) w:=zk
def aIv(v4 v5:Y)(w:Z):CallsD bdI 83 #[v4,v5] .returning w fun e u' w'=>e = ai (aq #[])/\u' = .returning/\w'=w:=by
 refine callsD_of_wpS func83 J fun AS cs hu=>?_;apply wpS_seq;apply wpS_region;simp [wpOpsS,go_sem,recoverD,hu,ntmps83,a4t,aem];apply wpS_seq;apply wpS_region;simp [wpOpsS,go_sem,recoverD,hu,ntmps83,a4t];refine wpS_cond (t:=false) (by simp [Act.eval]) ?_;simp only[Bool.false_eq_true,if_false];refine wpS_of_wp (wp_skip ?_);cases AS;simp_all [bodyPostS,results,Tryz.results83]
def aIw(b4 b5:Nat)(o4 o5:Y)(v:Y)(yj:List PanicEntry)(w:Z)(h4:w.cell? ⟨b4,0,V⟩=O o4)(z4:w.frozen? ⟨b4,0,V⟩=ae)
  (h5:(w.setCell ⟨b4,0,V⟩ bW).cell? ⟨b5,0,V⟩=O o5) (z5:(w.setCell ⟨b4,0,V⟩ bW).frozen? ⟨b5,0,V⟩=ae) :
  CallsD bdI 83 #[pp b4,pp b5] (.panicking ({ v:=ak 73 v,recovered:=false }::yj)) w fun e u' w'=>
   e = ai (aq #[])/\u' = .panicking ({ v:=ak 73 v,recovered:=true }::yj)/\w'=(w.setCell ⟨b4,0,V⟩ bW).setCell ⟨b5,0,V⟩ (ak 73 v):=by
 refine callsD_of_wpS func83 J fun AS cs hu=>?_;apply wpS_seq;apply wpS_region;simp [wpOpsS,go_sem,recoverD,hu,ntmps83,a4t,aen];apply wpS_seq;apply wpS_region;simp [wpOpsS,go_sem,recoverD,hu,ntmps83,a4t];refine wpS_cond (t:=true) (by simp [Act.eval]) ?_;simp only[if_true];apply wpS_seq;apply wpS_region;simp [wpOpsS,go_sem,recoverD,hu,ntmps83,a4t];apply wpS_region;simp [wpOpsS,go_sem,recoverD,hu,ntmps83,a4t,h4,z4,h5,z5];simp [bodyPostS,results,Tryz.results83]
def aIx(v4 v5:Y)(w:Z):CallsD bdI 90 #[v4,v5] .returning w fun e u' w'=>e = ai (aq #[])/\u' = .returning/\w'=w:=by
 refine callsD_of_wpS func90 J fun AS cs hu=>?_;apply wpS_seq;apply wpS_region;simp [wpOpsS,go_sem,recoverD,hu,ntmps90,a4t,aem];apply wpS_seq;apply wpS_region;simp [wpOpsS,go_sem,recoverD,hu,ntmps90,a4t];refine wpS_cond (t:=false) (by simp [Act.eval]) ?_;simp only[Bool.false_eq_true,if_false];refine wpS_of_wp (wp_skip ?_);cases AS;simp_all [bodyPostS,results,Tryz.results90]
def aIy(b4 b5:Nat)(o4 o5:Y)(v:Y)(yj:List PanicEntry)(w:Z)(h4:w.cell? ⟨b4,0,V⟩=O o4)(z4:w.frozen? ⟨b4,0,V⟩=ae)
  (h5:(w.setCell ⟨b4,0,V⟩ (au V)).cell? ⟨b5,0,V⟩=O o5) (z5:(w.setCell ⟨b4,0,V⟩ (au V)).frozen? ⟨b5,0,V⟩=ae) :
  CallsD bdI 90 #[pp b4,pp b5] (.panicking ({ v:=ak 73 v,recovered:=false }::yj)) w fun e u' w'=>
   e = ai (aq #[])/\u' = .panicking ({ v:=ak 73 v,recovered:=true }::yj)/\w'=(w.setCell ⟨b4,0,V⟩ (au V)).setCell ⟨b5,0,V⟩ (ak 73 v):=by
 refine callsD_of_wpS func90 J fun AS cs hu=>?_;apply wpS_seq;apply wpS_region;simp [wpOpsS,go_sem,recoverD,hu,ntmps90,a4t,aen];apply wpS_seq;apply wpS_region;simp [wpOpsS,go_sem,recoverD,hu,ntmps90,a4t];refine wpS_cond (t:=true) (by simp [Act.eval]) ?_;simp only[if_true];apply wpS_seq;apply wpS_region;simp [wpOpsS,go_sem,recoverD,hu,ntmps90,a4t];apply wpS_region;simp [wpOpsS,go_sem,recoverD,hu,ntmps90,a4t,h4,z4,h5,z5];simp [bodyPostS,results,Tryz.results90]
namespace P
def program(s:Bs):cr (List Cl):=
 if 2000<s.length then .err 1 0 else match lex s with
 | .inl i=>.err 2 i
 | .inr T=>Jf T
def ry{α:Type}(g:List Tok->cr α)(s:Bs):cr α:=if 2000<s.length then .err 1 0 else match lex s with
 | .inl i=>.err 2 i
 | .inr T=>g T
def aIz(T:List Tok):cr Ex:=
 match jf T (yh T) 0 0 [] 0 with
 | some (.ok x k vs)=>if (tk T k).kind=0 then .ok x k vs else .err 2 (tk T k).pos
 | some (.err e a)=>.err e a
 | none=>.err 0 0
end P
structure Uk(T:List P.Tok):Prop extends TW T where
 sg:∀ u∈T,u.kind=4->u.text=[46]\/u.text∈nL
theorem Uk.of(h:Hd n T)(a:n<=2000):Uk T:=
 { len:=by have:=h.len;omega,last:=h.last,kind:=fun u hu=>(h.tok u hu).1,digits:=fun u hu=>(h.tok u hu).2.1,words:=fun u hu=>(h.tok u hu).2.2.1,vars:=fun u hu=>(h.tok u hu).2.2.2.1,sg:=fun u hu=>(h.tok u hu).2.2.2.2 }
def Ul(h:P.lex s = .inr T):Hd s.length T:=TU _ _ _ _ (by rw[TV,h])
theorem AB.up(h:AB w B)(a:B<=B'):AB w B':=
 ⟨a4i h.lt a,(by grind [a4i,G0])⟩
theorem nk.up(h:nk w B)(a:B<=B'):nk w B':=⟨a4i h.lt a,h.cell⟩
structure Yf(w:Z):Prop where
 G0:AB w w.heap.size
 cmp:nk w w.heap.size
 sig:NV w
def aIA(h:res w) :
  LV bdI res R [{ target:=.fn (.func 83) #[tv,vv],args:=#[]++#[] }] .returning w:=by
 refine Cp zk zs ((aIv tv vv w).mono ?_);rintro e a w' ⟨rfl,rfl,rfl⟩;exact h
def aIB(a:w.heap[pb]?=aO #[o4] 68)
  (d:w.heap[k']?=aO #[o5] 57) (f:pb≠k')
  (h:res (bR (bR w pb (ah #[bW] 68)) k' (ah #[ak 73 v] 57))) :
  LV bdI res R [{ target:=.fn (.func 83) #[pp pb,pp k'],args:=#[]++#[] }]
   (.panicking [{ v:=ak 73 v,recovered:=false }]) w:=by
 have b:w.setCell ⟨pb,0,V⟩ bW=bR w pb (ah #[bW] 68):=vz a _;have c:(bR w pb (ah #[bW] 68)).heap[k']?=aO #[o5] 57:=by
  exact yH
 refine Cp zk zs ((aIw pb k' o4 o5 v [] w (by grind [a4n]) (jV a 0) (by grind [a4n]) (by grind [jV])).mono ?_);rintro e g w' ⟨rfl,rfl,rfl⟩;rw[b,vz c];exact h
def SP.fresh(b:Hd n T)(c:n<=2000)(ht:w.heap[tb]?=aO iF 142)
  (g:iF.toList.take (T.length*3)=CM T) (d:AB w tb) (hlt:tb<pb) (e:T.length<=cap) (f:cap<=9223372036854775807)
  (h:w.heap[pb]?=aO #[cS tb T.length cap,bW,zi 0] 145):SP w pb tb T 0 [] 0:=by
 have a:=Uk.of b c;have k:∀ i,i<T.length*3->iF[i]?=(CM T)[i]?:=zg;refine⟨a.toTW,hlt,a.toTW.pos,zs,⟨d,iF,ht,fun j l=>?_⟩,cap,bW,e,f,yH,a4d _ _ _ _⟩;grind [amS]
def Yg(w:Z)(s:Bs)(e:Ending)(w':Z):Prop:=
 Ext w w'/\match P.program s with
 | .err c a=>∃ b,e = ai (aq #[.slice V 0 0,ak 73 (au (O ⟨b,0,V⟩))])/\w'.heap[b]?=O (ah #[.int .i64 c,.int .i64 a] 77 (0,0))
 | .ok cs _ _=>∃ v vs,e = ai (aq #[v,aj])/\fO (Nu w w') w' 79 v vs/\ky (Nu w w') w' vs cs
def aeo{d:Z}{a:Nat}(i:P.program s = .err c a)(j:Ext w d)(q4:d.heap[w.heap.size]?=aO #[o4] 68)
  (e:d.heap[w.heap.size+1]?=aO #[o5] 57) (k:d.heap[b]?=aO #[zi c,zi a] 77) (l:w.heap.size+2<=b) :
  LV bdI (fun d=>RD bdI (a32 68 (pp w.heap.size)) d (fun r=>RD bdI (a32 57 (pp (w.heap.size+1))) d
    (fun f=>Yg w s (ai (aq #[r,f])) d) NX) NX) (Yg w s)
   [{ target:=.fn (.func 83) #[pp w.heap.size,pp (w.heap.size+1)],args:=#[]++#[] }]
   (.panicking [{ v:=ak 73 (pp b),recovered:=false }]) d:=by
 refine aIB q4 e zo ?_;have m:=bn q4;have n:=bn e;have g:(bR (bR d w.heap.size (ah #[bW] 68)) (w.heap.size+1) (ah #[ak 73 (pp b)] 57)).heap[w.heap.size]?=aO #[bW] 68:=by
  exact yH
 have h:(bR (bR d w.heap.size (ah #[bW] 68)) (w.heap.size+1) (ah #[ak 73 (pp b)] 57)).heap[w.heap.size+1]?=aO #[ak 73 (pp b)] 57:=by
  exact yH
 refine dA @g @h ?_;refine⟨yF,?_⟩;exact yH
def aIC(s:Bs)(w:Z)(R:s.length<=100000)(u:Yf w) :
  Calls bdI 45 #[aW s,.func (.func 46) #[] #[]] w (Yg w s):=by
 refine aIt ?_;refine bG ?_;obtain⟨l,S⟩:=cj ((w.alloc (ah #[bW] 68)).alloc (ah #[aj] 57));have sA:l.heap.size=w.heap.size+2:=yH;have U:Ext w l:=yF;have x:l.heap[w.heap.size]?=aO #[bW] 68:=yH;have y:l.heap[w.heap.size+1]?=aO #[aj] 57:=yH;rw[size_alloc,<- S];refine(amU s l R (u.sig.ext U)).mono ?_;rintro e w1 ⟨d,f⟩;have s1:=d.size;by_cases m:2000<s.length
 .rw[zip m] at f;obtain⟨b,rfl,p,F⟩:=f;exact aeo (by rw[P.program,zip m]) yF (d.ext _ _ x) (d.ext _ _ y) p zo
 rw[bU m] at f;cases hx:P.lex s with
 | inl i=>
  rw[hx] at f;obtain⟨b,rfl,p,F⟩:=f;exact aeo (by rw[P.program,bU m,hx]) yF (d.ext _ _ x) (d.ext _ _ y) p zo
 | inr T=>
  rw[hx] at f;obtain⟨v,rfl,z⟩:=f;have H:=Ul hx;have W:0<T.length:=(Uk.of H zo).toTW.pos;obtain⟨tY,z⟩:=z;rcases z with⟨-,h0⟩| ⟨tb,cap,cur,rfl,Hf,X,FF,xk,ht5,K7⟩
  .omega
  refine bG ?_;have A:=bn X;obtain⟨g,B⟩:=cj (w1.alloc (ah #[cS tb T.length cap,bW,zi 0] 145));have C:Ext w1 g:=yF;have sP:g.heap.size=w1.heap.size+1:=yH;have bP:g.heap[w1.heap.size]?=aO #[cS tb T.length cap,bW,zi 0] 145:=yH;rw[<- B];have I:Ext w g:=yF;have qP:SP g w1.heap.size tb T 0 [] 0:=SP.fresh H zo yH K7 ((u.G0.ext fun b o _=>I.ext b o).up zo) A FF (by grind [maxLen]) bP;refine⟨zk,(aH2 qP ((u.cmp.ext fun b o _=>I.ext b o).up zo)).mono ?_⟩;have K:P.program s=Jf T:=by rw[P.program,bU m,hx]
  rintro e w3 ⟨q,r⟩;have s3:=q.size;have L:Ext w1 w3:=⟨q.os.trans C.os,q.tape.trans C.tape,q.output.trans C.output,zo,fun b o M _=>q.block b o yH (by
   have:=bn M;rintro (h | ⟨h,_⟩)<;>omega)⟩
  have D:Ext w w3:=yF;have q4:=L.ext _ _ (d.ext _ _ x);have E:=L.ext _ _ (d.ext _ _ y);cases hr:Jf T with
  | err c a=>
   rw[hr] at r;obtain⟨b,rfl,p,F⟩:=r;exact aeo (K.trans hr) D q4 E p zo
  | ok cs k xg=>
   rw[hr] at r;obtain⟨v,vs,rfl,g1,g2⟩:=r;obtain⟨N,sn,Q,rfl⟩:∃ a n c,v = .slice a n c:=by rcases g1 with⟨-,rfl⟩| ⟨b,cs',rfl,-⟩<;>exact zg
   have l4:=bn q4;have l5:=bn E;refine dA @q4 @E ?_;refine aIA ?_;obtain⟨j,tn⟩:=cj (bR (bR w3 w.heap.size (ah #[.slice N sn Q] 68)) (w.heap.size+1) (ah #[aj] 57));have k4:j.heap[w.heap.size]?=aO #[.slice N sn Q] 68:=yH;have k5:j.heap[w.heap.size+1]?=aO #[aj] 57:=yH;have hz:∀ b o,b≠w.heap.size->b≠w.heap.size+1->w3.heap[b]?=O o->j.heap[b]?=O o:=yH;have Yh:Ext w j:=yF;have sz:j.heap.size=w3.heap.size:=yH;rw[<- tn];refine dA @k4 @k5 ?_;refine⟨Yh,?_⟩;rw[K,hr];have hf:∀ b,Nu g w3 b->Nu w j b:=zg;exact⟨_,vs,J,(by grind [fO.mono]),g2.mono hf (fun b cs t M _ ho=>yH)⟩
def aIF(h:res w) :
  LV bdI res R [{ target:=.fn (.func 90) #[tv,vv],args:=#[]++#[] }] .returning w:=by
 refine Cp zk zs ((aIx tv vv w).mono ?_);rintro e a w' ⟨rfl,rfl,rfl⟩;exact h
def aIG(a:w.heap[pb]?=aO #[o4] 79)
  (d:w.heap[k']?=aO #[o5] 57) (f:pb≠k')
  (h:res (bR (bR w pb (ah #[au V] 79)) k' (ah #[ak 73 v] 57))) :
  LV bdI res R [{ target:=.fn (.func 90) #[pp pb,pp k'],args:=#[]++#[] }]
   (.panicking [{ v:=ak 73 v,recovered:=false }]) w:=by
 have b:w.setCell ⟨pb,0,V⟩ (au V)=bR w pb (ah #[au V] 79):=vz a _;have c:(bR w pb (ah #[au V] 79)).heap[k']?=aO #[o5] 57:=by
  exact yH
 refine Cp zk zs ((aIy pb k' o4 o5 v [] w (by grind [a4n]) (jV a 0) (by grind [a4n]) (by grind [jV])).mono ?_);rintro e g w' ⟨rfl,rfl,rfl⟩;rw[b,vz c];exact h
def anF{α:Type}(I:(Nat->Prop)->Z->Nat->α->List Bs->Prop)(pb:Nat)(w:Z)(r:cr α)(e:Ending)(w':Z):Prop:=
 db pb w w'/\match r with
 | .err c a=>nD c a w w' e
 | .ok x _ vs=>∃ b,e = ai (au (O ⟨b,0,V⟩))/\I (Nu w w') w' b x vs
def Yi{α:Type}(I:(Nat->Prop)->Z->Nat->α->List Bs->Prop)(w:Z)(r:cr α)(e:Ending)(w':Z):Prop:=
 Ext w w'/\match r with
 | .err c a=>∃ b,e = ai (aq #[au V,ak 73 (au (O ⟨b,0,V⟩))])/\w'.heap[b]?=O (ah #[.int .i64 c,.int .i64 a] 77 (0,0))
 | .ok x _ vs=>∃ b,e = ai (aq #[au (O ⟨b,0,V⟩),aj])/\I (Nu w w') w' b x vs
def aet{α:Type}{I:(Nat->Prop)->Z->Nat->α->List Bs->Prop}{r:cr α}{d:Z}{a:Nat}(f:r = .err c a)(k:Ext w d)(q4:d.heap[w.heap.size]?=aO #[o4] 79)
  (e:d.heap[w.heap.size+1]?=aO #[o5] 57) (l:d.heap[b]?=aO #[zi c,zi a] 77) (m:w.heap.size+2<=b) :
  LV bdI (fun d=>RD bdI (a32 79 (pp w.heap.size)) d (fun g=>RD bdI (a32 57 (pp (w.heap.size+1))) d
    (fun h=>Yi I w r (ai (aq #[g,h])) d) NX) NX) (Yi I w r)
   [{ target:=.fn (.func 90) #[pp w.heap.size,pp (w.heap.size+1)],args:=#[]++#[] }]
   (.panicking [{ v:=ak 73 (pp b),recovered:=false }]) d:=by
 subst f;refine aIG q4 e zo ?_;have n:=bn q4;have o:=bn e;have i:(bR (bR d w.heap.size (ah #[au V] 79)) (w.heap.size+1) (ah #[ak 73 (pp b)] 57)).heap[w.heap.size]?=aO #[au V] 79:=by
  exact yH
 have j:(bR (bR d w.heap.size (ah #[au V] 79)) (w.heap.size+1) (ah #[ak 73 (pp b)] 57)).heap[w.heap.size+1]?=aO #[ak 73 (pp b)] 57:=by
  exact yH
 refine dA @i @j ?_;refine⟨yF,b,J,?_⟩;exact yH
structure Jp(w:Z):Prop where
 G0:AB w w.heap.size
 sig:NV w
theorem Jp.ext{w w':Z}(h:Jp w)(a:Ext w w'):Jp w':=
 ⟨(h.G0.ext fun b o _=>a.ext b o).up a.size,h.sig.ext a⟩
def aIH{α:Type}{I:(Nat->Prop)->Z->Nat->α->List Bs->Prop}
  (hI:∀ (F F':Nat->Prop) (w w':Z) (b:Nat) (x:α) (vs:List Bs),(∀ b,F b->F' b)->(∀ b o,F b->w.heap[b]?=O o->w'.heap[b]?=O o)->I F w b x vs->I F' w' b x vs)
  {g:List P.Tok->cr α} (N:Al bdI k'=G)
  (s:Bs) (w:Z) (Q:s.length<=100000) (E:Jp w)
  (R:let w0:=w;∀ {pb tb:Nat} {T:List P.Tok} {w:Z},P.lex s = .inr T->SP w pb tb T 0 [] 0->(nk w0 w0.heap.size->nk w tb)->w.heap.size=pb+1->Calls bdI k' #[pp pb] w (anF I pb w (g T))) :
  Calls bdI 58 #[aW s,.func (.func k') #[] #[]] w (Yi I w (ry g s)):=by
 refine aIu ?_;refine bG ?_;obtain⟨j,S⟩:=cj ((w.alloc (ah #[au V] 79)).alloc (ah #[aj] 57));have sA:j.heap.size=w.heap.size+2:=yH;have U:Ext w j:=yF;have t:j.heap[w.heap.size]?=aO #[au V] 79:=yH;have u:j.heap[w.heap.size+1]?=aO #[aj] 57:=yH;rw[size_alloc,<- S];refine(amU s j Q (E.sig.ext U)).mono ?_;rintro e w1 ⟨d,f⟩;have s1:=d.size;by_cases l:2000<s.length
 .rw[zip l] at f;obtain⟨b,rfl,m,H⟩:=f;exact aet (by rw[ry,zip l]) yF (d.ext _ _ t) (d.ext _ _ u) m zo
 rw[bU l] at f;cases hx:P.lex s with
 | inl i=>
  rw[hx] at f;obtain⟨b,rfl,m,H⟩:=f;exact aet (by rw[ry,bU l,hx]) yF (d.ext _ _ t) (d.ext _ _ u) m zo
 | inr T=>
  rw[hx] at f;obtain⟨v,rfl,y⟩:=f;have K:=Ul hx;have W:0<T.length:=(Uk.of K zo).toTW.pos;obtain⟨tY,y⟩:=y;rcases y with⟨-,h0⟩| ⟨tb,cap,cur,rfl,Hf,X,FF,xk,ht5,K7⟩
  .omega
  refine bG ?_;have z:=bn X;obtain⟨n,A⟩:=cj (w1.alloc (ah #[cS tb T.length cap,bW,zi 0] 145));have B:Ext w1 n:=yF;have sP:n.heap.size=w1.heap.size+1:=yH;have bP:n.heap[w1.heap.size]?=aO #[cS tb T.length cap,bW,zi 0] 145:=yH;rw[<- A];have L:Ext w n:=yF;have qP:SP n w1.heap.size tb T 0 [] 0:=SP.fresh K zo yH K7 ((E.G0.ext fun b o _=>L.ext b o).up zo) z FF (by grind [maxLen]) bP;refine⟨N,(R hx qP (fun hC=>(hC.ext fun b o _=>L.ext b o).up zo) sP).mono ?_⟩;have uf:ry g s=g T:=by rw[ry,bU l,hx]
  rintro e w3 ⟨p,r⟩;have s3:=p.size;have M:Ext w1 w3:=⟨p.os.trans B.os,p.tape.trans B.tape,p.output.trans B.output,zo,fun b o hb _=>p.block b o yH (by
   have:=bn hb;rintro (h | ⟨h,_⟩)<;>omega)⟩
  have C:Ext w w3:=yF;have q4:=M.ext _ _ (d.ext _ _ t);have D:=M.ext _ _ (d.ext _ _ u);cases hr:g T with
  | err c a=>
   rw[hr] at r;obtain⟨b,rfl,m,H⟩:=r;exact aet (uf.trans hr) C q4 D m zo
  | ok x k vs=>
   rw[hr] at r;obtain⟨b,rfl,g1⟩:=r;have l4:=bn q4;have l5:=bn D;refine dA @q4 @D ?_;refine aIF ?_;obtain⟨q,tn⟩:=cj (bR (bR w3 w.heap.size (ah #[pp b] 79)) (w.heap.size+1) (ah #[aj] 57));have k4:q.heap[w.heap.size]?=aO #[pp b] 79:=yH;have k5:q.heap[w.heap.size+1]?=aO #[aj] 57:=yH;have hz:∀ b o,b≠w.heap.size->b≠w.heap.size+1->w3.heap[b]?=O o->q.heap[b]?=O o:=yH;have Yh:Ext w q:=yF;have sz:q.heap.size=w3.heap.size:=yH;rw[<- tn];refine dA @k4 @k5 ?_;refine⟨Yh,?_⟩;exact yH
