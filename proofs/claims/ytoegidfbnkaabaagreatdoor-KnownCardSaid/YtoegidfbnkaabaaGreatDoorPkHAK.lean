/- A part of one proof (PureF, SX3, SX4, ShS2, SX5, PX1, PureTx, GBase2, SX6, PX2). -/
import Derived.Test.YtoegidfbnkaabaaGreatDoorPkHAJ
import Derived.Recover
import Derived.Tactics
import Derived.Tactics2
set_option linter.all false
set_option maxRecDepth 100000
set_option maxHeartbeats 8000000
open Option renaming some → O, none → V
open Go renaming Value → Y, World → Z
open Bool renaming true → A, false → G
open Go.Obj renaming cells → ae
open Go.Ending renaming returned → ah
open Go.Value renaming nilIface → ai, iface → aj, tuple → ak, pointer → aq
open Option.some renaming injEq → aZ9, inj → a0g
open Go.Instr renaming loadAt → a0o
open Go.World renaming ownsRow_nil → a0z, cell? → a0O
open Nat renaming lt_of_lt_of_le → a0E
open Go.Exit renaming thenS → a0R
open Go.Proofs.Tryz renaming prog → a9Z
open Go.Proofs.Tryz
namespace Go.Proofs.YtoegidfbnkaabaaGreatDoor
open P
variable{B B' b base c cap d e f k k' m mb n o pb so tb:Nat}{F:Nat->Prop}{R:Ending->Z->Prop}{T:List P.Tok}{W w w' w1 w2 w3:Z}{X:Y->Z->Prop}{av o4 o5 tv u v vv:Y}{cs iC:Array Y}{res:Z->Prop}{s:Bs}{vars:List Bs}{xs:List Y}
namespace P
def MF{T:List Tok}(h:(tk T k).kind≠0):k<T.length:=by
 grind [Nat.lt_or_ge,absurd,tk,List.getElem?_eq_none]
def xF{T:List Tok}{s:Bs}(h:ep T k s=A):k<T.length:=by
 refine MF fun a=>?_;simp_all [ep]
def bind_some{α β:Type}{r:Option (cg α)}{g:α->Nat->List Bs->Option (cg β)}(h:∃ q,r=O q)(b:∀ a k v,r=O (.ok a k v)->∃ q,g a k v=O q):∃ q,cg.bind r g=O q:=by
 obtain⟨q,rfl⟩:=h;cases q with
 | err e a=>exact⟨_,J⟩
 | ok a k v=>exact b a k v J
def J8{α:Type}(T:List Tok)(s:Bs)(x:α)(k:Nat)(v:List Bs):∃ q,mZ T s x k v=O q:=by
 unfold mZ;split<;>exact⟨_,J⟩
def aFK{T:List Tok}{v v':List Bs}{x:Ex}(h:pR T f k v d=O (.ok x k' v')):k<T.length:=by
 cases f with
 | zero=>simp_all [pR]
 | succ f=>
  refine MF fun a=>?_;grind [ep,pR]
def OZ{T:List Tok}:∀ {f l k:Nat} {v v':List Bs} {d k':Nat} {x:Ex},jo T f l k v d=O (.ok x k' v')->k<T.length
 | 0,_,_,_,_,_,_,_,h=>by simp_all [jo]
 | f+1,l,k,v,v',d,k',x,h=>by
  rw[jo] at h;split at h
  .exact aFK h
  .obtain⟨a,c,v1,b,_⟩:=eh h;exact OZ b
def aFL{T:List Tok}{l:Nat}{o:Bs}(h:Rb T l k=O o):k<T.length:=xF (List.find?_some h)
structure Tot(T:List Tok)(f:Nat):Prop where
 EG:∀ k v d,16*(T.length-k)+1<=f->∃ r,pR T f k v d=O r
 args:∀ k v d a acc,16*(T.length-k)+5<=f->∃ r,oX T f k v d a acc=O r
 list:∀ k v d,16*(T.length-k)+6<=f->∃ r,rf T f k v d=O r
 elems:∀ k v d acc,16*(T.length-k)+5<=f->∃ r,rS T f k v d acc=O r
 oper:∀ l k v d,l<=2->16*(T.length-k)+(4-l)<=f->∃ r,jo T f l k v d=O r
 more:∀ l y k v d,l<=1->16*(T.length-k)+1<=f->∃ r,qD T f l y k v d=O r
def tot(T:List Tok):∀ f,Tot T f
 | 0=>⟨fun _ _ _ h=>zo,fun _ _ _ _ _ h=>zo,fun _ _ _ h=>zo,fun _ _ _ _ h=>zo,fun _ _ _ _ _ h=>zo,fun _ _ _ _ _ _ h=>zo⟩
 | f+1=>by
  have ih:=tot T f;have b:=mono T f;refine⟨?_,?_,?_,?_,?_,?_⟩
  .intro k v d c;rw[pR];split
   .grind
   split
   .grind
   split
   .grind
   split
   .split
    .rename_i h;have:=xF h;exact bind_some (ih.args _ _ _ _ _ zo) fun _ _ _ _=>J8 _ _ _ _ _
    grind
   split
   .split<;>exact⟨_,J⟩
   split
   .rename_i h;have:=xF h;exact bind_some (ih.oper 0 _ _ _ zo zo) fun _ _ _ _=>J8 _ _ _ _ _
   split
   .rename_i h;have:=xF h;exact ih.list _ _ _ zo
   grind
  .intro k v d a acc c;rw[oX];refine bind_some (ih.oper 0 _ _ _ zo zo) fun x k' v' h=>?_;have g:=OZ h;have e:=b.oper _ _ _ _ _ _ _ h;split
   .exact ih.args _ _ _ _ _ zo
   .split<;>exact⟨_,J⟩
  .intro k v d c;rw[rf];split
   .grind
   .refine bind_some (ih.elems _ _ _ _ zo) fun x k' v' h=>?_;have e:=b.elems _ _ _ _ _ _ _ h;split
    .rename_i j;have:=xF j;exact bind_some (ih.oper 0 _ _ _ zo zo) fun _ _ _ _=>J8 _ _ _ _ _
    simp_all [J8]
  .intro k v d acc c;rw[rS];refine bind_some (ih.oper 0 _ _ _ zo zo) fun x k' v' h=>?_;have g:=OZ h;have e:=b.oper _ _ _ _ _ _ _ h;split
   .exact ih.elems _ _ _ _ zo
   grind
  .intro l k v d i c;rw[jo];split
   .exact ih.EG _ _ _ zo
   .refine bind_some (ih.oper _ _ _ _ zo zo) fun x k' v' h=>?_;have g:=OZ h;have e:=b.oper _ _ _ _ _ _ _ h;exact ih.more _ _ _ _ _ zo zo
  .intro l y k v d i c;rw[qD];split
   .grind
   .rename_i o m;have n:=aFL m;refine bind_some (ih.oper _ _ _ _ zo zo) fun x k' v' h=>?_;have e:=b.oper _ _ _ _ _ _ _ h;exact ih.more _ _ _ _ _ i zo
def aFN{T:List Tok}{v v':List Bs}{x:Bd}(h:nt T f k v d=O (.ok x k' v')):k<T.length:=by
 cases f with
 | zero=>simp_all [nt]
 | succ f=>
  rw[nt] at h;split at h
  .grind
  split at h
  .rename_i b;exact xF b
  split at h
  .rename_i b;exact xF b
  split at h
  .rename_i b;exact xF b
  .obtain⟨a,e,v1,c,_⟩:=eh h;exact OZ c
structure aFO(T:List Tok)(f:Nat):Prop where
 lit:∀ k v d,16*(T.length-k)+5<=f->∃ r,nt T f k v d=O r
 lits:∀ k v d acc,16*(T.length-k)+6<=f->∃ r,pS T f k v d acc=O r
 row:∀ k v d,16*(T.length-k)+7<=f->∃ r,nN T f k v d=O r
 rest:∀ k v d,16*(T.length-k)+9<=f->∃ r,pU T f k v d=O r
 body:∀ k v d,16*(T.length-k)+8<=f->∃ r,mw T f k v d=O r
def totB(T:List Tok):∀ f,aFO T f
 | 0=>⟨fun _ _ _ h=>zo,fun _ _ _ _ h=>zo,fun _ _ _ h=>zo,fun _ _ _ h=>zo,fun _ _ _ h=>zo⟩
 | f+1=>by
  have ih:=totB T f;have it:=tot T f;have g:=mono T f;have mb:=Sa T f;refine⟨?_,?_,?_,?_,?_⟩
  .intro k v d a;rw[nt];split
   .grind
   split
   .grind
   split
   .rename_i h;have:=xF h;exact bind_some (ih.lit _ _ _ zo) fun _ _ _ _=>⟨_,J⟩
   split
   .rename_i h;have:=xF h;exact bind_some (ih.body _ _ _ zo) fun _ _ _ _=>J8 _ _ _ _ _
   .refine bind_some (it.oper 0 _ _ _ zo zo) fun x k' v' h=>?_;have c:=g.oper _ _ _ _ _ _ _ h;have e:=OZ h;split
    .exact bind_some (it.oper 0 _ _ _ zo zo) fun _ _ _ _=>⟨_,J⟩
    .repeat' split<;>simp_all
  .intro k v d acc a;rw[pS];refine bind_some (ih.lit _ _ _ zo) fun x k' v' h=>?_;have e:=aFN h;have c:=mb.lit _ _ _ _ _ _ h;split
   .exact ih.lits _ _ _ _ zo
   grind
  .intro k v d a;rw[nN];exact bind_some (ih.lits _ _ _ _ zo) fun _ _ _ _=>⟨_,J⟩
  .intro k v d a;rw[pU];split
   .grind
   .exact ih.body _ _ _ zo
  .intro k v d a;rw[mw];refine bind_some (ih.row _ _ _ zo) fun x k' v' h=>?_;have c:=mb.row _ _ _ _ _ _ h;split
   .rename_i i;have e:=xF i;refine bind_some (ih.row _ _ _ zo) fun x m v2 j=>?_;have n:=mb.row _ _ _ _ _ _ j;split
    .rename_i b;have l:=xF b;exact bind_some (ih.rest _ _ _ zo) fun _ _ _ _=>⟨_,J⟩
    grind
   .split
    .rename_i b;have l:=xF b;exact bind_some (ih.rest _ _ _ zo) fun _ _ _ _=>⟨_,J⟩
    grind
def tg(T:List Tok):Nat:=16*T.length+20
def ak1(T:List Tok)(name:Bs)(args:List Ex)(a k:Nat)(v:List Bs):∃ r,Jo T (tg T) name args a k v=O r:=by
 unfold Jo tg;split
 .grind
 split
 .exact bind_some ((totB T _).body _ _ _ zo) fun _ _ _ _=>J8 _ _ _ _ _
 simp_all [J8]
def aFP(T:List Tok)(k:Nat):∃ r,Er T (tg T) k=O r:=by
 unfold Er;split
 .split
  .refine bind_some ((tot T _).args _ _ _ _ _ (by grind [tg])) fun l k' v' h=>?_;simp_all [bind_some,J8,ak1]
  simp_all [ak1]
 grind
def ak2{T:List Tok}{name:Bs}{args:List Ex}{a:Nat}{v:List Bs}{c:Cl}{v':List Bs}(h:Jo T f name args a k v=O (.ok c k' v')):k<k'/\c.vars=v':=by
 unfold Jo at h;split at h
 .grind
 split at h
 .obtain⟨b,g,v1,d,e⟩:=eh h;obtain⟨i,j,l⟩:=nR e;have:=(Sa T f).body _ _ _ _ _ _ d;grind
 grind [nR]
def aFQ{T:List Tok}{c:Cl}{v':List Bs}(h:Er T f k=O (.ok c k' v')):k<k'/\k<T.length:=by
 unfold Er at h;split at h
 .rename_i hk;have g:k<T.length:=MF zo;split at h
  .obtain⟨l,i,v1,a,b⟩:=eh h;obtain⟨j,m,v2,d,e⟩:=eh b;have n:=(mono T f).args _ _ _ _ _ _ _ _ a;obtain⟨o,_,_⟩:=nR d;have:=(ak2 e).1;omega
  .have:=(ak2 h).1;omega
 grind
def EO(T:List Tok):Nat->Nat->List Cl->Option (cg (List Cl))
 | 0,_,_=>V
 | f+1,k,acc=>
  if (tk T k).kind=0 then O (.ok acc k [])
  else if acc.length=40 then O (.err 4 (tk T k).pos)
  else cg.bind (Er T (tg T) k) fun c k' _=>EO T f k' (acc++[c])
def ak3{T:List Tok}:∀ (f k:Nat) (acc:List Cl),T.length-k<f->∃ r,EO T f k acc=O r
 | 0,_,_,h=>zo
 | f+1,k,acc,h=>by
  rw[EO];split
  .grind
  split
  .grind
  .refine bind_some (aFP _ _) fun c k' v' a=>?_;have b:=aFQ a;exact ak3 f k' _ zo
def Ib(T:List Tok):cg (List Cl):=(EO T (T.length+1) 0 []).getD (.err 0 0)
def ak4(T:List Tok):EO T (T.length+1) 0 []=O (Ib T):=by
 obtain⟨r,hr⟩:=ak3 (T:=T) (T.length+1) 0 [] zo;simp_all [Ib]
end P
open Go.RowKit Sx
def EP(F:Nat->Prop)(w:Z)(v:Y)(c:Cl):Prop:=∃ b av bv a d,v=pp b/\F b /\
 w.heap[b]?=aN #[aM c.name,av,bv,.slice a c.vars.length d] 86/\ln F w av c.args/\dJ F w bv c.body
def ko(F:Nat->Prop)(w:Z)(vs:List Y):List Cl->Prop
 | []=>vs=[]
 | x::xs=>∃ v r,vs=v::r/\EP F w v x/\ko F w r xs
def B4(F:Nat->Prop)(w w':Z):Prop:=∀ b cs t,F b->t≠9->w.heap[b]?=aN cs t->w'.heap[b]?=aN cs t
theorem B4.ll(h:B4 F w w'):∀ b o,F b->C8 o->w.heap[b]?=O o->w'.heap[b]?=O o:=by
 intro b o c a d;cases o with
 | cells cs t z=>
  obtain⟨e,rfl⟩:=a;refine h b cs t c ?_ d;grind
 | _=>exact a.elim
theorem EP.mono{F F':Nat->Prop}{w w':Z}{v:Y}{c:Cl}(a:∀ b,F b->F' b)(hw:B4 F w w')(h:EP F w v c):EP F' w' v c:=by
 obtain⟨b,av,bv,e,f,g,d,i,j,k⟩:=h;exact⟨b,av,bv,e,f,g,a b d,hw b _ _ d zg i,j.mono a hw.ll,dJ.mono a hw.ll _ _ k⟩
theorem ko.mono{F F':Nat->Prop}{w w':Z}(a:∀ b,F b->F' b)(hw:B4 F w w'):∀ (xs:List Cl) (vs:List Y),ko F w vs xs->ko F' w' vs xs
 | [],vs,h=>h
 | x::xs,vs,h=>by
  obtain⟨v,r,c,d,e⟩:=h;exact⟨v,r,c,d.mono a hw,ko.mono a hw xs r e⟩
def ko.snoc{F:Nat->Prop}{w:Z}{v:Y}{x:Cl}(hx:EP F w v x):∀ {xs:List Cl} {vs:List Y},ko F w vs xs->ko F w (vs++[v]) (xs++[x])
 | [],vs,h=>by
  have h:vs=[]:=h;subst h;exact⟨v,[],J,hx,J⟩
 | y::c,vs,h=>by
  obtain⟨u,r,rfl,a,b⟩:=h;exact⟨u,r++[v],J,a,ko.snoc hx b⟩
theorem cY.ak5(h:cY pb w w')(a:∀ b,F b->b≠pb):B4 F w w':=fun b _ _ c ht d=>(by grind [bI])
def SP.x(h:SP w pb tb T k vars d):∃ cap e f cs,
  w.heap[pb]?=aN #[.slice (O ⟨tb,k*3,V⟩) (T.length-k) (cap-k),.slice e vars.length f,zi d] 145/\T.length<=cap/\cap<=9223372036854775807/\T.length<=2001/\k<T.length /\
  w.heap[tb]?=aN cs 142/\k*3+3<=cs.size/\(cs.toList.drop (k*3)).take 3=[zi (tk T k).kind,aM ((tk T k).text),zi (tk T k).pos] /\
  cs[k*3]?=O (zi (tk T k).kind)/\cs[k*3+1]?=O (aM ((tk T k).text))/\cs[k*3+2]?=O (zi (tk T k).pos):=by
 obtain⟨tw,lt,kt,nv,⟨-,cs,t1,t2⟩,cap,vv,g,i,j,l⟩:=h;obtain⟨a,b,c⟩:=t2 k kt;obtain⟨e,f,rfl⟩:=gX l;have m:=(Array.getElem?_eq_some_iff.1 c).1;refine⟨cap,e,f,cs,j,g,i,tw.len,kt,t1,zo,?_,a,b,c⟩;apply List.ext_getElem?;grind
def SP.abP{x:Nat}{t:TypeId}{z:Nat×Nat}{o:Obj}(h:SP w pb tb T k vars d)
  (hx:w.heap[x]?=O (ae cs t z)) (ht:t≠9) (a:x≠pb) (b:tb<x):SP (bO w x o) pb tb T k vars d:=
 (by grind [jd,other])
def SP.abQ(h:SP w pb tb T k vars d)(a:Ext w w'):SP w' pb tb T k vars d:=h.ext a.ext
def SP.aFR(h:SP w pb tb T k vars d)
  (c:w.heap[pb]?=aN #[.slice (O ⟨tb,k*3,V⟩) (T.length-k) (cap-k),vv,zi d] 145) (a:T.length<=cap) (b:cap<=9223372036854775807) :
  SP (bO w pb (ae #[.slice (O ⟨tb,k*3,V⟩) (T.length-k) (cap-k),bH,zi d] 145)) pb tb T k [] d:=by
 obtain⟨tw,lt,kt,nv,⟨e,cs,t1,t2⟩,_⟩:=h;refine⟨tw,lt,kt,zs,⟨(by grind [jd,zQ.ext]),cs,yH,t2⟩,cap,bH,a,b,yH,a0z _ _ _ _⟩
theorem SP.onU(h:SP w pb tb T k vars d)
  (f:w.heap[pb]?=aN #[.slice (O ⟨tb,k*3,V⟩) (T.length-k) (cap-k),vv,zi d] 145) (hk:k+1<T.length) (a:k'=T.length-(k+1)) (b:so=cap-(k+1)) (c:mb=(k+1)*3) :
  SP (bO w pb (ae #[.slice (O ⟨tb,mb,V⟩) k' so,vv,zi d] 145)) pb tb T (k+1) vars d:=by
 subst a b c;refine h.set hk ((bz.refl _ _).bO (.inl fun _=>.inl J)) (fun g e i=>?_) yH;exact yH
def ak6(pb:Nat)(w:Z)(r:cg (List Cl))(e:Ending)(w':Z):Prop:=
 cY pb w w'/\match r with
 | .err c a=>mR c a w w' e
 | .ok cs _ _=>∃ v vs,e = ah v/\fD (Nu w w') w' 79 v vs/\ko (Nu w w') w' vs cs
def Wj(B:Nat)(w1:Z)(v:Y)(acc:List Cl):Prop:=
 ∃ xs,w1.ownsRow B 79 1 v acc.length xs/\ko (fun b=>B<=b/\b<w1.heap.size/\O b≠v.ownBlock) w1 xs acc
def aFU:(Tryz.prog.info? 79).map (fun i=>(i.zero,i.size,i.bytes))=O (O (aq V),1,8):=zk
def abR(d:w.ownsRow base 79 1 v n xs){a:Y}
  (f:w.heap[b]?=aN #[a] 79) (q:a.oneCell'=A)
  (r:n<=100000) (g:base<=w.heap.size) {K:Y->Z->Prop}
  (h:∀ v' w',w'.ownsRow base 79 1 v' (n+1) (xs++[a])->w.grownBy w' v.ownBlock->(v'.ownBlock=v.ownBlock\/∀ k,v'.ownBlock=O k->w.heap.size<=k)->K v' w') :
  WR a9Z (Builtin.append_ #[68,68] 68 #[v,cM b 1 m]) w K X:=by
 obtain⟨i,j,c⟩:=Option.map_eq_some_iff.1 aFU;simp only[Prod.mk.injEq] at c;obtain⟨l,o,p⟩:=c;refine ajh (m:=1) (t:=68) (e:=79) zk j l o p J zo d f J (fun u hu=>?_) zo zo g h;grind
theorem abS{l:Nat}(h:¬ cap=l):sliced (O ⟨b,o,V⟩) l pb cap n = .slice (O ⟨b,o+l*n,V⟩) (pb-l) (cap-l):=by
 unfold sliced;rw[bX h];simp [addr_add]
theorem ak7(h:cY pb w w'){size:Nat}(hu:w.ownsRow base e size v n xs)(d:pb<base)(he:e≠9):w'.ownsRow base e size v n xs:=by
 obtain⟨a,hu⟩:=hu;refine⟨a,?_⟩;rcases hu with hu | ⟨g,cap,cur,rfl,b,f,c⟩
 .exact yH
 .exact .inr ⟨g,cap,cur,J,b,(by grind [cY.bI]),c⟩
def aFV{size:Nat}{a:List Y}(h:w.ownsRow base e size v n xs)(b:w.ownsRow base e size v n a):xs=a:=by
 rcases h.2 with⟨c,d⟩| ⟨g1,o,f,c,_,g2,_,_,_,g3⟩
 .have g:=h.1;have i:=b.1;rw[d] at g i;grind
 .rcases b.2 with⟨j,_⟩| ⟨p,k,l,j,_,q,_,_,_,m⟩<;>grind
def Wj.more{acc:List Cl}{x:Cl}(h:Wj B w1 v acc)(j:cY pb w1 w2)(y:pb<B)(hx:EP (Nu w1 w2) w2 u x)(l:B<=w1.heap.size)
  (f:Ext w2 w3) (m:w3.ownsRow B 79 1 v acc.length xs) (n:W.ownsRow B 79 1 tv (acc.length+1) (xs++[u]))
  (o:w3.grownBy W v.ownBlock) (hv:tv.ownBlock=v.ownBlock\/∀ k,tv.ownBlock=O k->w3.heap.size<=k):Wj B W tv (acc++[x]):=by
 obtain⟨a,o1,o2⟩:=h;have p:=j.size;have q:=f.size;have r:=o.size;have s:w3.ownsRow B 79 1 v acc.length a:=jM f.ext (by grind [ak7]);have e:a=xs:=aFV s m;subst e;have lt:∀ k,v.ownBlock=O k->k<w1.heap.size:=fun k hk=>(o1.lt k hk).2;have c:∀ b t cs,O b≠v.ownBlock->b<w3.heap.size->w3.heap[b]?=aN cs t->W.heap[b]?=aN cs t:=
  (by grind [World.grownBy.block])
 have nv:∀ b,b<w3.heap.size->O b≠v.ownBlock->O b≠tv.ownBlock:=yH;refine⟨_,by rw[List.length_append];exact n,ko.snoc ?_ ?_⟩
 .refine hx.mono yH (fun b cs t g ht i=>?_);have d:=f.ext _ _ i;exact c b _ cs (fun e=>by have:=lt b e.symm;have:=g.1;omega) (bf d) d
 .refine ko.mono (F:=fun b=>B<=b/\b<w1.heap.size/\O b≠v.ownBlock) yH (fun b cs t g ht i=>?_) _ _ o2;have w:=j.bI i (by have:=g.1;omega) ht;have d:=f.ext _ _ w;exact c b _ cs g.2.2 (bf d) d
structure Gp(pb tb:Nat)(T:List P.Tok)(B:Nat)(w:Z)(q3 q:Nat)(nm:Bs)(r:cg Cl)(cont:List Ex->Bd->Nat->List Bs->Option (cg Cl))(w':Z):Prop where
 fr:cY pb w w'
 t3:∃ kd ps,w'.heap[q3]?=aN #[zi kd,aM nm,zi ps] 142
 st:∃ av bv l bd k vs,w'.heap[q]?=aN #[aM nm,av,bv,bH] 86 /\
  ln (fun b=>B<=b/\b<w'.heap.size/\b≠q) w' av l/\dJ (fun b=>B<=b/\b<w'.heap.size/\b≠q) w' bv bd/\SP w' pb tb T k vs 0/\cont l bd k vs=O r
def ala(h:SP w pb tb T k vars d)(s:Bs)(b:s.all P.digit=G) :
  Calls a9Z 49 #[pp pb,aM s] w fun e w'=>e = ah (.bool (ep T k s))/\SP w' pb tb T (if ep T k s=A then k+1 else k) vars d/\cY pb w w':=by
 by_cases hx:ep T k s=A
 .refine Calls.mono (uP h s hx) ?_;grind
 .have a:ep T k s=false:=zg;refine Calls.mono (p8 h s a b) ?_;rintro e w' ⟨rfl,rfl⟩;rw[bX hx,a];exact⟨J,h,bz.refl _ _⟩
def abU(h:SP w pb tb T k vars d)(s:Bs)(b:s.all P.digit=G){α:Type}(x:α){r:cg α}(hr:mZ T s x k vars=O r) :
  Calls a9Z 51 #[pp pb,aM s] w fun e w'=>cY pb w w' /\
   ((e = ah (ak #[])/\r = .ok x (k+1) vars/\SP w' pb tb T (k+1) vars d)\/(∃ c a,r = .err c a/\mR c a w w' e)):=by
 unfold mZ at hr;split at hr
 .rename_i hx;refine(RE h s hx).mono ?_;grind
 .rename_i hx;refine(RF h s zg b).mono ?_;grind
theorem Gp.step{q:Nat}{nm:Bs}{r:cg Cl}{a:List Ex->Bd->Nat->List Bs->Option (cg Cl)}(d:cY pb w w1)(c:cY pb w1 w2)
  (e:pb<cap/\cap<B/\B<=q) (t3:∃ kd ps,w1.heap[cap]?=aN #[zi kd,aM nm,zi ps] 142) {l:List Ex} {bd:Bd} {vs:List Bs}
  (g1:w1.heap[q]?=aN #[aM nm,av,tv,bH] 86)
  (g2:ln (fun b=>B<=b/\b<w1.heap.size/\b≠q) w1 av l) (g3:dJ (fun b=>B<=b/\b<w1.heap.size/\b≠q) w1 tv bd) (g4:SP w2 pb tb T k vs 0) (g5:a l bd k vs=O r):Gp pb tb T B w cap q nm r a w2:=by
 have:=c.size;obtain⟨kd,ps,t3⟩:=t3;have hm:∀ b,(fun b=>B<=b/\b<w1.heap.size/\b≠q) b->(fun b=>B<=b/\b<w2.heap.size/\b≠q) b:=yH;have hk:B4 (fun b=>B<=b/\b<w1.heap.size/\b≠q) w1 w2:=(by grind [cY.ak5]);exact⟨d.trans c,(by grind [t3,cY.bI]),av,tv,l,bd,k,vs,(by grind [cY.bI]),g2.mono hm hk.ll,dJ.mono hm hk.ll _ _ g3,g4,g5⟩
def aFW(h:SP w pb tb T 0 [] 0)(z:mF w tb) :
  Calls a9Z 46 #[pp pb] w (ak6 pb w (Ib T)):=by
 have hlt:=h.lt;have fW:=h.d2.2.2;refine avW ?_;refine⟨fun n t w2=>cY pb w w2/\∃ f k vs acc,n=f+1/\acc.length<=40/\EO T f k acc=O (Ib T)/\SP w2 pb tb T k vs 0/\Wj w.heap.size w2 (t 2) acc,
  ⟨_,bz.refl _ _,_,0,[],[],J,zs,ak4 T,h,[],a0z _ _ _ _,J⟩,?_⟩
 intro n t dd w2 hI;refine toPr ?_;obtain⟨hF,f,k,vs,acc,rfl,aUK,j,hP,eO⟩:=hI;have s12:=hF.size;cases f with
 | zero=>rw[EO] at j;cases j
 | succ f=>
 rw[EO] at j;obtain⟨cap,va,vc,cs,h3,js,rj,hlT,F7,g0,g1,g2,g3,g4,g5⟩:=hP.x;have l3:=bf h3;have e0:((0:Nat):Int)=0:=rfl;rw[e0] at h3;obtain⟨xs,o1,o2⟩:=id eO;obtain⟨ra,rc,hv⟩:=gX o1;have Sn:mF w2 tb:=z.fr hF hlt;by_cases uW:(tk T k).kind=0
 .rw[zip uW] at j;refine iJ h3 @g0 @g3 ?_;rw[<- a0g j];refine⟨hF,t 2,xs,J,EC o1 (fun b p=>⟨(o1.lt b p).1,(o1.lt b p).2⟩),ko.mono yH (fun b cs t _ _ z=>z) _ _ o2⟩
 .rw[bX uW] at j;have Wl:¬ (((tk T k).kind:Nat):Int)=0:=zo;have hnx:=hP.tw.next F7 uW
  refine dC h3 @g0 @g3 @g5 ?_;refine⟨fun _ w3=>w3=w2/\¬ acc.length=40,?_,?_⟩
  .by_cases H:acc.length=40
   .rw[zip H] at j;have aFX:(acc.length:Int)=40:=zo;refine cG hv ?_;refine(BI _ _ _ pb hP.sb).mono ?_;rintro e w3 ⟨i,xG,-⟩;have MC:=JX i s12;obtain⟨b,rfl,-,-⟩:=i;refine bD ?_;rw[<- a0g j];exact⟨hF.trans xG,MC⟩
   .have aFX:¬ (acc.length:Int)=40:=zo;refine cG hv ?_;omega
  .rintro _ w3 ⟨rfl,H⟩ _;rw[bX H] at j;cases g:Er T (tg T) k with
   | none=>rw[g] at j;cases j
   | some qc=>
   rw[g] at j;have hq5:=hP.aFR h3 js rj;have Sp:cY pb w3 (bO w3 pb (ae #[.slice (O ⟨tb,k*3,V⟩) (T.length-k) (cap-k),bH,zi 0] 145)):=(bz.refl _ _).bO (.inl fun _=>.inl J);have g05:(bO w3 pb (ae #[.slice (O ⟨tb,k*3,V⟩) (T.length-k) (cap-k),bH,zi 0] 145)).heap[tb]?=aN cs 142:=yH;refine iJ h3 @g0 @g2 ?_;refine⟨fun _ d=>(tk T k).kind=1/\cY pb w3 d/\SP d pb tb T k [] 0/\d.heap[w3.heap.size]?=aN #[zi (tk T k).kind,aM ((tk T k).text),zi (tk T k).pos] 142/\d.heap.size=w3.heap.size+1 /\
    (∀ b cs t,b<w3.heap.size->b≠pb->w3.heap[b]?=aN cs t->d.heap[b]?=aN cs t),?_,?_⟩
   .have B:Ext (bO w3 pb (ae #[.slice (O ⟨tb,k*3,V⟩) (T.length-k) (cap-k),bH,zi 0] 145)) (bO ((bO w3 pb (ae #[.slice (O ⟨tb,k*3,V⟩) (T.length-k) (cap-k),bH,zi 0] 145)).alloc (ae #[zi 0,aM [],zi 0] 142)) w3.heap.size (ae #[zi (tk T k).kind,aM ((tk T k).text),zi (tk T k).pos] 142)):=yF;have uY:=hq5.abQ B;by_cases jU:(tk T k).kind=1
    .have aFZ:(((tk T k).kind:Nat):Int)=1:=zo;refine cG @g2 ?_;refine⟨jU,Sp.trans B.toM,uY,fun b cs t p B6 z=>B.ext _ _ ?_⟩;rw[jd B6];exact z
    .have aFZ:¬ (((tk T k).kind:Nat):Int)=1:=zo;rw[Er,bX jU] at g;refine cG @g2 ?_;refine(OH uY).mono ?_;rintro e w7 ⟨i,y,-⟩;have MC:=JX (w:=w) i (by rw[uN,size_alloc,uN];omega);obtain⟨b,rfl,-,-⟩:=i;refine bD ?_;rw[<- a0g g] at j;simp only[cg.bind,aZ9] at j;rw[<- j];exact⟨hF.trans ((Sp.trans B.toM).trans y),MC⟩
   .rintro _ d ⟨jU,ru,uY,t6,s6,k6⟩ _;obtain⟨Wm,I,K,cs6,L,aUN,aUO,-,-,g06,-⟩:=uY.x;rw[e0] at L;have l6:=bf L;have lt6:=bf t6;have sZ:¬ Wm-k=1:=zo;have lp6:pb<d.heap.size:=l6;have hB6:w.heap.size<=w3.heap.size:=s12;simp (disch:=first|assumption|omega|simp only[zS]<;>omega|decide) only[Pr,PX,PC,NX,ends,Ew,ot,jg,Nat.reduceAdd,Nat.reduceMul,Nat.reduceLeDiff,Nat.reduceEqDiff,Int.reduceToNat,Int.reduceAdd,Int.reduceLT,Int.reduceLE,↓reduceIte,forall_const,eq_self,Z8,jx,ZJ,ZK,Oy,Oz,FU,FV,ZM,ZN,ZO,ZP,ZQ,ZR,ZS,ZT,ZU,ZX,ZY,ZV,ZW,Z2,Z3,Z4,Z5,VA,ZZ,Z9,aaa,aaH,aab,aac,aad,aae,LZ,qG,pX,jd,Ro,BH,uN,size_alloc,Rt,aak,aaf,aag,aah,aai,aaj,aal,aam,aan,aao,aap,aaq,aar,aas,aat,aau,aav,aaw,aax,aay,aaz,aaA,aaB,aaC,VB,Z7,Vu,ZG,ZH,Int.toNat_natCast,Option.isNone_none,Option.isNone_some,List.getElem?_toArray,List.getElem?_cons_zero,List.getElem?_cons_succ,List.setIfInBounds_toArray,List.set_cons_zero,List.set_cons_succ,List.size_toArray,List.length_cons,List.length_nil,List.drop_zero,List.drop_succ_cons,List.take_succ_cons,List.take_zero,List.take_nil,List.drop_nil,List.all_cons,List.all_nil,Bool.and_true,Bool.true_and,Nat.zero_add,Nat.add_zero,Nat.mul_one,and_self,and_true,true_and,decide_true,decide_false,Bool.not_true,Bool.not_false,not_true_eq_false,not_false_eq_true,aiJ,aiL,aiM,aiO,aiQ,aiR,aiS,aiT,aiU,aiV,aiW,aiX,aiY,aiZ,ai0,ai1,ai3,ai4,ai5,ai6,ai8,ajb,ajc,ajd,aje,ajf,L,t6,abS];have eq3:(bO w3 pb (ae #[.slice (O ⟨tb,k*3,V⟩) (T.length-k) (cap-k),bH,zi 0] 145)).heap.size=w3.heap.size:=yH;have eq:((bO d pb (ae #[.slice (O ⟨tb,k*3+3,V⟩) (T.length-k-1) (Wm-k-1),.slice I 0 K,zi 0] 145)).alloc (ae #[.int .u8 103,aM [116,114,117,101],bH,bH] 149)).heap.size=d.heap.size+1:=yH;have hlq:pb<w3.heap.size/\w3.heap.size<d.heap.size/\d.heap.size<=d.heap.size+1:=yH;have aUT:Er T (tg T) k=O qc:=g;have aUU:∀ {M:Z},cY pb w3 M->mF M tb:=(by grind [mF.fr,bz.trans]);have Sq:∀ {M w':Z} {e:Ending} {c a:Nat},cY pb w3 M->cY pb M w'->mR c a M w' e->qc = .err c a->ak6 pb w (Ib T) e w':=by
     intro M w' e c a ES yN i hqc;rw[hqc] at j;simp only[cg.bind,aZ9] at j;rw[<- j];exact⟨(by grind [bz.trans]),JX i (by have:=ES.size;omega)⟩
    try rw[eq3]
    try rw[eq]
    refine⟨fun _ w'=>Gp pb tb T d.heap.size w3 w3.heap.size (d.heap.size+1) (tk T k).text qc (abz T (tg T) (tk T k).text (tk T k).pos) w',?_,?_⟩
    .have aUV:SP d pb tb T k [] 0:=uY;obtain⟨q,qN⟩:∃ q,q=((bO d pb (ae #[.slice (O ⟨tb,k*3+3,V⟩) (T.length-k-1) (Wm-k-1),.slice I 0 K,zi 0] 145)).alloc (ae #[.int .u8 103,aM [116,114,117,101],bH,bH] 149)).alloc
       (ae #[aM ((tk T k).text),bH,pp d.heap.size,bH] 86):=yH
     have N:SP q pb tb T (k+1) [] 0:=by
      have C:SP (bO d pb (ae #[.slice (O ⟨tb,k*3+3,V⟩) (T.length-k-1) (Wm-k-1),.slice I 0 K,zi 0] 145)) pb tb T (k+1) [] 0:=
       (by grind [SP.onU])
      rw[qN];exact C.abQ (((bz.refl _ _).alloc _).alloc _)
     have D:cY pb w3 q:=by
      rw[qN];exact((ru.bO (.inl fun _=>.inl J)).alloc _).alloc _
     have tA:q.heap[w3.heap.size]?=aN #[zi (tk T k).kind,aM ((tk T k).text),zi (tk T k).pos] 142:=by
      exact yH
     have bA:q.heap[d.heap.size]?=aN #[.int .u8 103,aM [116,114,117,101],bH,bH] 149:=by
      exact yH
     have cA:q.heap[d.heap.size+1]?=aN #[aM ((tk T k).text),bH,pp d.heap.size,bH] 86:=by
      exact yH
     have sA:q.heap.size=d.heap.size+2:=yH;have nE:dJ (fun b=>d.heap.size<=b/\b<q.heap.size/\b≠d.heap.size+1) q (pp d.heap.size) Oo:=Dv yH bA H7 J2;show CA _ _ _ _ _ _;rw[<- qN];refine(ala N [40] zd).mono ?_;rintro e wB ⟨rfl,Wn,O0⟩;rw[Er,zip jU] at g;have sB:=O0.size;refine bD ?_;by_cases E:ep T (k+1) [40]=A
     .rw[zip E] at g Wn;rw[E,Oy];have tB:=O0.bI tA zo zd;have cB:=O0.bI cA zo zd;cases P:oX T (tg T) (k+1+1) [] 0 (tk T k).pos [] with
      | none=>rw[P] at g;simp [cg.bind] at g
      | some qa=>
      rw[P] at g;refine((aCD _).go _ Wn zo P).mono ?_;intro e wC Ss;cases qa with
      | err c a=>
       obtain⟨i,O1,-⟩:=Ss;simp only[cg.bind,aZ9] at g;have kR:=Sq (D.trans O0) O1 i g.symm;obtain⟨b,rfl,-,-⟩:=i;refine bD ?_;omega
      | ok l k2 Su=>
       obtain⟨v,rfl,jZ,hPC,O1⟩:=Ss;simp only[cg.bind] at g;have sC:=O1.size;have tC:=O1.bI tB zo zd;have cC:=O1.bI cB zo zd;have lcC:=bf cC;obtain⟨Q,R,ac,rfl⟩:∃ a n c,v = .slice a n c:=by
        obtain⟨uS,h1,-⟩:=jZ;obtain⟨a,n,c,h,-⟩:=h1.shape;exact⟨a,n,c,h⟩
       refine cG @cC ?_;obtain⟨m,S⟩:=b9 (bO wC (d.heap.size+1) (ae #[aM ((tk T k).text),.slice Q R ac,pp d.heap.size,bH] 86));rw[<- S];have hPD:SP m pb tb T k2 Su 0:=by rw[S];exact hPC.abP cC zd zo zo
       have U:cY pb w3 m:=by rw[S];exact((D.trans O0).trans O1).bO (.inr zo)
       have tD:m.heap[w3.heap.size]?=aN #[zi (tk T k).kind,aM ((tk T k).text),zi (tk T k).pos] 142:=yH;have cD:m.heap[d.heap.size+1]?=aN #[aM ((tk T k).text),.slice Q R ac,pp d.heap.size,bH] 86:=yH;have sD:m.heap.size=wC.heap.size:=yH;have kD:B4 (fun b=>d.heap.size<=b/\b≠d.heap.size+1) wC m:=fun b cs t p _ z=>yH;have alh:dJ (fun b=>d.heap.size<=b/\b<m.heap.size/\b≠d.heap.size+1) m (pp d.heap.size) Oo:=
        Dv yH (by grind [jd,cY.bI]) H7 J2
       have ali:ln (fun b=>d.heap.size<=b/\b<m.heap.size/\b≠d.heap.size+1) m (.slice Q R ac) l:=
        jZ.mono yH yH
       cases Gq:mZ T [41] l k2 Su with
       | none=>rw[Gq] at g;cases g
       | some qm=>
       rw[Gq] at g;refine(abU hPD [41] zd l Gq).mono ?_;rintro e wE ⟨W,(⟨rfl,X,Wo⟩| ⟨c,a,X,i⟩)⟩
       .rw[X] at g;refine bD ?_;exact Gp.step U W hlq yH cD ali alh Wo g
       .rw[X] at g;simp only[aZ9] at g;have kR:=Sq U W i g.symm;obtain⟨b,rfl,-,-⟩:=i;refine bD ?_;omega
     .rw[bX E] at g Wn;have ti:ep T (k+1) [40]=false:=zg;rw[ti,Oz];exact Gp.step D O0 hlq yH cA H7 nE Wn g
    .rintro _ w7 r _;obtain⟨kd7,ps7,t7⟩:=r.t3;have y:=r.fr;obtain⟨av,bv,l,bd,k7,F,g7,ga,gb,C,o⟩:=r.st;generalize (tk T k).text=nm at *;generalize (tk T k).pos=pos at *;refine⟨fun _ w'=>Gp pb tb T d.heap.size w3 w3.heap.size (d.heap.size+1) nm qc (V3 T (tg T) nm) w',?_,?_⟩
     .refine⟨fun s w'=>w'=w7/\s 72 = .bool (decide (0<=jK nm\/nm=[109,111,100])),?_,?_⟩
      .refine cG @t7 ?_;refine(Mx _).mono ?_;rintro e w8 ⟨rfl,rfl⟩;refine dy @ZL @t7 ?_;grind
      .rintro s8 w8 ⟨rfl,hs8⟩ _;rw[hs8];by_cases p:0<=jK nm\/nm=[109,111,100]
       .rw[FU _ _ p];rw[abz,zip p] at o;refine(BI _ _ _ pb C.sb).mono ?_;rintro e w9 ⟨i,kq,-⟩;have kR:=Sq y kq i (a0g o).symm;obtain⟨b,rfl,-,-⟩:=i;refine bD ?_;omega
       .rw[FV _ _ p];rw[abz,bX p] at o;grind [Gp.step,bz.refl]
     .clear o C gb ga g7 y t7 r;rintro _ w8 r _;obtain⟨kd7,ps7,t7⟩:=r.t3;have y:=r.fr;obtain⟨av,bv,l,bd,k7,F,g7,ga,gb,C,o⟩:=r.st;refine⟨fun _ w'=>Gp pb tb T d.heap.size w3 w3.heap.size (d.heap.size+1) nm qc (fun l bd k vs=>mZ T [46] ⟨nm,l,bd,vs⟩ k vs) w',?_,?_⟩
      .refine(ala C [58,45] zd).mono ?_;rintro e w9 ⟨rfl,hP9,kq⟩;refine bD ?_;by_cases E:ep T k7 [58,45]=A
       .rw[V3,zip E] at o;rw[zip E] at hP9;rw[E,Oy];cases p:mw T (tg T) (k7+1) F 0 with
        | none=>rw[p] at o;simp [cg.bind] at o
        | some qb=>
        rw[p] at o;refine((ak0 _).go hP9 (by grind [bz.trans]) zo p).mono ?_;intro e q Ss;cases qb with
        | err c a=>
         obtain⟨i,D,-⟩:=Ss;simp only[cg.bind,aZ9] at o;have kR:=Sq (y.trans kq) D i o.symm;obtain⟨b,rfl,-,-⟩:=i;refine bD ?_;omega
        | ok bd2 k2 Su=>
         obtain⟨v,rfl,jZ,N,D⟩:=Ss;simp only[cg.bind] at o;have s9:=kq.size;have t9:=cY.bI (kq.trans D) t7 zo zg;have g9:=cY.bI (kq.trans D) g7 zo zg;have lg9:=bf g9;have lg7:=bf g7;obtain⟨vb,rfl,yO⟩:=jZ.shape;refine cG @g9 ?_;obtain⟨m,S⟩:=b9 (bO q (d.heap.size+1) (ae #[aM nm,av,pp vb,bH] 86));rw[<- S];have hPD:SP m pb tb T k2 Su 0:=by rw[S];exact N.abP g9 zd zo zo
         have U:cY pb w3 m:=by rw[S];exact((y.trans kq).trans D).bO (.inr zo)
         have tD:m.heap[w3.heap.size]?=aN #[zi kd7,aM nm,zi ps7] 142:=yH;have cD:m.heap[d.heap.size+1]?=aN #[aM nm,av,pp vb,bH] 86:=yH;have sD:m.heap.size=q.heap.size:=yH;have kD:B4 (fun b=>d.heap.size<=b/\b≠d.heap.size+1) q m:=fun b cs t p _ z=>yH;have k9:B4 (fun b=>d.heap.size<=b/\b≠d.heap.size+1) w8 q:=(by grind [cY.ak5,bz.trans]);have ali:ln (fun b=>d.heap.size<=b/\b<m.heap.size/\b≠d.heap.size+1) m av l:=
          ga.mono yH (by grind [B4.ll])
         have alh:dJ (fun b=>d.heap.size<=b/\b<m.heap.size/\b≠d.heap.size+1) m (pp vb) bd2:=
          dJ.mono yH yH _ _ jZ
         grind [Gp.step,bz.refl]
       .rw[V3,bX E] at o;rw[bX E] at hP9;have ti:ep T k7 [58,45]=false:=zg;rw[ti,Oz];grind [Gp.step]
      .clear o C gb ga g7 y t7 r;rintro _ w9 r _;obtain⟨kd7,ps7,t7⟩:=r.t3;have y:=r.fr;obtain⟨av,bv,l,bd,k7,F,g7,ga,gb,C,o⟩:=r.st;refine(abU C [46] zd _ o).mono ?_;rintro e wE ⟨W,(⟨rfl,X,Wo⟩| ⟨c,a,X,i⟩)⟩
       .obtain⟨aU0,vaE,vcE,csE,h3E,-⟩:=Wo.x;have sE:=W.size;have gE:=W.bI g7 zo zd;have lgE:=bf gE;have lg7:=bf g7;obtain⟨vb,rfl,yO⟩:=gb.shape;obtain⟨Q,R,ac,rfl⟩:∃ a n c,av = .slice a n c:=by
         obtain⟨uS,h1,-⟩:=ga;obtain⟨a,n,c,h,-⟩:=h1.shape;exact⟨a,n,c,h⟩
        refine dy h3E @gE ?_;obtain⟨u,Wq⟩:=b9 (bO wE (d.heap.size+1) (ae #[aM nm,.slice Q R ac,pp vb,.slice vaE F.length vcE] 86));rw[<- Wq];have aGg:cY pb w3 wE:=y.trans W;have hPG:SP u pb tb T (k7+1) F 0:=by rw[Wq];exact Wo.abP gE zd zo zo
        have acd:cY pb w3 u:=by rw[Wq];exact aGg.bO (.inr zo)
        have gG:u.heap[d.heap.size+1]?=aN #[aM nm,.slice Q R ac,pp vb,.slice vaE F.length vcE] 86:=yH;have sG:u.heap.size=wE.heap.size:=yH;have kG:B4 (fun b=>d.heap.size<=b/\b≠d.heap.size+1) w9 u:=fun b cs t p ht z=>by
         grind [jd,cY.bI]
        have aGj:ln (fun b=>d.heap.size<=b/\b<u.heap.size) u (.slice Q R ac) l:=
         ga.mono yH (by grind [B4.ll])
        have bdG:dJ (fun b=>d.heap.size<=b/\b<u.heap.size) u (pp vb) bd:=
         dJ.mono yH (by grind [B4.ll]) _ _ gb
        rw[X] at j;simp only[cg.bind] at j;have clG:EP (fun b=>d.heap.size<=b/\b<u.heap.size) u (pp (d.heap.size+1)) ⟨nm,l,bd,F⟩:=
         ⟨d.heap.size+1,_,_,vaE,vcE,J,yH,gG,aGj,bdG⟩
        have B:Ext u (u.alloc (ae #[pp (d.heap.size+1)] 79)):=yF;have Il:=jM B.ext (ak7 acd (hv ▸ o1) zo zd);rw[hv];refine abR Il (qG (by rw[Wq,uN])) J zo (by have:=B.size;omega) ?_;intro v' jD R7 pw AZ;have vd:cY pb w jD:=((hF.trans acd).trans B.toM).grow pw (fun kk nA=>(Il.lt kk nA).1);refine⟨f+1,zo,vd,f,k7+1,F,acc++[⟨nm,l,bd,F⟩],J,zg,j,(hPG.abQ B).OK Il zg zo pw,?_⟩;rw[hv] at eO;exact eO.more acd zo (clG.mono yH (fun b cs t _ _ z=>z)) zo B Il R7 pw AZ
       .have kR:=Sq y W i X;obtain⟨b,rfl,-,-⟩:=i;refine bD ?_;omega
open Go.Proofs.YtoegidfbnkaabaaGreatDoor.Sx
section
variable{p0 p1 p2 p3 p4 p5 p6 p7:Y}{w:Z}{R:Ending->Z->Prop}
def aGm:=cy w R [p0,p1] (gc [] [] []) func45
def aGn:=cy w R [p0,p1] (gc [] [] []) func58
end
def ace(w:Z):(Instr.typeAssert ai 20 73 A).run a9Z w = .ok (ak #[aq V,.bool G]) w:=zk
def acf(v:Y)(w:Z):(Instr.typeAssert (aj 73 v) 20 73 A).run a9Z w = .ok (ak #[v,.bool A]) w:=zk
def aGo(v4 v5:Y)(w:Z):CallsD a9Z 83 #[v4,v5] .returning w fun e u' w'=>e = ah (ak #[])/\u' = .returning/\w'=w:=by
 refine callsD_of_wpS func83 J fun Ak cs hu=>?_;apply wpS_seq;apply wpS_region;simp [wpOpsS,go_sem,recoverD,hu,ntmps83,a0R,ace];apply wpS_seq;apply wpS_region;simp [wpOpsS,go_sem,recoverD,hu,ntmps83,a0R];refine wpS_cond (t:=false) (by simp [Act.eval]) ?_;simp only[Bool.false_eq_true,if_false];refine wpS_of_wp (wp_skip ?_);cases Ak;simp_all [bodyPostS,results,Tryz.results83]
def aGp(b4 b5:Nat)(o4 o5:Y)(v:Y)(xH:List PanicEntry)(w:Z)(h4:w.cell? ⟨b4,0,V⟩=O o4)(z4:w.frozen? ⟨b4,0,V⟩=G)
  (h5:(w.setCell ⟨b4,0,V⟩ bH).cell? ⟨b5,0,V⟩=O o5) (z5:(w.setCell ⟨b4,0,V⟩ bH).frozen? ⟨b5,0,V⟩=G) :
  CallsD a9Z 83 #[pp b4,pp b5] (.panicking ({ v:=aj 73 v,recovered:=false }::xH)) w fun e u' w'=>
   e = ah (ak #[])/\u' = .panicking ({ v:=aj 73 v,recovered:=true }::xH)/\w'=(w.setCell ⟨b4,0,V⟩ bH).setCell ⟨b5,0,V⟩ (aj 73 v):=by
 refine callsD_of_wpS func83 J fun Ak cs hu=>?_;apply wpS_seq;apply wpS_region;simp [wpOpsS,go_sem,recoverD,hu,ntmps83,a0R,acf];apply wpS_seq;apply wpS_region;simp [wpOpsS,go_sem,recoverD,hu,ntmps83,a0R];refine wpS_cond (t:=true) (by simp [Act.eval]) ?_;simp only[if_true];apply wpS_seq;apply wpS_region;simp [wpOpsS,go_sem,recoverD,hu,ntmps83,a0R];apply wpS_region;simp [wpOpsS,go_sem,recoverD,hu,ntmps83,a0R,h4,z4,h5,z5];simp [bodyPostS,results,Tryz.results83]
def aGq(v4 v5:Y)(w:Z):CallsD a9Z 90 #[v4,v5] .returning w fun e u' w'=>e = ah (ak #[])/\u' = .returning/\w'=w:=by
 refine callsD_of_wpS func90 J fun Ak cs hu=>?_;apply wpS_seq;apply wpS_region;simp [wpOpsS,go_sem,recoverD,hu,ntmps90,a0R,ace];apply wpS_seq;apply wpS_region;simp [wpOpsS,go_sem,recoverD,hu,ntmps90,a0R];refine wpS_cond (t:=false) (by simp [Act.eval]) ?_;simp only[Bool.false_eq_true,if_false];refine wpS_of_wp (wp_skip ?_);cases Ak;simp_all [bodyPostS,results,Tryz.results90]
def aGr(b4 b5:Nat)(o4 o5:Y)(v:Y)(xH:List PanicEntry)(w:Z)(h4:w.cell? ⟨b4,0,V⟩=O o4)(z4:w.frozen? ⟨b4,0,V⟩=G)
  (h5:(w.setCell ⟨b4,0,V⟩ (aq V)).cell? ⟨b5,0,V⟩=O o5) (z5:(w.setCell ⟨b4,0,V⟩ (aq V)).frozen? ⟨b5,0,V⟩=G) :
  CallsD a9Z 90 #[pp b4,pp b5] (.panicking ({ v:=aj 73 v,recovered:=false }::xH)) w fun e u' w'=>
   e = ah (ak #[])/\u' = .panicking ({ v:=aj 73 v,recovered:=true }::xH)/\w'=(w.setCell ⟨b4,0,V⟩ (aq V)).setCell ⟨b5,0,V⟩ (aj 73 v):=by
 refine callsD_of_wpS func90 J fun Ak cs hu=>?_;apply wpS_seq;apply wpS_region;simp [wpOpsS,go_sem,recoverD,hu,ntmps90,a0R,acf];apply wpS_seq;apply wpS_region;simp [wpOpsS,go_sem,recoverD,hu,ntmps90,a0R];refine wpS_cond (t:=true) (by simp [Act.eval]) ?_;simp only[if_true];apply wpS_seq;apply wpS_region;simp [wpOpsS,go_sem,recoverD,hu,ntmps90,a0R];apply wpS_region;simp [wpOpsS,go_sem,recoverD,hu,ntmps90,a0R,h4,z4,h5,z5];simp [bodyPostS,results,Tryz.results90]
namespace P
def program(s:Bs):cg (List Cl):=
 if 2000<s.length then .err 1 0 else match lex s with
 | .inl i=>.err 2 i
 | .inr T=>Ib T
def rv{α:Type}(g:List Tok->cg α)(s:Bs):cg α:=if 2000<s.length then .err 1 0 else match lex s with
 | .inl i=>.err 2 i
 | .inr T=>g T
def Gr(T:List Tok):cg Ex:=
 match jo T (tg T) 0 0 [] 0 with
 | some (.ok x k vs)=>if (tk T k).kind=0 then .ok x k vs else .err 2 (tk T k).pos
 | some (.err e a)=>.err e a
 | none=>.err 0 0
end P
structure Sv(T:List P.Tok):Prop extends TW T where
 sg:∀ u∈T,u.kind=4->u.text=[46]\/u.text∈oo
theorem Sv.of(h:Gg n T)(a:n<=2000):Sv T:=
 { len:=by have:=h.len;omega,last:=h.last,kind:=fun u hu=>(h.tok u hu).1,digits:=fun u hu=>(h.tok u hu).2.1,words:=fun u hu=>(h.tok u hu).2.2.1,vars:=fun u hu=>(h.tok u hu).2.2.2.1,sg:=fun u hu=>(h.tok u hu).2.2.2.2 }
def O2(h:P.lex s = .inr T):Gg s.length T:=R5 _ _ _ _ (by rw[OT,h])
theorem zQ.up(h:zQ w B)(a:B<=B'):zQ w B':=
 ⟨a0E h.lt a,(by grind [a0E,Da])⟩
theorem mF.up(h:mF w B)(a:B<=B'):mF w B':=⟨a0E h.lt a,h.cell⟩
structure Wr(w:Z):Prop where
 Da:zQ w w.heap.size
 cmp:mF w w.heap.size
 sig:Mz w
def aGs(h:res w) :
  LV a9Z res R [{ target:=.fn (.func 83) #[tv,vv],args:=#[]++#[] }] .returning w:=by
 refine BG zk zs ((aGo tv vv w).mono ?_);rintro e a w' ⟨rfl,rfl,rfl⟩;exact h
def aGt(a:w.heap[pb]?=aN #[o4] 68)
  (d:w.heap[cap]?=aN #[o5] 57) (f:pb≠cap)
  (h:res (bO (bO w pb (ae #[bH] 68)) cap (ae #[aj 73 v] 57))) :
  LV a9Z res R [{ target:=.fn (.func 83) #[pp pb,pp cap],args:=#[]++#[] }]
   (.panicking [{ v:=aj 73 v,recovered:=false }]) w:=by
 have b:w.setCell ⟨pb,0,V⟩ bH=bO w pb (ae #[bH] 68):=uO a _;have c:(bO w pb (ae #[bH] 68)).heap[cap]?=aN #[o5] 57:=by
  exact yH
 refine BG zk zs ((aGp pb cap o4 o5 v [] w (by grind [a0O]) (jL a 0) (by grind [a0O]) (by grind [jL])).mono ?_);rintro e g w' ⟨rfl,rfl,rfl⟩;rw[b,uO c];exact h
def SP.fresh(b:Gg n T)(c:n<=2000)(ht:w.heap[tb]?=aN iC 142)
  (g:iC.toList.take (T.length*3)=BY T) (d:zQ w tb) (hlt:tb<pb) (e:T.length<=cap) (f:cap<=9223372036854775807)
  (h:w.heap[pb]?=aN #[cM tb T.length cap,bH,zi 0] 145):SP w pb tb T 0 [] 0:=by
 have a:=Sv.of b c;have k:∀ i,i<T.length*3->iC[i]?=(BY T)[i]?:=zg;refine⟨a.toTW,hlt,a.toTW.pos,zs,⟨d,iC,ht,fun j l=>?_⟩,cap,bH,e,f,yH,a0z _ _ _ _⟩;grind [akB]
def Wt(w:Z)(s:Bs)(e:Ending)(w':Z):Prop:=
 Ext w w'/\match P.program s with
 | .err c a=>∃ b,e = ah (ak #[.slice V 0 0,aj 73 (aq (O ⟨b,0,V⟩))])/\w'.heap[b]?=O (ae #[.int .i64 c,.int .i64 a] 77 (0,0))
 | .ok cs _ _=>∃ v vs,e = ah (ak #[v,ai])/\fD (Nu w w') w' 79 v vs/\ko (Nu w w') w' vs cs
def acg{d:Z}{a:Nat}(i:P.program s = .err c a)(j:Ext w d)(q4:d.heap[w.heap.size]?=aN #[o4] 68)
  (e:d.heap[w.heap.size+1]?=aN #[o5] 57) (k:d.heap[b]?=aN #[zi c,zi a] 77) (l:w.heap.size+2<=b) :
  LV a9Z (fun d=>RD a9Z (a0o 68 (pp w.heap.size)) d (fun r=>RD a9Z (a0o 57 (pp (w.heap.size+1))) d
    (fun f=>Wt w s (ah (ak #[r,f])) d) NX) NX) (Wt w s)
   [{ target:=.fn (.func 83) #[pp w.heap.size,pp (w.heap.size+1)],args:=#[]++#[] }]
   (.panicking [{ v:=aj 73 (pp b),recovered:=false }]) d:=by
 refine aGt q4 e zo ?_;have m:=bf q4;have n:=bf e;have g:(bO (bO d w.heap.size (ae #[bH] 68)) (w.heap.size+1) (ae #[aj 73 (pp b)] 57)).heap[w.heap.size]?=aN #[bH] 68:=by
  exact yH
 have h:(bO (bO d w.heap.size (ae #[bH] 68)) (w.heap.size+1) (ae #[aj 73 (pp b)] 57)).heap[w.heap.size+1]?=aN #[aj 73 (pp b)] 57:=by
  exact yH
 refine dy @g @h ?_;refine⟨yF,?_⟩;exact yH
def aGu(s:Bs)(w:Z)(S:s.length<=100000)(u:Wr w) :
  Calls a9Z 45 #[aM s,.func (.func 46) #[] #[]] w (Wt w s):=by
 refine aGm ?_;refine bD ?_;obtain⟨l,U⟩:=b9 ((w.alloc (ae #[bH] 68)).alloc (ae #[ai] 57));have sA:l.heap.size=w.heap.size+2:=yH;have W:Ext w l:=yF;have x:l.heap[w.heap.size]?=aN #[bH] 68:=yH;have y:l.heap[w.heap.size+1]?=aN #[ai] 57:=yH;rw[size_alloc,<- U];refine(akD s l S (u.sig.ext W)).mono ?_;rintro e w1 ⟨d,f⟩;have s1:=d.size;by_cases m:2000<s.length
 .rw[zip m] at f;obtain⟨b,rfl,p,H⟩:=f;exact acg (by rw[P.program,zip m]) yF (d.ext _ _ x) (d.ext _ _ y) p zo
 rw[bX m] at f;cases hx:P.lex s with
 | inl i=>
  rw[hx] at f;obtain⟨b,rfl,p,H⟩:=f;exact acg (by rw[P.program,bX m,hx]) yF (d.ext _ _ x) (d.ext _ _ y) p zo
 | inr T=>
  rw[hx] at f;obtain⟨v,rfl,z⟩:=f;have I:=O2 hx;have X:0<T.length:=(Sv.of I zo).toTW.pos;obtain⟨sQ,z⟩:=z;rcases z with⟨-,h0⟩| ⟨tb,cap,cur,rfl,Gi,B0,EL,tZ,ht5,Kb⟩
  .omega
  refine bD ?_;have B:=bf B0;obtain⟨g,C⟩:=b9 (w1.alloc (ae #[cM tb T.length cap,bH,zi 0] 145));have D:Ext w1 g:=yF;have sP:g.heap.size=w1.heap.size+1:=yH;have bP:g.heap[w1.heap.size]?=aN #[cM tb T.length cap,bH,zi 0] 145:=yH;rw[<- C];have K:Ext w g:=yF;have nX:SP g w1.heap.size tb T 0 [] 0:=SP.fresh I zo yH Kb ((u.Da.ext fun b o _=>K.ext b o).up zo) B EL (by grind [maxLen]) bP;refine⟨zk,(aFW nX ((u.cmp.ext fun b o _=>K.ext b o).up zo)).mono ?_⟩;have L:P.program s=Ib T:=by rw[P.program,bX m,hx]
  rintro e w3 ⟨q,r⟩;have s3:=q.size;have M:Ext w1 w3:=⟨q.os.trans D.os,q.tape.trans D.tape,q.output.trans D.output,zo,fun b o N _=>q.block b o yH (by
   have:=bf N;rintro (h | ⟨h,_⟩)<;>omega)⟩
  have E:Ext w w3:=yF;have q4:=M.ext _ _ (d.ext _ _ x);have F:=M.ext _ _ (d.ext _ _ y);cases hr:Ib T with
  | err c a=>
   rw[hr] at r;obtain⟨b,rfl,p,H⟩:=r;exact acg (L.trans hr) E q4 F p zo
  | ok cs k uS=>
   rw[hr] at r;obtain⟨v,vs,rfl,g1,g2⟩:=r;obtain⟨Q,sn,R,rfl⟩:∃ a n c,v = .slice a n c:=by rcases g1 with⟨-,rfl⟩| ⟨b,cs',rfl,-⟩<;>exact zg
   have l4:=bf q4;have l5:=bf F;refine dy @q4 @F ?_;refine aGs ?_;obtain⟨j,ud⟩:=b9 (bO (bO w3 w.heap.size (ae #[.slice Q sn R] 68)) (w.heap.size+1) (ae #[ai] 57));have k4:j.heap[w.heap.size]?=aN #[.slice Q sn R] 68:=yH;have k5:j.heap[w.heap.size+1]?=aN #[ai] 57:=yH;have hz:∀ b o,b≠w.heap.size->b≠w.heap.size+1->w3.heap[b]?=O o->j.heap[b]?=O o:=yH;have Wu:Ext w j:=yF;have sz:j.heap.size=w3.heap.size:=yH;rw[<- ud];refine dy @k4 @k5 ?_;refine⟨Wu,?_⟩;rw[L,hr];have hf:∀ b,Nu g w3 b->Nu w j b:=zg;exact⟨_,vs,J,(by grind [fD.mono]),g2.mono hf (fun b cs t N _ ho=>yH)⟩
def aGx(h:res w) :
  LV a9Z res R [{ target:=.fn (.func 90) #[tv,vv],args:=#[]++#[] }] .returning w:=by
 refine BG zk zs ((aGq tv vv w).mono ?_);rintro e a w' ⟨rfl,rfl,rfl⟩;exact h
def aGy(a:w.heap[pb]?=aN #[o4] 79)
  (d:w.heap[cap]?=aN #[o5] 57) (f:pb≠cap)
  (h:res (bO (bO w pb (ae #[aq V] 79)) cap (ae #[aj 73 v] 57))) :
  LV a9Z res R [{ target:=.fn (.func 90) #[pp pb,pp cap],args:=#[]++#[] }]
   (.panicking [{ v:=aj 73 v,recovered:=false }]) w:=by
 have b:w.setCell ⟨pb,0,V⟩ (aq V)=bO w pb (ae #[aq V] 79):=uO a _;have c:(bO w pb (ae #[aq V] 79)).heap[cap]?=aN #[o5] 57:=by
  exact yH
 refine BG zk zs ((aGr pb cap o4 o5 v [] w (by grind [a0O]) (jL a 0) (by grind [a0O]) (by grind [jL])).mono ?_);rintro e g w' ⟨rfl,rfl,rfl⟩;rw[b,uO c];exact h
def acm{α:Type}(I:(Nat->Prop)->Z->Nat->α->List Bs->Prop)(pb:Nat)(w:Z)(r:cg α)(e:Ending)(w':Z):Prop:=
 cY pb w w'/\match r with
 | .err c a=>mR c a w w' e
 | .ok x _ vs=>∃ b,e = ah (aq (O ⟨b,0,V⟩))/\I (Nu w w') w' b x vs
def Sz{α:Type}(I:(Nat->Prop)->Z->Nat->α->List Bs->Prop)(w:Z)(r:cg α)(e:Ending)(w':Z):Prop:=
 Ext w w'/\match r with
 | .err c a=>∃ b,e = ah (ak #[aq V,aj 73 (aq (O ⟨b,0,V⟩))])/\w'.heap[b]?=O (ae #[.int .i64 c,.int .i64 a] 77 (0,0))
 | .ok x _ vs=>∃ b,e = ah (ak #[aq (O ⟨b,0,V⟩),ai])/\I (Nu w w') w' b x vs
def acn{α:Type}{I:(Nat->Prop)->Z->Nat->α->List Bs->Prop}{r:cg α}{d:Z}{a:Nat}(f:r = .err c a)(k:Ext w d)(q4:d.heap[w.heap.size]?=aN #[o4] 79)
  (e:d.heap[w.heap.size+1]?=aN #[o5] 57) (l:d.heap[b]?=aN #[zi c,zi a] 77) (m:w.heap.size+2<=b) :
  LV a9Z (fun d=>RD a9Z (a0o 79 (pp w.heap.size)) d (fun g=>RD a9Z (a0o 57 (pp (w.heap.size+1))) d
    (fun h=>Sz I w r (ah (ak #[g,h])) d) NX) NX) (Sz I w r)
   [{ target:=.fn (.func 90) #[pp w.heap.size,pp (w.heap.size+1)],args:=#[]++#[] }]
   (.panicking [{ v:=aj 73 (pp b),recovered:=false }]) d:=by
 subst f;refine aGy q4 e zo ?_;have n:=bf q4;have o:=bf e;have i:(bO (bO d w.heap.size (ae #[aq V] 79)) (w.heap.size+1) (ae #[aj 73 (pp b)] 57)).heap[w.heap.size]?=aN #[aq V] 79:=by
  exact yH
 have j:(bO (bO d w.heap.size (ae #[aq V] 79)) (w.heap.size+1) (ae #[aj 73 (pp b)] 57)).heap[w.heap.size+1]?=aN #[aj 73 (pp b)] 57:=by
  exact yH
 refine dy @i @j ?_;refine⟨yF,b,J,?_⟩;exact yH
structure DA(w:Z):Prop where
 Da:zQ w w.heap.size
 sig:Mz w
theorem DA.ext{w w':Z}(h:DA w)(a:Ext w w'):DA w':=
 ⟨(h.Da.ext fun b o _=>a.ext b o).up a.size,h.sig.ext a⟩
def alk{α:Type}{I:(Nat->Prop)->Z->Nat->α->List Bs->Prop}
  (hI:∀ (F F':Nat->Prop) (w w':Z) (b:Nat) (x:α) (vs:List Bs),(∀ b,F b->F' b)->(∀ b o,F b->w.heap[b]?=O o->w'.heap[b]?=O o)->I F w b x vs->I F' w' b x vs)
  {g:List P.Tok->cg α} (Q:zC a9Z k'=A)
  (s:Bs) (w:Z) (R:s.length<=100000) (H:DA w)
  (S:let w0:=w;∀ {pb tb:Nat} {T:List P.Tok} {w:Z},P.lex s = .inr T->SP w pb tb T 0 [] 0->(mF w0 w0.heap.size->mF w tb)->w.heap.size=pb+1->Calls a9Z k' #[pp pb] w (acm I pb w (g T))) :
  Calls a9Z 58 #[aM s,.func (.func k') #[] #[]] w (Sz I w (rv g s)):=by
 refine aGn ?_;refine bD ?_;obtain⟨j,U⟩:=b9 ((w.alloc (ae #[aq V] 79)).alloc (ae #[ai] 57));have sA:j.heap.size=w.heap.size+2:=yH;have W:Ext w j:=yF;have t:j.heap[w.heap.size]?=aN #[aq V] 79:=yH;have u:j.heap[w.heap.size+1]?=aN #[ai] 57:=yH;rw[size_alloc,<- U];refine(akD s j R (H.sig.ext W)).mono ?_;rintro e w1 ⟨d,f⟩;have s1:=d.size;by_cases l:2000<s.length
 .rw[zip l] at f;obtain⟨b,rfl,m,K⟩:=f;exact acn (by rw[rv,zip l]) yF (d.ext _ _ t) (d.ext _ _ u) m zo
 rw[bX l] at f;cases hx:P.lex s with
 | inl i=>
  rw[hx] at f;obtain⟨b,rfl,m,K⟩:=f;exact acn (by rw[rv,bX l,hx]) yF (d.ext _ _ t) (d.ext _ _ u) m zo
 | inr T=>
  rw[hx] at f;obtain⟨v,rfl,y⟩:=f;have L:=O2 hx;have X:0<T.length:=(Sv.of L zo).toTW.pos;obtain⟨sQ,y⟩:=y;rcases y with⟨-,h0⟩| ⟨tb,cap,cur,rfl,Gi,B0,EL,tZ,ht5,Kb⟩
  .omega
  refine bD ?_;have z:=bf B0;obtain⟨n,B⟩:=b9 (w1.alloc (ae #[cM tb T.length cap,bH,zi 0] 145));have C:Ext w1 n:=yF;have sP:n.heap.size=w1.heap.size+1:=yH;have bP:n.heap[w1.heap.size]?=aN #[cM tb T.length cap,bH,zi 0] 145:=yH;rw[<- B];have M:Ext w n:=yF;have nX:SP n w1.heap.size tb T 0 [] 0:=SP.fresh L zo yH Kb ((H.Da.ext fun b o _=>M.ext b o).up zo) z EL (by grind [maxLen]) bP;refine⟨Q,(S hx nX (fun hC=>(hC.ext fun b o _=>M.ext b o).up zo) sP).mono ?_⟩;have sY:rv g s=g T:=by rw[rv,bX l,hx]
  rintro e w3 ⟨p,r⟩;have s3:=p.size;have N:Ext w1 w3:=⟨p.os.trans C.os,p.tape.trans C.tape,p.output.trans C.output,zo,fun b o hb _=>p.block b o yH (by
   have:=bf hb;rintro (h | ⟨h,_⟩)<;>omega)⟩
  have D:Ext w w3:=yF;have q4:=N.ext _ _ (d.ext _ _ t);have E:=N.ext _ _ (d.ext _ _ u);cases hr:g T with
  | err c a=>
   rw[hr] at r;obtain⟨b,rfl,m,K⟩:=r;exact acn (sY.trans hr) D q4 E m zo
  | ok x k vs=>
   rw[hr] at r;obtain⟨b,rfl,g1⟩:=r;have l4:=bf q4;have l5:=bf E;refine dy @q4 @E ?_;refine aGx ?_;obtain⟨q,ud⟩:=b9 (bO (bO w3 w.heap.size (ae #[pp b] 79)) (w.heap.size+1) (ae #[ai] 57));have k4:q.heap[w.heap.size]?=aN #[pp b] 79:=yH;have k5:q.heap[w.heap.size+1]?=aN #[ai] 57:=yH;have hz:∀ b o,b≠w.heap.size->b≠w.heap.size+1->w3.heap[b]?=O o->q.heap[b]?=O o:=yH;have Wu:Ext w q:=yF;have sz:q.heap.size=w3.heap.size:=yH;rw[<- ud];refine dy @k4 @k5 ?_;refine⟨Wu,?_⟩;exact yH
