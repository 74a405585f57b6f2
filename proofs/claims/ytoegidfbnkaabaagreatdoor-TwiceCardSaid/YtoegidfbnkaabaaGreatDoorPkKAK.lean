/- A part of one proof (PureF, SX3, SX4, ShS2, SX5, PX1, PureTx, GBase2, SX6, PX2). -/
import Derived.Test.YtoegidfbnkaabaaGreatDoorPkKAJ
import Derived.Recover
import Derived.Tactics
import Derived.Tactics2
set_option linter.all false
set_option maxRecDepth 100000
set_option maxHeartbeats 8000000
open Option renaming some → O, none → V
open Go renaming Value → Y, World → Z
open Bool renaming true → A, false → ae
open Go.Obj renaming cells → ah
open Go.Ending renaming returned → ai
open Go.Value renaming nilIface → aj, iface → ak, tuple → aq, pointer → au
open Option.some renaming injEq → a0z, inj → a0G
open Go.Instr renaming loadAt → a0Q
open Go.World renaming ownsRow_nil → a00, cell? → a1f
open Nat renaming lt_of_lt_of_le → a01
open Go.Exit renaming thenS → a1i
open Go.Proofs.Tryz renaming prog → bat
open Go.Proofs.Tryz
namespace Go.Proofs.YtoegidfbnkaabaaGreatDoor
open P
variable{B B' b base c cap d e f k k' m mb n o pb so tb:Nat}{F:Nat->Prop}{R:Ending->Z->Prop}{T:List P.Tok}{W w w' w1 w2 w3:Z}{X:Y->Z->Prop}{av o4 o5 tv u v vv:Y}{cs iK:Array Y}{res:Z->Prop}{s:Bs}{vars:List Bs}{xs:List Y}
namespace P
def MR{T:List Tok}(h:(tk T k).kind≠0):k<T.length:=by
 grind [Nat.lt_or_ge,absurd,tk,List.getElem?_eq_none]
def xR{T:List Tok}{s:Bs}(h:eD T k s=A):k<T.length:=by
 refine MR fun a=>?_;simp_all [eD]
def bind_some{α β:Type}{r:Option (cg α)}{g:α->Nat->List Bs->Option (cg β)}(h:∃ q,r=O q)(b:∀ a k v,r=O (.ok a k v)->∃ q,g a k v=O q):∃ q,cg.bind r g=O q:=by
 obtain⟨q,rfl⟩:=h;cases q with
 | err e a=>exact⟨_,J⟩
 | ok a k v=>exact b a k v J
def Io{α:Type}(T:List Tok)(s:Bs)(x:α)(k:Nat)(v:List Bs):∃ q,mw T s x k v=O q:=by
 unfold mw;split<;>exact⟨_,J⟩
def aGd{T:List Tok}{v v':List Bs}{x:Ex}(h:oE T f k v d=O (.ok x k' v')):k<T.length:=by
 cases f with
 | zero=>simp_all [oE]
 | succ f=>
  refine MR fun a=>?_;grind [eD,oE]
def Pg{T:List Tok}:∀ {f l k:Nat} {v v':List Bs} {d k':Nat} {x:Ex},jl T f l k v d=O (.ok x k' v')->k<T.length
 | 0,_,_,_,_,_,_,_,h=>by simp_all [jl]
 | f+1,l,k,v,v',d,k',x,h=>by
  rw[jl] at h;split at h
  .exact aGd h
  .obtain⟨a,c,v1,b,_⟩:=ek h;exact Pg b
def aGe{T:List Tok}{l:Nat}{o:Bs}(h:Rw T l k=O o):k<T.length:=xR (List.find?_some h)
structure Tot(T:List Tok)(f:Nat):Prop where
 B7:∀ k v d,16*(T.length-k)+1<=f->∃ r,oE T f k v d=O r
 args:∀ k v d a acc,16*(T.length-k)+5<=f->∃ r,nW T f k v d a acc=O r
 list:∀ k v d,16*(T.length-k)+6<=f->∃ r,pE T f k v d=O r
 elems:∀ k v d acc,16*(T.length-k)+5<=f->∃ r,qk T f k v d acc=O r
 oper:∀ l k v d,l<=2->16*(T.length-k)+(4-l)<=f->∃ r,jl T f l k v d=O r
 more:∀ l y k v d,l<=1->16*(T.length-k)+1<=f->∃ r,oT T f l y k v d=O r
def tot(T:List Tok):∀ f,Tot T f
 | 0=>⟨fun _ _ _ h=>zo,fun _ _ _ _ _ h=>zo,fun _ _ _ h=>zo,fun _ _ _ _ h=>zo,fun _ _ _ _ _ h=>zo,fun _ _ _ _ _ _ h=>zo⟩
 | f+1=>by
  have ih:=tot T f;have b:=mono T f;refine⟨?_,?_,?_,?_,?_,?_⟩
  .intro k v d c;rw[oE];split
   .grind
   split
   .grind
   split
   .grind
   split
   .split
    .rename_i h;have:=xR h;exact bind_some (ih.args _ _ _ _ _ zo) fun _ _ _ _=>Io _ _ _ _ _
    grind
   split
   .split<;>exact⟨_,J⟩
   split
   .rename_i h;have:=xR h;exact bind_some (ih.oper 0 _ _ _ zo zo) fun _ _ _ _=>Io _ _ _ _ _
   split
   .rename_i h;have:=xR h;exact ih.list _ _ _ zo
   grind
  .intro k v d a acc c;rw[nW];refine bind_some (ih.oper 0 _ _ _ zo zo) fun x k' v' h=>?_;have g:=Pg h;have e:=b.oper _ _ _ _ _ _ _ h;split
   .exact ih.args _ _ _ _ _ zo
   .split<;>exact⟨_,J⟩
  .intro k v d c;rw[pE];split
   .grind
   .refine bind_some (ih.elems _ _ _ _ zo) fun x k' v' h=>?_;have e:=b.elems _ _ _ _ _ _ _ h;split
    .rename_i j;have:=xR j;exact bind_some (ih.oper 0 _ _ _ zo zo) fun _ _ _ _=>Io _ _ _ _ _
    simp_all [Io]
  .intro k v d acc c;rw[qk];refine bind_some (ih.oper 0 _ _ _ zo zo) fun x k' v' h=>?_;have g:=Pg h;have e:=b.oper _ _ _ _ _ _ _ h;split
   .exact ih.elems _ _ _ _ zo
   grind
  .intro l k v d i c;rw[jl];split
   .exact ih.B7 _ _ _ zo
   .refine bind_some (ih.oper _ _ _ _ zo zo) fun x k' v' h=>?_;have g:=Pg h;have e:=b.oper _ _ _ _ _ _ _ h;exact ih.more _ _ _ _ _ zo zo
  .intro l y k v d i c;rw[oT];split
   .grind
   .rename_i o m;have n:=aGe m;refine bind_some (ih.oper _ _ _ _ zo zo) fun x k' v' h=>?_;have e:=b.oper _ _ _ _ _ _ _ h;exact ih.more _ _ _ _ _ i zo
def aGg{T:List Tok}{v v':List Bs}{x:Bd}(h:mL T f k v d=O (.ok x k' v')):k<T.length:=by
 cases f with
 | zero=>simp_all [mL]
 | succ f=>
  rw[mL] at h;split at h
  .grind
  split at h
  .rename_i b;exact xR b
  split at h
  .rename_i b;exact xR b
  split at h
  .rename_i b;exact xR b
  .obtain⟨a,e,v1,c,_⟩:=ek h;exact Pg c
structure aGh(T:List Tok)(f:Nat):Prop where
 lit:∀ k v d,16*(T.length-k)+5<=f->∃ r,mL T f k v d=O r
 lits:∀ k v d acc,16*(T.length-k)+6<=f->∃ r,oF T f k v d acc=O r
 row:∀ k v d,16*(T.length-k)+7<=f->∃ r,ng T f k v d=O r
 rest:∀ k v d,16*(T.length-k)+9<=f->∃ r,oG T f k v d=O r
 body:∀ k v d,16*(T.length-k)+8<=f->∃ r,lM T f k v d=O r
def totB(T:List Tok):∀ f,aGh T f
 | 0=>⟨fun _ _ _ h=>zo,fun _ _ _ _ h=>zo,fun _ _ _ h=>zo,fun _ _ _ h=>zo,fun _ _ _ h=>zo⟩
 | f+1=>by
  have ih:=totB T f;have it:=tot T f;have g:=mono T f;have mb:=SD T f;refine⟨?_,?_,?_,?_,?_⟩
  .intro k v d a;rw[mL];split
   .grind
   split
   .grind
   split
   .rename_i h;have:=xR h;exact bind_some (ih.lit _ _ _ zo) fun _ _ _ _=>⟨_,J⟩
   split
   .rename_i h;have:=xR h;exact bind_some (ih.body _ _ _ zo) fun _ _ _ _=>Io _ _ _ _ _
   .refine bind_some (it.oper 0 _ _ _ zo zo) fun x k' v' h=>?_;have c:=g.oper _ _ _ _ _ _ _ h;have e:=Pg h;split
    .exact bind_some (it.oper 0 _ _ _ zo zo) fun _ _ _ _=>⟨_,J⟩
    .repeat' split<;>simp_all
  .intro k v d acc a;rw[oF];refine bind_some (ih.lit _ _ _ zo) fun x k' v' h=>?_;have e:=aGg h;have c:=mb.lit _ _ _ _ _ _ h;split
   .exact ih.lits _ _ _ _ zo
   grind
  .intro k v d a;rw[ng];exact bind_some (ih.lits _ _ _ _ zo) fun _ _ _ _=>⟨_,J⟩
  .intro k v d a;rw[oG];split
   .grind
   .exact ih.body _ _ _ zo
  .intro k v d a;rw[lM];refine bind_some (ih.row _ _ _ zo) fun x k' v' h=>?_;have c:=mb.row _ _ _ _ _ _ h;split
   .rename_i i;have e:=xR i;refine bind_some (ih.row _ _ _ zo) fun x m v2 j=>?_;have n:=mb.row _ _ _ _ _ _ j;split
    .rename_i b;have l:=xR b;exact bind_some (ih.rest _ _ _ zo) fun _ _ _ _=>⟨_,J⟩
    grind
   .split
    .rename_i b;have l:=xR b;exact bind_some (ih.rest _ _ _ zo) fun _ _ _ _=>⟨_,J⟩
    grind
def ur(T:List Tok):Nat:=16*T.length+20
def alJ(T:List Tok)(name:Bs)(args:List Ex)(a k:Nat)(v:List Bs):∃ r,FY T (ur T) name args a k v=O r:=by
 unfold FY ur;split
 .grind
 split
 .exact bind_some ((totB T _).body _ _ _ zo) fun _ _ _ _=>Io _ _ _ _ _
 simp_all [Io]
def aGi(T:List Tok)(k:Nat):∃ r,BR T (ur T) k=O r:=by
 unfold BR;split
 .split
  .refine bind_some ((tot T _).args _ _ _ _ _ (by grind [ur])) fun l k' v' h=>?_;simp_all [bind_some,Io,alJ]
  simp_all [alJ]
 grind
def alK{T:List Tok}{name:Bs}{args:List Ex}{a:Nat}{v:List Bs}{c:Cl}{v':List Bs}(h:FY T f name args a k v=O (.ok c k' v')):k<k'/\c.vars=v':=by
 unfold FY at h;split at h
 .grind
 split at h
 .obtain⟨b,g,v1,d,e⟩:=ek h;obtain⟨i,j,l⟩:=od e;have:=(SD T f).body _ _ _ _ _ _ d;grind
 grind [od]
def aGj{T:List Tok}{c:Cl}{v':List Bs}(h:BR T f k=O (.ok c k' v')):k<k'/\k<T.length:=by
 unfold BR at h;split at h
 .rename_i hk;have g:k<T.length:=MR zo;split at h
  .obtain⟨l,i,v1,a,b⟩:=ek h;obtain⟨j,m,v2,d,e⟩:=ek b;have n:=(mono T f).args _ _ _ _ _ _ _ _ a;obtain⟨o,_,_⟩:=od d;have:=(alK e).1;omega
  .have:=(alK h).1;omega
 grind
def Bg(T:List Tok):Nat->Nat->List Cl->Option (cg (List Cl))
 | 0,_,_=>V
 | f+1,k,acc=>
  if (tk T k).kind=0 then O (.ok acc k [])
  else if acc.length=40 then O (.err 4 (tk T k).pos)
  else cg.bind (BR T (ur T) k) fun c k' _=>Bg T f k' (acc++[c])
def alL{T:List Tok}:∀ (f k:Nat) (acc:List Cl),T.length-k<f->∃ r,Bg T f k acc=O r
 | 0,_,_,h=>zo
 | f+1,k,acc,h=>by
  rw[Bg];split
  .grind
  split
  .grind
  .refine bind_some (aGi _ _) fun c k' v' a=>?_;have b:=aGj a;exact alL f k' _ zo
def Ip(T:List Tok):cg (List Cl):=(Bg T (T.length+1) 0 []).getD (.err 0 0)
def aci(T:List Tok):Bg T (T.length+1) 0 []=O (Ip T):=by
 obtain⟨r,hr⟩:=alL (T:=T) (T.length+1) 0 [] zo;simp_all [Ip]
end P
open Go.RowKit Sx
def EZ(F:Nat->Prop)(w:Z)(v:Y)(c:Cl):Prop:=∃ b av bv a d,v=pp b/\F b /\
 w.heap[b]?=aP #[aW c.name,av,bv,.slice a c.vars.length d] 86/\lE F w av c.args/\dM F w bv c.body
def kr(F:Nat->Prop)(w:Z)(vs:List Y):List Cl->Prop
 | []=>vs=[]
 | x::xs=>∃ v r,vs=v::r/\EZ F w v x/\kr F w r xs
def Ch(F:Nat->Prop)(w w':Z):Prop:=∀ b cs t,F b->t≠9->w.heap[b]?=aP cs t->w'.heap[b]?=aP cs t
theorem Ch.lx(h:Ch F w w'):∀ b o,F b->Dt o->w.heap[b]?=O o->w'.heap[b]?=O o:=by
 intro b o c a d;cases o with
 | cells cs t z=>
  obtain⟨e,rfl⟩:=a;refine h b cs t c ?_ d;grind
 | _=>exact a.elim
theorem EZ.mono{F F':Nat->Prop}{w w':Z}{v:Y}{c:Cl}(a:∀ b,F b->F' b)(hw:Ch F w w')(h:EZ F w v c):EZ F' w' v c:=by
 obtain⟨b,av,bv,e,f,g,d,i,j,k⟩:=h;exact⟨b,av,bv,e,f,g,a b d,hw b _ _ d zg i,j.mono a hw.lx,dM.mono a hw.lx _ _ k⟩
theorem kr.mono{F F':Nat->Prop}{w w':Z}(a:∀ b,F b->F' b)(hw:Ch F w w'):∀ (xs:List Cl) (vs:List Y),kr F w vs xs->kr F' w' vs xs
 | [],vs,h=>h
 | x::xs,vs,h=>by
  obtain⟨v,r,c,d,e⟩:=h;exact⟨v,r,c,d.mono a hw,kr.mono a hw xs r e⟩
def kr.snoc{F:Nat->Prop}{w:Z}{v:Y}{x:Cl}(hx:EZ F w v x):∀ {xs:List Cl} {vs:List Y},kr F w vs xs->kr F w (vs++[v]) (xs++[x])
 | [],vs,h=>by
  have h:vs=[]:=h;subst h;exact⟨v,[],J,hx,J⟩
 | y::c,vs,h=>by
  obtain⟨u,r,rfl,a,b⟩:=h;exact⟨u,r++[v],J,a,kr.snoc hx b⟩
theorem dc.alM(h:dc pb w w')(a:∀ b,F b->b≠pb):Ch F w w':=fun b _ _ c ht d=>(by grind [bJ])
def SP.x(h:SP w pb tb T k vars d):∃ cap e f cs,
  w.heap[pb]?=aP #[.slice (O ⟨tb,k*3,V⟩) (T.length-k) (cap-k),.slice e vars.length f,zi d] 145/\T.length<=cap/\cap<=9223372036854775807/\T.length<=2001/\k<T.length /\
  w.heap[tb]?=aP cs 142/\k*3+3<=cs.size/\(cs.toList.drop (k*3)).take 3=[zi (tk T k).kind,aW ((tk T k).text),zi (tk T k).pos] /\
  cs[k*3]?=O (zi (tk T k).kind)/\cs[k*3+1]?=O (aW ((tk T k).text))/\cs[k*3+2]?=O (zi (tk T k).pos):=by
 obtain⟨tw,lt,kt,nv,⟨-,cs,t1,t2⟩,cap,vv,g,i,j,l⟩:=h;obtain⟨a,b,c⟩:=t2 k kt;obtain⟨e,f,rfl⟩:=ij l;have m:=(Array.getElem?_eq_some_iff.1 c).1;refine⟨cap,e,f,cs,j,g,i,tw.len,kt,t1,zo,?_,a,b,c⟩;apply List.ext_getElem?;grind
def SP.acj{x:Nat}{t:TypeId}{z:Nat×Nat}{o:Obj}(h:SP w pb tb T k vars d)
  (hx:w.heap[x]?=O (ah cs t z)) (ht:t≠9) (a:x≠pb) (b:tb<x):SP (bT w x o) pb tb T k vars d:=
 (by grind [jh,other])
def SP.ack(h:SP w pb tb T k vars d)(a:Ext w w'):SP w' pb tb T k vars d:=h.ext a.ext
def SP.aGk(h:SP w pb tb T k vars d)
  (c:w.heap[pb]?=aP #[.slice (O ⟨tb,k*3,V⟩) (T.length-k) (cap-k),vv,zi d] 145) (a:T.length<=cap) (b:cap<=9223372036854775807) :
  SP (bT w pb (ah #[.slice (O ⟨tb,k*3,V⟩) (T.length-k) (cap-k),b9,zi d] 145)) pb tb T k [] d:=by
 obtain⟨tw,lt,kt,nv,⟨e,cs,t1,t2⟩,_⟩:=h;refine⟨tw,lt,kt,zs,⟨(by grind [jh,zV.ext]),cs,yH,t2⟩,cap,b9,a,b,yH,a00 _ _ _ _⟩
theorem SP.onU(h:SP w pb tb T k vars d)
  (f:w.heap[pb]?=aP #[.slice (O ⟨tb,k*3,V⟩) (T.length-k) (cap-k),vv,zi d] 145) (hk:k+1<T.length) (a:k'=T.length-(k+1)) (b:so=cap-(k+1)) (c:mb=(k+1)*3) :
  SP (bT w pb (ah #[.slice (O ⟨tb,mb,V⟩) k' so,vv,zi d] 145)) pb tb T (k+1) vars d:=by
 subst a b c;refine h.set hk ((bD.refl _ _).bT (.inl fun _=>.inl J)) (fun g e i=>?_) yH;exact yH
def alN(pb:Nat)(w:Z)(r:cg (List Cl))(e:Ending)(w':Z):Prop:=
 dc pb w w'/\match r with
 | .err c a=>np c a w w' e
 | .ok cs _ _=>∃ v vs,e = ai v/\fO (Nu w w') w' 79 v vs/\kr (Nu w w') w' vs cs
def WC(B:Nat)(w1:Z)(v:Y)(acc:List Cl):Prop:=
 ∃ xs,w1.ownsRow B 79 1 v acc.length xs/\kr (fun b=>B<=b/\b<w1.heap.size/\O b≠v.ownBlock) w1 xs acc
def aGn:(Tryz.prog.info? 79).map (fun i=>(i.zero,i.size,i.bytes))=O (O (au V),1,8):=zk
def acm(d:w.ownsRow base 79 1 v n xs){a:Y}
  (f:w.heap[b]?=aP #[a] 79) (q:a.oneCell'=A)
  (r:n<=100000) (g:base<=w.heap.size) {K:Y->Z->Prop}
  (h:∀ v' w',w'.ownsRow base 79 1 v' (n+1) (xs++[a])->w.grownBy w' v.ownBlock->(v'.ownBlock=v.ownBlock\/∀ k,v'.ownBlock=O k->w.heap.size<=k)->K v' w') :
  WR bat (Builtin.append_ #[68,68] 68 #[v,cU b 1 m]) w K X:=by
 obtain⟨i,j,c⟩:=Option.map_eq_some_iff.1 aGn;simp only[Prod.mk.injEq] at c;obtain⟨l,o,p⟩:=c;refine ajX (m:=1) (t:=68) (e:=79) zk j l o p J zo d f J (fun u hu=>?_) zo zo g h;grind
theorem acn{l:Nat}(h:¬ cap=l):sliced (O ⟨b,o,V⟩) l pb cap n = .slice (O ⟨b,o+l*n,V⟩) (pb-l) (cap-l):=by
 unfold sliced;rw[bO h];simp [addr_add]
theorem alO(h:dc pb w w'){size:Nat}(hu:w.ownsRow base e size v n xs)(d:pb<base)(he:e≠9):w'.ownsRow base e size v n xs:=by
 obtain⟨a,hu⟩:=hu;refine⟨a,?_⟩;rcases hu with hu | ⟨g,cap,cur,rfl,b,f,c⟩
 .exact yH
 .exact .inr ⟨g,cap,cur,J,b,(by grind [dc.bJ]),c⟩
def aGo{size:Nat}{a:List Y}(h:w.ownsRow base e size v n xs)(b:w.ownsRow base e size v n a):xs=a:=by
 rcases h.2 with⟨c,d⟩| ⟨g1,o,f,c,_,g2,_,_,_,g3⟩
 .have g:=h.1;have i:=b.1;rw[d] at g i;grind
 .rcases b.2 with⟨j,_⟩| ⟨p,k,l,j,_,q,_,_,_,m⟩<;>grind
theorem WC.more{acc:List Cl}{x:Cl}(h:WC B w1 v acc)(j:dc pb w1 w2)(y:pb<B)(hx:EZ (Nu w1 w2) w2 u x)(l:B<=w1.heap.size)
  (f:Ext w2 w3) (m:w3.ownsRow B 79 1 v acc.length xs) (n:W.ownsRow B 79 1 tv (acc.length+1) (xs++[u]))
  (o:w3.grownBy W v.ownBlock) (hv:tv.ownBlock=v.ownBlock\/∀ k,tv.ownBlock=O k->w3.heap.size<=k):WC B W tv (acc++[x]):=by
 obtain⟨a,o1,o2⟩:=h;have p:=j.size;have q:=f.size;have r:=o.size;have s:w3.ownsRow B 79 1 v acc.length a:=jQ f.ext (by grind [alO]);have e:a=xs:=aGo s m;subst e;have lt:∀ k,v.ownBlock=O k->k<w1.heap.size:=fun k hk=>(o1.lt k hk).2;have c:∀ b t cs,O b≠v.ownBlock->b<w3.heap.size->w3.heap[b]?=aP cs t->W.heap[b]?=aP cs t:=
  (by grind [World.grownBy.block])
 have nv:∀ b,b<w3.heap.size->O b≠v.ownBlock->O b≠tv.ownBlock:=yH;refine⟨_,by rw[List.length_append];exact n,kr.snoc ?_ ?_⟩
 .refine hx.mono yH (fun b cs t g ht i=>?_);have d:=f.ext _ _ i;exact c b _ cs (fun e=>by have:=lt b e.symm;have:=g.1;omega) (bn d) d
 .refine kr.mono (F:=fun b=>B<=b/\b<w1.heap.size/\O b≠v.ownBlock) yH (fun b cs t g ht i=>?_) _ _ o2;have w:=j.bJ i (by have:=g.1;omega) ht;have d:=f.ext _ _ w;exact c b _ cs g.2.2 (bn d) d
structure GA(pb tb:Nat)(T:List P.Tok)(B:Nat)(w:Z)(q3 q:Nat)(nm:Bs)(r:cg Cl)(cont:List Ex->Bd->Nat->List Bs->Option (cg Cl))(w':Z):Prop where
 fr:dc pb w w'
 t3:∃ kd ps,w'.heap[q3]?=aP #[zi kd,aW nm,zi ps] 142
 st:∃ av bv l bd k vs,w'.heap[q]?=aP #[aW nm,av,bv,b9] 86 /\
  lE (fun b=>B<=b/\b<w'.heap.size/\b≠q) w' av l/\dM (fun b=>B<=b/\b<w'.heap.size/\b≠q) w' bv bd/\SP w' pb tb T k vs 0/\cont l bd k vs=O r
def alR(h:SP w pb tb T k vars d)(s:Bs)(b:s.all P.digit=ae) :
  Calls bat 49 #[pp pb,aW s] w fun e w'=>e = ai (.bool (eD T k s))/\SP w' pb tb T (if eD T k s=A then k+1 else k) vars d/\dc pb w w':=by
 by_cases hx:eD T k s=A
 .refine Calls.mono (vd h s hx) ?_;grind
 .have a:eD T k s=false:=zg;refine Calls.mono (qs h s a b) ?_;rintro e w' ⟨rfl,rfl⟩;rw[bO hx,a];exact⟨J,h,bD.refl _ _⟩
def acp(h:SP w pb tb T k vars d)(s:Bs)(b:s.all P.digit=ae){α:Type}(x:α){r:cg α}(hr:mw T s x k vars=O r) :
  Calls bat 51 #[pp pb,aW s] w fun e w'=>dc pb w w' /\
   ((e = ai (aq #[])/\r = .ok x (k+1) vars/\SP w' pb tb T (k+1) vars d)\/(∃ c a,r = .err c a/\np c a w w' e)):=by
 unfold mw at hr;split at hr
 .rename_i hx;refine(R3 h s hx).mono ?_;grind
 .rename_i hx;refine(R4 h s zg b).mono ?_;grind
theorem GA.step{q:Nat}{nm:Bs}{r:cg Cl}{a:List Ex->Bd->Nat->List Bs->Option (cg Cl)}(d:dc pb w w1)(c:dc pb w1 w2)
  (e:pb<cap/\cap<B/\B<=q) (t3:∃ kd ps,w1.heap[cap]?=aP #[zi kd,aW nm,zi ps] 142) {l:List Ex} {bd:Bd} {vs:List Bs}
  (g1:w1.heap[q]?=aP #[aW nm,av,tv,b9] 86)
  (g2:lE (fun b=>B<=b/\b<w1.heap.size/\b≠q) w1 av l) (g3:dM (fun b=>B<=b/\b<w1.heap.size/\b≠q) w1 tv bd) (g4:SP w2 pb tb T k vs 0) (g5:a l bd k vs=O r):GA pb tb T B w cap q nm r a w2:=by
 have:=c.size;obtain⟨kd,ps,t3⟩:=t3;have hm:∀ b,(fun b=>B<=b/\b<w1.heap.size/\b≠q) b->(fun b=>B<=b/\b<w2.heap.size/\b≠q) b:=yH;have hk:Ch (fun b=>B<=b/\b<w1.heap.size/\b≠q) w1 w2:=(by grind [dc.alM]);exact⟨d.trans c,(by grind [t3,dc.bJ]),av,tv,l,bd,k,vs,(by grind [dc.bJ]),g2.mono hm hk.lx,dM.mono hm hk.lx _ _ g3,g4,g5⟩
def aGp(h:SP w pb tb T 0 [] 0)(z:mP w tb) :
  Calls bat 46 #[pp pb] w (alN pb w (Ip T)):=by
 have hlt:=h.lt;have gk:=h.d2.2.2;refine awL ?_;refine⟨fun n t w2=>dc pb w w2/\∃ f k vs acc,n=f+1/\acc.length<=40/\Bg T f k acc=O (Ip T)/\SP w2 pb tb T k vs 0/\WC w.heap.size w2 (t 2) acc,
  ⟨_,bD.refl _ _,_,0,[],[],J,zs,aci T,h,[],a00 _ _ _ _,J⟩,?_⟩
 intro n t dd w2 hI;refine toPr ?_;obtain⟨hF,f,k,vs,acc,rfl,aU5,j,hP,eU⟩:=hI;have s12:=hF.size;cases f with
 | zero=>rw[Bg] at j;cases j
 | succ f=>
 rw[Bg] at j;obtain⟨cap,va,vc,cs,h3,jH,sw,hlT,H5,g0,g1,g2,g3,g4,g5⟩:=hP.x;have l3:=bn h3;have e0:((0:Nat):Int)=0:=rfl;rw[e0] at h3;obtain⟨xs,o1,o2⟩:=id eU;obtain⟨ra,rc,hv⟩:=ij o1;have hcw:mP w2 tb:=z.fr hF hlt;by_cases Bb:(tk T k).kind=0
 .rw[zip Bb] at j;refine jt h3 @g0 @g3 ?_;rw[<- a0G j];refine⟨hF,t 2,xs,J,EO o1 (fun b p=>⟨(o1.lt b p).1,(o1.lt b p).2⟩),kr.mono yH (fun b cs t _ _ z=>z) _ _ o2⟩
 .rw[bO Bb] at j;have alT:¬ (((tk T k).kind:Nat):Int)=0:=zo;have hnx:=hP.tw.next H5 Bb
  refine dL h3 @g0 @g3 @g5 ?_;refine⟨fun _ w3=>w3=w2/\¬ acc.length=40,?_,?_⟩
  .by_cases G:acc.length=40
   .rw[zip G] at j;have aGr:(acc.length:Int)=40:=zo;refine cM hv ?_;refine(BV _ _ _ pb hP.sb).mono ?_;rintro e w3 ⟨i,xS,-⟩;have O9:=MN i s12;obtain⟨b,rfl,-,-⟩:=i;refine bF ?_;rw[<- a0G j];exact⟨hF.trans xS,O9⟩
   .have aGr:¬ (acc.length:Int)=40:=zo;refine cM hv ?_;omega
  .rintro _ w3 ⟨rfl,G⟩ _;rw[bO G] at j;cases g:BR T (ur T) k with
   | none=>rw[g] at j;cases j
   | some qc=>
   rw[g] at j;have hq5:=hP.aGk h3 jH sw;have SQ:dc pb w3 (bT w3 pb (ah #[.slice (O ⟨tb,k*3,V⟩) (T.length-k) (cap-k),b9,zi 0] 145)):=(bD.refl _ _).bT (.inl fun _=>.inl J);have g05:(bT w3 pb (ah #[.slice (O ⟨tb,k*3,V⟩) (T.length-k) (cap-k),b9,zi 0] 145)).heap[tb]?=aP cs 142:=yH;refine jt h3 @g0 @g2 ?_;refine⟨fun _ d=>(tk T k).kind=1/\dc pb w3 d/\SP d pb tb T k [] 0/\d.heap[w3.heap.size]?=aP #[zi (tk T k).kind,aW ((tk T k).text),zi (tk T k).pos] 142/\d.heap.size=w3.heap.size+1 /\
    (∀ b cs t,b<w3.heap.size->b≠pb->w3.heap[b]?=aP cs t->d.heap[b]?=aP cs t),?_,?_⟩
   .have B:Ext (bT w3 pb (ah #[.slice (O ⟨tb,k*3,V⟩) (T.length-k) (cap-k),b9,zi 0] 145)) (bT ((bT w3 pb (ah #[.slice (O ⟨tb,k*3,V⟩) (T.length-k) (cap-k),b9,zi 0] 145)).alloc (ah #[zi 0,aW [],zi 0] 142)) w3.heap.size (ah #[zi (tk T k).kind,aW ((tk T k).text),zi (tk T k).pos] 142)):=yF;have vn:=hq5.ack B;by_cases jZ:(tk T k).kind=1
    .have aGt:(((tk T k).kind:Nat):Int)=1:=zo;refine cM @g2 ?_;refine⟨jZ,SQ.trans B.toM,vn,fun b cs t p Cj z=>B.ext _ _ ?_⟩;rw[jh Cj];exact z
    .have aGt:¬ (((tk T k).kind:Nat):Int)=1:=zo;rw[BR,bO jZ] at g;refine cM @g2 ?_;refine(R2 vn).mono ?_;rintro e w7 ⟨i,y,-⟩;have O9:=MN (w:=w) i (by rw[uY,size_alloc,uY];omega);obtain⟨b,rfl,-,-⟩:=i;refine bF ?_;rw[<- a0G g] at j;simp only[cg.bind,a0z] at j;rw[<- j];exact⟨hF.trans ((SQ.trans B.toM).trans y),O9⟩
   .rintro _ d ⟨jZ,rG,vn,t6,s6,k6⟩ _;obtain⟨WD,H,I,cs6,K,aU8,aU9,-,-,g06,-⟩:=vn.x;rw[e0] at K;have l6:=bn K;have lt6:=bn t6;have xP:¬ WD-k=1:=zo;have lp6:pb<d.heap.size:=l6;have hB6:w.heap.size<=w3.heap.size:=s12;simp (disch:=first|assumption|omega|simp only[zS]<;>omega|decide) only[Pr,PX,PC,NX,ends,EI,oV,jk,Nat.reduceAdd,Nat.reduceMul,Nat.reduceLeDiff,Nat.reduceEqDiff,Int.reduceToNat,Int.reduceAdd,Int.reduceLT,Int.reduceLE,↓reduceIte,forall_const,eq_self,aaA,jF,aaa,aab,OP,OQ,F4,F5,aad,aae,aaf,aag,aah,aai,aaj,aak,aal,aao,aap,aam,aan,aau,aav,aaw,aax,VV,aar,aaB,aaC,aa9,aaD,aaE,aaF,aaG,Mi,tz,qo,jh,RM,BU,uY,size_alloc,RR,aaM,aaH,aaI,aaJ,aaK,aaL,aaN,aaO,aaP,aaQ,aaR,aaS,aaT,aaU,aaV,aaW,aaX,aaY,aaZ,aa0,aa1,aa2,aa3,aa4,VW,u8w,VQ,Z7,Z8,Int.toNat_natCast,Option.isNone_none,Option.isNone_some,List.getElem?_toArray,List.getElem?_cons_zero,List.getElem?_cons_succ,List.setIfInBounds_toArray,List.set_cons_zero,List.set_cons_succ,List.size_toArray,List.length_cons,List.length_nil,List.drop_zero,List.drop_succ_cons,List.take_succ_cons,List.take_zero,List.take_nil,List.drop_nil,List.all_cons,List.all_nil,Bool.and_true,Bool.true_and,Nat.zero_add,Nat.add_zero,Nat.mul_one,and_self,and_true,true_and,decide_true,decide_false,Bool.not_true,Bool.not_false,not_true_eq_false,not_false_eq_true,ajp,ajr,ajs,aju,ajw,ajx,ajy,ajz,ajA,ajB,ajC,ajD,ajE,ajF,ajG,ajH,ajJ,ajK,ajL,ajM,ajO,ajR,ajS,ajT,ajU,ajV,K,t6,acn];have eq3:(bT w3 pb (ah #[.slice (O ⟨tb,k*3,V⟩) (T.length-k) (cap-k),b9,zi 0] 145)).heap.size=w3.heap.size:=yH;have eq:((bT d pb (ah #[.slice (O ⟨tb,k*3+3,V⟩) (T.length-k-1) (WD-k-1),.slice H 0 I,zi 0] 145)).alloc (ah #[.int .u8 103,aW [116,114,117,101],b9,b9] 149)).heap.size=d.heap.size+1:=yH;have hlq:pb<w3.heap.size/\w3.heap.size<d.heap.size/\d.heap.size<=d.heap.size+1:=yH;have aVe:BR T (ur T) k=O qc:=g;have aVf:∀ {L:Z},dc pb w3 L->mP L tb:=(by grind [mP.fr,bD.trans]);have SR:∀ {L w':Z} {e:Ending} {c a:Nat},dc pb w3 L->dc pb L w'->np c a L w' e->qc = .err c a->alN pb w (Ip T) e w':=by
     intro L w' e c a E1 Bh i hqc;rw[hqc] at j;simp only[cg.bind,a0z] at j;rw[<- j];exact⟨(by grind [bD.trans]),MN i (by have:=E1.size;omega)⟩
    try rw[eq3]
    try rw[eq]
    refine⟨fun _ w'=>GA pb tb T d.heap.size w3 w3.heap.size (d.heap.size+1) (tk T k).text qc (abZ T (ur T) (tk T k).text (tk T k).pos) w',?_,?_⟩
    .have aVg:SP d pb tb T k [] 0:=vn;obtain⟨q,qZ⟩:∃ q,q=((bT d pb (ah #[.slice (O ⟨tb,k*3+3,V⟩) (T.length-k-1) (WD-k-1),.slice H 0 I,zi 0] 145)).alloc (ah #[.int .u8 103,aW [116,114,117,101],b9,b9] 149)).alloc
       (ah #[aW ((tk T k).text),b9,pp d.heap.size,b9] 86):=yH
     have M:SP q pb tb T (k+1) [] 0:=by
      have C:SP (bT d pb (ah #[.slice (O ⟨tb,k*3+3,V⟩) (T.length-k-1) (WD-k-1),.slice H 0 I,zi 0] 145)) pb tb T (k+1) [] 0:=
       (by grind [SP.onU])
      rw[qZ];exact C.ack (((bD.refl _ _).alloc _).alloc _)
     have D:dc pb w3 q:=by
      rw[qZ];exact((rG.bT (.inl fun _=>.inl J)).alloc _).alloc _
     have tA:q.heap[w3.heap.size]?=aP #[zi (tk T k).kind,aW ((tk T k).text),zi (tk T k).pos] 142:=by
      exact yH
     have bA:q.heap[d.heap.size]?=aP #[.int .u8 103,aW [116,114,117,101],b9,b9] 149:=by
      exact yH
     have cA:q.heap[d.heap.size+1]?=aP #[aW ((tk T k).text),b9,pp d.heap.size,b9] 86:=by
      exact yH
     have sA:q.heap.size=d.heap.size+2:=yH;have nK:dM (fun b=>d.heap.size<=b/\b<q.heap.size/\b≠d.heap.size+1) q (pp d.heap.size) OH:=DJ yH bA Ij Kc;show CA _ _ _ _ _ _;rw[<- qZ];refine(alR M [40] zd).mono ?_;rintro e wB ⟨rfl,WE,Ph⟩;rw[BR,zip jZ] at g;have sB:=Ph.size;refine bF ?_;by_cases E:eD T (k+1) [40]=A
     .rw[zip E] at g WE;rw[E,OP];have tB:=Ph.bJ tA zo zd;have cB:=Ph.bJ cA zo zd;cases N:nW T (ur T) (k+1+1) [] 0 (tk T k).pos [] with
      | none=>rw[N] at g;simp [cg.bind] at g
      | some qa=>
      rw[N] at g;refine((aC5 _).go _ WE zo N).mono ?_;intro e wC SS;cases qa with
      | err c a=>
       obtain⟨i,Pj,-⟩:=SS;simp only[cg.bind,a0z] at g;have kT:=SR (D.trans Ph) Pj i g.symm;obtain⟨b,rfl,-,-⟩:=i;refine bF ?_;omega
      | ok l k2 SU=>
       obtain⟨v,rfl,j6,hPC,Pj⟩:=SS;simp only[cg.bind] at g;have sC:=Pj.size;have tC:=Pj.bJ tB zo zd;have cC:=Pj.bJ cB zo zd;have lcC:=bn cC;obtain⟨P,Q,ac,rfl⟩:∃ a n c,v = .slice a n c:=by
        obtain⟨wK,h1,-⟩:=j6;obtain⟨a,n,c,h,-⟩:=h1.shape;exact⟨a,n,c,h⟩
       refine cM @cC ?_;obtain⟨m,R⟩:=ck (bT wC (d.heap.size+1) (ah #[aW ((tk T k).text),.slice P Q ac,pp d.heap.size,b9] 86));rw[<- R];have hPD:SP m pb tb T k2 SU 0:=by rw[R];exact hPC.acj cC zd zo zo
       have S:dc pb w3 m:=by rw[R];exact((D.trans Ph).trans Pj).bT (.inr zo)
       have tD:m.heap[w3.heap.size]?=aP #[zi (tk T k).kind,aW ((tk T k).text),zi (tk T k).pos] 142:=yH;have cD:m.heap[d.heap.size+1]?=aP #[aW ((tk T k).text),.slice P Q ac,pp d.heap.size,b9] 86:=yH;have sD:m.heap.size=wC.heap.size:=yH;have kD:Ch (fun b=>d.heap.size<=b/\b≠d.heap.size+1) wC m:=fun b cs t p _ z=>yH;have alZ:dM (fun b=>d.heap.size<=b/\b<m.heap.size/\b≠d.heap.size+1) m (pp d.heap.size) OH:=
        DJ yH (by grind [jh,dc.bJ]) Ij Kc
       have al0:lE (fun b=>d.heap.size<=b/\b<m.heap.size/\b≠d.heap.size+1) m (.slice P Q ac) l:=
        j6.mono yH yH
       cases GB:mw T [41] l k2 SU with
       | none=>rw[GB] at g;cases g
       | some qm=>
       rw[GB] at g;refine(acp hPD [41] zd l GB).mono ?_;rintro e wE ⟨U,(⟨rfl,W,WG⟩| ⟨c,a,W,i⟩)⟩
       .rw[W] at g;refine bF ?_;exact GA.step S U hlq yH cD al0 alZ WG g
       .rw[W] at g;simp only[a0z] at g;have kT:=SR S U i g.symm;obtain⟨b,rfl,-,-⟩:=i;refine bF ?_;omega
     .rw[bO E] at g WE;have tL:eD T (k+1) [40]=false:=zg;rw[tL,OQ];exact GA.step D Ph hlq yH cA Ij nK WE g
    .rintro _ w7 r _;obtain⟨X,ps7,t7⟩:=r.t3;have y:=r.fr;obtain⟨av,bv,l,bd,k7,F,g7,ga,gb,C,o⟩:=r.st;generalize (tk T k).text=nm at *;generalize (tk T k).pos=pos at *;refine⟨fun _ w'=>GA pb tb T d.heap.size w3 w3.heap.size (d.heap.size+1) nm qc (Wm T (ur T) nm) w',?_,?_⟩
     .refine⟨fun s w'=>w'=w7/\s 72 = .bool (decide (0<=jx nm\/nm=[109,111,100])),?_,?_⟩
      .refine cM @t7 ?_;refine(MK _).mono ?_;rintro e w8 ⟨rfl,rfl⟩;refine dB @aac @t7 ?_;grind
      .rintro s8 w8 ⟨rfl,hs8⟩ _;rw[hs8];by_cases p:0<=jx nm\/nm=[109,111,100]
       .rw[F4 _ _ p];rw[abZ,zip p] at o;refine(BV _ _ _ pb C.sb).mono ?_;rintro e w9 ⟨i,ku,-⟩;have kT:=SR y ku i (a0G o).symm;obtain⟨b,rfl,-,-⟩:=i;refine bF ?_;omega
       .rw[F5 _ _ p];rw[abZ,bO p] at o;grind [GA.step,bD.refl]
     .clear o C gb ga g7 y t7 r;rintro _ w8 r _;obtain⟨X,ps7,t7⟩:=r.t3;have y:=r.fr;obtain⟨av,bv,l,bd,k7,F,g7,ga,gb,C,o⟩:=r.st;refine⟨fun _ w'=>GA pb tb T d.heap.size w3 w3.heap.size (d.heap.size+1) nm qc (fun l bd k vs=>mw T [46] ⟨nm,l,bd,vs⟩ k vs) w',?_,?_⟩
      .refine(alR C [58,45] zd).mono ?_;rintro e w9 ⟨rfl,hP9,ku⟩;refine bF ?_;by_cases E:eD T k7 [58,45]=A
       .rw[Wm,zip E] at o;rw[zip E] at hP9;rw[E,OP];cases p:lM T (ur T) (k7+1) F 0 with
        | none=>rw[p] at o;simp [cg.bind] at o
        | some qb=>
        rw[p] at o;refine((alI _).go hP9 (by grind [bD.trans]) zo p).mono ?_;intro e q SS;cases qb with
        | err c a=>
         obtain⟨i,D,-⟩:=SS;simp only[cg.bind,a0z] at o;have kT:=SR (y.trans ku) D i o.symm;obtain⟨b,rfl,-,-⟩:=i;refine bF ?_;omega
        | ok bd2 k2 SU=>
         obtain⟨v,rfl,j6,M,D⟩:=SS;simp only[cg.bind] at o;have s9:=ku.size;have t9:=dc.bJ (ku.trans D) t7 zo zg;have g9:=dc.bJ (ku.trans D) g7 zo zg;have lg9:=bn g9;have lg7:=bn g7;obtain⟨vb,rfl,yX⟩:=j6.shape;refine cM @g9 ?_;obtain⟨m,R⟩:=ck (bT q (d.heap.size+1) (ah #[aW nm,av,pp vb,b9] 86));rw[<- R];have hPD:SP m pb tb T k2 SU 0:=by rw[R];exact M.acj g9 zd zo zo
         have S:dc pb w3 m:=by rw[R];exact((y.trans ku).trans D).bT (.inr zo)
         have tD:m.heap[w3.heap.size]?=aP #[zi X,aW nm,zi ps7] 142:=yH;have cD:m.heap[d.heap.size+1]?=aP #[aW nm,av,pp vb,b9] 86:=yH;have sD:m.heap.size=q.heap.size:=yH;have kD:Ch (fun b=>d.heap.size<=b/\b≠d.heap.size+1) q m:=fun b cs t p _ z=>yH;have k9:Ch (fun b=>d.heap.size<=b/\b≠d.heap.size+1) w8 q:=(by grind [dc.alM,bD.trans]);have al0:lE (fun b=>d.heap.size<=b/\b<m.heap.size/\b≠d.heap.size+1) m av l:=
          ga.mono yH (by grind [Ch.lx])
         have alZ:dM (fun b=>d.heap.size<=b/\b<m.heap.size/\b≠d.heap.size+1) m (pp vb) bd2:=
          dM.mono yH yH _ _ j6
         grind [GA.step,bD.refl]
       .rw[Wm,bO E] at o;rw[bO E] at hP9;have tL:eD T k7 [58,45]=false:=zg;rw[tL,OQ];grind [GA.step]
      .clear o C gb ga g7 y t7 r;rintro _ w9 r _;obtain⟨X,ps7,t7⟩:=r.t3;have y:=r.fr;obtain⟨av,bv,l,bd,k7,F,g7,ga,gb,C,o⟩:=r.st;refine(acp C [46] zd _ o).mono ?_;rintro e wE ⟨U,(⟨rfl,W,WG⟩| ⟨c,a,W,i⟩)⟩
       .obtain⟨aVl,vaE,vcE,csE,h3E,-⟩:=WG.x;have sE:=U.size;have gE:=U.bJ g7 zo zd;have lgE:=bn gE;have lg7:=bn g7;obtain⟨vb,rfl,yX⟩:=gb.shape;obtain⟨P,Q,ac,rfl⟩:∃ a n c,av = .slice a n c:=by
         obtain⟨wK,h1,-⟩:=ga;obtain⟨a,n,c,h,-⟩:=h1.shape;exact⟨a,n,c,h⟩
        refine dB h3E @gE ?_;obtain⟨u,WI⟩:=ck (bT wE (d.heap.size+1) (ah #[aW nm,.slice P Q ac,pp vb,.slice vaE F.length vcE] 86));rw[<- WI];have aGK:dc pb w3 wE:=y.trans U;have hPG:SP u pb tb T (k7+1) F 0:=by rw[WI];exact WG.acj gE zd zo zo
        have acH:dc pb w3 u:=by rw[WI];exact aGK.bT (.inr zo)
        have gG:u.heap[d.heap.size+1]?=aP #[aW nm,.slice P Q ac,pp vb,.slice vaE F.length vcE] 86:=yH;have sG:u.heap.size=wE.heap.size:=yH;have kG:Ch (fun b=>d.heap.size<=b/\b≠d.heap.size+1) w9 u:=fun b cs t p ht z=>by
         grind [jh,dc.bJ]
        have aGN:lE (fun b=>d.heap.size<=b/\b<u.heap.size) u (.slice P Q ac) l:=
         ga.mono yH (by grind [Ch.lx])
        have bdG:dM (fun b=>d.heap.size<=b/\b<u.heap.size) u (pp vb) bd:=
         dM.mono yH (by grind [Ch.lx]) _ _ gb
        rw[W] at j;simp only[cg.bind] at j;have clG:EZ (fun b=>d.heap.size<=b/\b<u.heap.size) u (pp (d.heap.size+1)) ⟨nm,l,bd,F⟩:=
         ⟨d.heap.size+1,_,_,vaE,vcE,J,yH,gG,aGN,bdG⟩
        have B:Ext u (u.alloc (ah #[pp (d.heap.size+1)] 79)):=yF;have Ix:=jQ B.ext (alO acH (hv ▸ o1) zo zd);rw[hv];refine acm Ix (tz (by rw[WI,uY])) J zo (by have:=B.size;omega) ?_;intro v' jA Sz pN A5;have vp:dc pb w jA:=((hF.trans acH).trans B.toM).grow pN (fun kk nA=>(Ix.lt kk nA).1);refine⟨f+1,zo,vp,f,k7+1,F,acc++[⟨nm,l,bd,F⟩],J,zg,j,(hPG.ack B).OZ Ix zg zo pN,?_⟩;rw[hv] at eU;exact eU.more acH zo (clG.mono yH (fun b cs t _ _ z=>z)) zo B Ix Sz pN A5
       .have kT:=SR y U i W;obtain⟨b,rfl,-,-⟩:=i;refine bF ?_;omega
open Go.Proofs.YtoegidfbnkaabaaGreatDoor.Sx
section
variable{p0 p1 p2 p3 p4 p5 p6 p7:Y}{w:Z}{R:Ending->Z->Prop}
def aGQ:=cy w R [p0,p1] (gc [] [] []) func45
def aGR:=cy w R [p0,p1] (gc [] [] []) func58
end
def acI(w:Z):(Instr.typeAssert aj 20 73 A).run bat w = .ok (aq #[au V,.bool ae]) w:=zk
def acJ(v:Y)(w:Z):(Instr.typeAssert (ak 73 v) 20 73 A).run bat w = .ok (aq #[v,.bool A]) w:=zk
def aGS(v4 v5:Y)(w:Z):CallsD bat 83 #[v4,v5] .returning w fun e u' w'=>e = ai (aq #[])/\u' = .returning/\w'=w:=by
 refine callsD_of_wpS func83 J fun An cs hu=>?_;apply wpS_seq;apply wpS_region;simp [wpOpsS,go_sem,recoverD,hu,ntmps83,a1i,acI];apply wpS_seq;apply wpS_region;simp [wpOpsS,go_sem,recoverD,hu,ntmps83,a1i];refine wpS_cond (t:=false) (by simp [Act.eval]) ?_;simp only[Bool.false_eq_true,if_false];refine wpS_of_wp (wp_skip ?_);cases An;simp_all [bodyPostS,results,Tryz.results83]
def aGT(b4 b5:Nat)(o4 o5:Y)(v:Y)(xU:List PanicEntry)(w:Z)(h4:w.cell? ⟨b4,0,V⟩=O o4)(z4:w.frozen? ⟨b4,0,V⟩=ae)
  (h5:(w.setCell ⟨b4,0,V⟩ b9).cell? ⟨b5,0,V⟩=O o5) (z5:(w.setCell ⟨b4,0,V⟩ b9).frozen? ⟨b5,0,V⟩=ae) :
  CallsD bat 83 #[pp b4,pp b5] (.panicking ({ v:=ak 73 v,recovered:=false }::xU)) w fun e u' w'=>
   e = ai (aq #[])/\u' = .panicking ({ v:=ak 73 v,recovered:=true }::xU)/\w'=(w.setCell ⟨b4,0,V⟩ b9).setCell ⟨b5,0,V⟩ (ak 73 v):=by
 refine callsD_of_wpS func83 J fun An cs hu=>?_;apply wpS_seq;apply wpS_region;simp [wpOpsS,go_sem,recoverD,hu,ntmps83,a1i,acJ];apply wpS_seq;apply wpS_region;simp [wpOpsS,go_sem,recoverD,hu,ntmps83,a1i];refine wpS_cond (t:=true) (by simp [Act.eval]) ?_;simp only[if_true];apply wpS_seq;apply wpS_region;simp [wpOpsS,go_sem,recoverD,hu,ntmps83,a1i];apply wpS_region;simp [wpOpsS,go_sem,recoverD,hu,ntmps83,a1i,h4,z4,h5,z5];simp [bodyPostS,results,Tryz.results83]
def aGU(v4 v5:Y)(w:Z):CallsD bat 90 #[v4,v5] .returning w fun e u' w'=>e = ai (aq #[])/\u' = .returning/\w'=w:=by
 refine callsD_of_wpS func90 J fun An cs hu=>?_;apply wpS_seq;apply wpS_region;simp [wpOpsS,go_sem,recoverD,hu,ntmps90,a1i,acI];apply wpS_seq;apply wpS_region;simp [wpOpsS,go_sem,recoverD,hu,ntmps90,a1i];refine wpS_cond (t:=false) (by simp [Act.eval]) ?_;simp only[Bool.false_eq_true,if_false];refine wpS_of_wp (wp_skip ?_);cases An;simp_all [bodyPostS,results,Tryz.results90]
def aGV(b4 b5:Nat)(o4 o5:Y)(v:Y)(xU:List PanicEntry)(w:Z)(h4:w.cell? ⟨b4,0,V⟩=O o4)(z4:w.frozen? ⟨b4,0,V⟩=ae)
  (h5:(w.setCell ⟨b4,0,V⟩ (au V)).cell? ⟨b5,0,V⟩=O o5) (z5:(w.setCell ⟨b4,0,V⟩ (au V)).frozen? ⟨b5,0,V⟩=ae) :
  CallsD bat 90 #[pp b4,pp b5] (.panicking ({ v:=ak 73 v,recovered:=false }::xU)) w fun e u' w'=>
   e = ai (aq #[])/\u' = .panicking ({ v:=ak 73 v,recovered:=true }::xU)/\w'=(w.setCell ⟨b4,0,V⟩ (au V)).setCell ⟨b5,0,V⟩ (ak 73 v):=by
 refine callsD_of_wpS func90 J fun An cs hu=>?_;apply wpS_seq;apply wpS_region;simp [wpOpsS,go_sem,recoverD,hu,ntmps90,a1i,acJ];apply wpS_seq;apply wpS_region;simp [wpOpsS,go_sem,recoverD,hu,ntmps90,a1i];refine wpS_cond (t:=true) (by simp [Act.eval]) ?_;simp only[if_true];apply wpS_seq;apply wpS_region;simp [wpOpsS,go_sem,recoverD,hu,ntmps90,a1i];apply wpS_region;simp [wpOpsS,go_sem,recoverD,hu,ntmps90,a1i,h4,z4,h5,z5];simp [bodyPostS,results,Tryz.results90]
namespace P
def program(s:Bs):cg (List Cl):=
 if 2000<s.length then .err 1 0 else match lex s with
 | .inl i=>.err 2 i
 | .inr T=>Ip T
def sK{α:Type}(g:List Tok->cg α)(s:Bs):cg α:=if 2000<s.length then .err 1 0 else match lex s with
 | .inl i=>.err 2 i
 | .inr T=>g T
def aGW(T:List Tok):cg Ex:=
 match jl T (ur T) 0 0 [] 0 with
 | some (.ok x k vs)=>if (tk T k).kind=0 then .ok x k vs else .err 2 (tk T k).pos
 | some (.err e a)=>.err e a
 | none=>.err 0 0
end P
structure SV(T:List P.Tok):Prop extends TW T where
 sg:∀ u∈T,u.kind=4->u.text=[46]\/u.text∈oC
theorem SV.of(h:Gr n T)(a:n<=2000):SV T:=
 { len:=by have:=h.len;omega,last:=h.last,kind:=fun u hu=>(h.tok u hu).1,digits:=fun u hu=>(h.tok u hu).2.1,words:=fun u hu=>(h.tok u hu).2.2.1,vars:=fun u hu=>(h.tok u hu).2.2.2.1,sg:=fun u hu=>(h.tok u hu).2.2.2.2 }
def SX(h:P.lex s = .inr T):Gr s.length T:=Sv _ _ _ _ (by rw[Sw,h])
theorem zV.up(h:zV w B)(a:B<=B'):zV w B':=
 ⟨a01 h.lt a,(by grind [a01,Gd])⟩
theorem mP.up(h:mP w B)(a:B<=B'):mP w B':=⟨a01 h.lt a,h.cell⟩
structure WJ(w:Z):Prop where
 Gd:zV w w.heap.size
 cmp:mP w w.heap.size
 sig:MM w
def aGX(h:res w) :
  LV bat res R [{ target:=.fn (.func 83) #[tv,vv],args:=#[]++#[] }] .returning w:=by
 refine BT zk zs ((aGS tv vv w).mono ?_);rintro e a w' ⟨rfl,rfl,rfl⟩;exact h
def aGY(a:w.heap[pb]?=aP #[o4] 68)
  (d:w.heap[cap]?=aP #[o5] 57) (f:pb≠cap)
  (h:res (bT (bT w pb (ah #[b9] 68)) cap (ah #[ak 73 v] 57))) :
  LV bat res R [{ target:=.fn (.func 83) #[pp pb,pp cap],args:=#[]++#[] }]
   (.panicking [{ v:=ak 73 v,recovered:=false }]) w:=by
 have b:w.setCell ⟨pb,0,V⟩ b9=bT w pb (ah #[b9] 68):=uZ a _;have c:(bT w pb (ah #[b9] 68)).heap[cap]?=aP #[o5] 57:=by
  exact yH
 refine BT zk zs ((aGT pb cap o4 o5 v [] w (by grind [a1f]) (jO a 0) (by grind [a1f]) (by grind [jO])).mono ?_);rintro e g w' ⟨rfl,rfl,rfl⟩;rw[b,uZ c];exact h
def SP.fresh(b:Gr n T)(c:n<=2000)(ht:w.heap[tb]?=aP iK 142)
  (g:iK.toList.take (T.length*3)=Cb T) (d:zV w tb) (hlt:tb<pb) (e:T.length<=cap) (f:cap<=9223372036854775807)
  (h:w.heap[pb]?=aP #[cU tb T.length cap,b9,zi 0] 145):SP w pb tb T 0 [] 0:=by
 have a:=SV.of b c;have k:∀ i,i<T.length*3->iK[i]?=(Cb T)[i]?:=zg;refine⟨a.toTW,hlt,a.toTW.pos,zs,⟨d,iK,ht,fun j l=>?_⟩,cap,b9,e,f,yH,a00 _ _ _ _⟩;grind [ali]
def WL(w:Z)(s:Bs)(e:Ending)(w':Z):Prop:=
 Ext w w'/\match P.program s with
 | .err c a=>∃ b,e = ai (aq #[.slice V 0 0,ak 73 (au (O ⟨b,0,V⟩))])/\w'.heap[b]?=O (ah #[.int .i64 c,.int .i64 a] 77 (0,0))
 | .ok cs _ _=>∃ v vs,e = ai (aq #[v,aj])/\fO (Nu w w') w' 79 v vs/\kr (Nu w w') w' vs cs
def acK{d:Z}{a:Nat}(i:P.program s = .err c a)(j:Ext w d)(q4:d.heap[w.heap.size]?=aP #[o4] 68)
  (e:d.heap[w.heap.size+1]?=aP #[o5] 57) (k:d.heap[b]?=aP #[zi c,zi a] 77) (l:w.heap.size+2<=b) :
  LV bat (fun d=>RD bat (a0Q 68 (pp w.heap.size)) d (fun r=>RD bat (a0Q 57 (pp (w.heap.size+1))) d
    (fun f=>WL w s (ai (aq #[r,f])) d) NX) NX) (WL w s)
   [{ target:=.fn (.func 83) #[pp w.heap.size,pp (w.heap.size+1)],args:=#[]++#[] }]
   (.panicking [{ v:=ak 73 (pp b),recovered:=false }]) d:=by
 refine aGY q4 e zo ?_;have m:=bn q4;have n:=bn e;have g:(bT (bT d w.heap.size (ah #[b9] 68)) (w.heap.size+1) (ah #[ak 73 (pp b)] 57)).heap[w.heap.size]?=aP #[b9] 68:=by
  exact yH
 have h:(bT (bT d w.heap.size (ah #[b9] 68)) (w.heap.size+1) (ah #[ak 73 (pp b)] 57)).heap[w.heap.size+1]?=aP #[ak 73 (pp b)] 57:=by
  exact yH
 refine dB @g @h ?_;refine⟨yF,?_⟩;exact yH
def aGZ(s:Bs)(w:Z)(R:s.length<=100000)(u:WJ w) :
  Calls bat 45 #[aW s,.func (.func 46) #[] #[]] w (WL w s):=by
 refine aGQ ?_;refine bF ?_;obtain⟨l,S⟩:=ck ((w.alloc (ah #[b9] 68)).alloc (ah #[aj] 57));have sA:l.heap.size=w.heap.size+2:=yH;have U:Ext w l:=yF;have x:l.heap[w.heap.size]?=aP #[b9] 68:=yH;have y:l.heap[w.heap.size+1]?=aP #[aj] 57:=yH;rw[size_alloc,<- S];refine(alk s l R (u.sig.ext U)).mono ?_;rintro e w1 ⟨d,f⟩;have s1:=d.size;by_cases m:2000<s.length
 .rw[zip m] at f;obtain⟨b,rfl,p,G⟩:=f;exact acK (by rw[P.program,zip m]) yF (d.ext _ _ x) (d.ext _ _ y) p zo
 rw[bO m] at f;cases hx:P.lex s with
 | inl i=>
  rw[hx] at f;obtain⟨b,rfl,p,G⟩:=f;exact acK (by rw[P.program,bO m,hx]) yF (d.ext _ _ x) (d.ext _ _ y) p zo
 | inr T=>
  rw[hx] at f;obtain⟨v,rfl,z⟩:=f;have H:=SX hx;have W:0<T.length:=(SV.of H zo).toTW.pos;obtain⟨tF,z⟩:=z;rcases z with⟨-,h0⟩| ⟨tb,cap,cur,rfl,Gt,X,EX,wT,ht5,Kl⟩
  .omega
  refine bF ?_;have B:=bn X;obtain⟨g,C⟩:=ck (w1.alloc (ah #[cU tb T.length cap,b9,zi 0] 145));have D:Ext w1 g:=yF;have sP:g.heap.size=w1.heap.size+1:=yH;have bP:g.heap[w1.heap.size]?=aP #[cU tb T.length cap,b9,zi 0] 145:=yH;rw[<- C];have I:Ext w g:=yF;have qz:SP g w1.heap.size tb T 0 [] 0:=SP.fresh H zo yH Kl ((u.Gd.ext fun b o _=>I.ext b o).up zo) B EX (by grind [maxLen]) bP;refine⟨zk,(aGp qz ((u.cmp.ext fun b o _=>I.ext b o).up zo)).mono ?_⟩;have K:P.program s=Ip T:=by rw[P.program,bO m,hx]
  rintro e w3 ⟨q,r⟩;have s3:=q.size;have L:Ext w1 w3:=⟨q.os.trans D.os,q.tape.trans D.tape,q.output.trans D.output,zo,fun b o M _=>q.block b o yH (by
   have:=bn M;rintro (h | ⟨h,_⟩)<;>omega)⟩
  have E:Ext w w3:=yF;have q4:=L.ext _ _ (d.ext _ _ x);have F:=L.ext _ _ (d.ext _ _ y);cases hr:Ip T with
  | err c a=>
   rw[hr] at r;obtain⟨b,rfl,p,G⟩:=r;exact acK (K.trans hr) E q4 F p zo
  | ok cs k wK=>
   rw[hr] at r;obtain⟨v,vs,rfl,g1,g2⟩:=r;obtain⟨N,sn,Q,rfl⟩:∃ a n c,v = .slice a n c:=by rcases g1 with⟨-,rfl⟩| ⟨b,cs',rfl,-⟩<;>exact zg
   have l4:=bn q4;have l5:=bn F;refine dB @q4 @F ?_;refine aGX ?_;obtain⟨j,uu⟩:=ck (bT (bT w3 w.heap.size (ah #[.slice N sn Q] 68)) (w.heap.size+1) (ah #[aj] 57));have k4:j.heap[w.heap.size]?=aP #[.slice N sn Q] 68:=yH;have k5:j.heap[w.heap.size+1]?=aP #[aj] 57:=yH;have hz:∀ b o,b≠w.heap.size->b≠w.heap.size+1->w3.heap[b]?=O o->j.heap[b]?=O o:=yH;have WM:Ext w j:=yF;have sz:j.heap.size=w3.heap.size:=yH;rw[<- uu];refine dB @k4 @k5 ?_;refine⟨WM,?_⟩;rw[K,hr];have hf:∀ b,Nu g w3 b->Nu w j b:=zg;exact⟨_,vs,J,(by grind [fO.mono]),g2.mono hf (fun b cs t M _ ho=>yH)⟩
def aG2(h:res w) :
  LV bat res R [{ target:=.fn (.func 90) #[tv,vv],args:=#[]++#[] }] .returning w:=by
 refine BT zk zs ((aGU tv vv w).mono ?_);rintro e a w' ⟨rfl,rfl,rfl⟩;exact h
def aG3(a:w.heap[pb]?=aP #[o4] 79)
  (d:w.heap[cap]?=aP #[o5] 57) (f:pb≠cap)
  (h:res (bT (bT w pb (ah #[au V] 79)) cap (ah #[ak 73 v] 57))) :
  LV bat res R [{ target:=.fn (.func 90) #[pp pb,pp cap],args:=#[]++#[] }]
   (.panicking [{ v:=ak 73 v,recovered:=false }]) w:=by
 have b:w.setCell ⟨pb,0,V⟩ (au V)=bT w pb (ah #[au V] 79):=uZ a _;have c:(bT w pb (ah #[au V] 79)).heap[cap]?=aP #[o5] 57:=by
  exact yH
 refine BT zk zs ((aGV pb cap o4 o5 v [] w (by grind [a1f]) (jO a 0) (by grind [a1f]) (by grind [jO])).mono ?_);rintro e g w' ⟨rfl,rfl,rfl⟩;rw[b,uZ c];exact h
def al2{α:Type}(I:(Nat->Prop)->Z->Nat->α->List Bs->Prop)(pb:Nat)(w:Z)(r:cg α)(e:Ending)(w':Z):Prop:=
 dc pb w w'/\match r with
 | .err c a=>np c a w w' e
 | .ok x _ vs=>∃ b,e = ai (au (O ⟨b,0,V⟩))/\I (Nu w w') w' b x vs
def WN{α:Type}(I:(Nat->Prop)->Z->Nat->α->List Bs->Prop)(w:Z)(r:cg α)(e:Ending)(w':Z):Prop:=
 Ext w w'/\match r with
 | .err c a=>∃ b,e = ai (aq #[au V,ak 73 (au (O ⟨b,0,V⟩))])/\w'.heap[b]?=O (ah #[.int .i64 c,.int .i64 a] 77 (0,0))
 | .ok x _ vs=>∃ b,e = ai (aq #[au (O ⟨b,0,V⟩),aj])/\I (Nu w w') w' b x vs
def acP{α:Type}{I:(Nat->Prop)->Z->Nat->α->List Bs->Prop}{r:cg α}{d:Z}{a:Nat}(f:r = .err c a)(k:Ext w d)(q4:d.heap[w.heap.size]?=aP #[o4] 79)
  (e:d.heap[w.heap.size+1]?=aP #[o5] 57) (l:d.heap[b]?=aP #[zi c,zi a] 77) (m:w.heap.size+2<=b) :
  LV bat (fun d=>RD bat (a0Q 79 (pp w.heap.size)) d (fun g=>RD bat (a0Q 57 (pp (w.heap.size+1))) d
    (fun h=>WN I w r (ai (aq #[g,h])) d) NX) NX) (WN I w r)
   [{ target:=.fn (.func 90) #[pp w.heap.size,pp (w.heap.size+1)],args:=#[]++#[] }]
   (.panicking [{ v:=ak 73 (pp b),recovered:=false }]) d:=by
 subst f;refine aG3 q4 e zo ?_;have n:=bn q4;have o:=bn e;have i:(bT (bT d w.heap.size (ah #[au V] 79)) (w.heap.size+1) (ah #[ak 73 (pp b)] 57)).heap[w.heap.size]?=aP #[au V] 79:=by
  exact yH
 have j:(bT (bT d w.heap.size (ah #[au V] 79)) (w.heap.size+1) (ah #[ak 73 (pp b)] 57)).heap[w.heap.size+1]?=aP #[ak 73 (pp b)] 57:=by
  exact yH
 refine dB @i @j ?_;refine⟨yF,b,J,?_⟩;exact yH
structure Iz(w:Z):Prop where
 Gd:zV w w.heap.size
 sig:MM w
theorem Iz.ext{w w':Z}(h:Iz w)(a:Ext w w'):Iz w':=
 ⟨(h.Gd.ext fun b o _=>a.ext b o).up a.size,h.sig.ext a⟩
def aG4{α:Type}{I:(Nat->Prop)->Z->Nat->α->List Bs->Prop}
  (hI:∀ (F F':Nat->Prop) (w w':Z) (b:Nat) (x:α) (vs:List Bs),(∀ b,F b->F' b)->(∀ b o,F b->w.heap[b]?=O o->w'.heap[b]?=O o)->I F w b x vs->I F' w' b x vs)
  {g:List P.Tok->cg α} (N:zE bat k'=A)
  (s:Bs) (w:Z) (Q:s.length<=100000) (G:Iz w)
  (R:let w0:=w;∀ {pb tb:Nat} {T:List P.Tok} {w:Z},P.lex s = .inr T->SP w pb tb T 0 [] 0->(mP w0 w0.heap.size->mP w tb)->w.heap.size=pb+1->Calls bat k' #[pp pb] w (al2 I pb w (g T))) :
  Calls bat 58 #[aW s,.func (.func k') #[] #[]] w (WN I w (sK g s)):=by
 refine aGR ?_;refine bF ?_;obtain⟨j,S⟩:=ck ((w.alloc (ah #[au V] 79)).alloc (ah #[aj] 57));have sA:j.heap.size=w.heap.size+2:=yH;have U:Ext w j:=yF;have t:j.heap[w.heap.size]?=aP #[au V] 79:=yH;have u:j.heap[w.heap.size+1]?=aP #[aj] 57:=yH;rw[size_alloc,<- S];refine(alk s j Q (G.sig.ext U)).mono ?_;rintro e w1 ⟨d,f⟩;have s1:=d.size;by_cases l:2000<s.length
 .rw[zip l] at f;obtain⟨b,rfl,m,H⟩:=f;exact acP (by rw[sK,zip l]) yF (d.ext _ _ t) (d.ext _ _ u) m zo
 rw[bO l] at f;cases hx:P.lex s with
 | inl i=>
  rw[hx] at f;obtain⟨b,rfl,m,H⟩:=f;exact acP (by rw[sK,bO l,hx]) yF (d.ext _ _ t) (d.ext _ _ u) m zo
 | inr T=>
  rw[hx] at f;obtain⟨v,rfl,y⟩:=f;have K:=SX hx;have W:0<T.length:=(SV.of K zo).toTW.pos;obtain⟨tF,y⟩:=y;rcases y with⟨-,h0⟩| ⟨tb,cap,cur,rfl,Gt,X,EX,wT,ht5,Kl⟩
  .omega
  refine bF ?_;have z:=bn X;obtain⟨n,B⟩:=ck (w1.alloc (ah #[cU tb T.length cap,b9,zi 0] 145));have C:Ext w1 n:=yF;have sP:n.heap.size=w1.heap.size+1:=yH;have bP:n.heap[w1.heap.size]?=aP #[cU tb T.length cap,b9,zi 0] 145:=yH;rw[<- B];have L:Ext w n:=yF;have qz:SP n w1.heap.size tb T 0 [] 0:=SP.fresh K zo yH Kl ((G.Gd.ext fun b o _=>L.ext b o).up zo) z EX (by grind [maxLen]) bP;refine⟨N,(R hx qz (fun hC=>(hC.ext fun b o _=>L.ext b o).up zo) sP).mono ?_⟩;have qY:sK g s=g T:=by rw[sK,bO l,hx]
  rintro e w3 ⟨p,r⟩;have s3:=p.size;have M:Ext w1 w3:=⟨p.os.trans C.os,p.tape.trans C.tape,p.output.trans C.output,zo,fun b o hb _=>p.block b o yH (by
   have:=bn hb;rintro (h | ⟨h,_⟩)<;>omega)⟩
  have D:Ext w w3:=yF;have q4:=M.ext _ _ (d.ext _ _ t);have E:=M.ext _ _ (d.ext _ _ u);cases hr:g T with
  | err c a=>
   rw[hr] at r;obtain⟨b,rfl,m,H⟩:=r;exact acP (qY.trans hr) D q4 E m zo
  | ok x k vs=>
   rw[hr] at r;obtain⟨b,rfl,g1⟩:=r;have l4:=bn q4;have l5:=bn E;refine dB @q4 @E ?_;refine aG2 ?_;obtain⟨q,uu⟩:=ck (bT (bT w3 w.heap.size (ah #[pp b] 79)) (w.heap.size+1) (ah #[aj] 57));have k4:q.heap[w.heap.size]?=aP #[pp b] 79:=yH;have k5:q.heap[w.heap.size+1]?=aP #[aj] 57:=yH;have hz:∀ b o,b≠w.heap.size->b≠w.heap.size+1->w3.heap[b]?=O o->q.heap[b]?=O o:=yH;have WM:Ext w q:=yF;have sz:q.heap.size=w3.heap.size:=yH;rw[<- uu];refine dB @k4 @k5 ?_;refine⟨WM,?_⟩;exact yH
