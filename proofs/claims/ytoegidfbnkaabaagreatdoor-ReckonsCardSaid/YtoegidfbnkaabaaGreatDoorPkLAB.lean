/- A part of one proof (Base, Sx3, Sx4, SxL). -/
import Derived.Test.YtoegidfbnkaabaaGreatDoorPkLAA
import Derived.WalkKit
import Derived.Lib.Hide
import Derived.Deep.QuietTactic
import Derived.BigQuiet
import Derived.Deep.RegionLaw
set_option linter.all false
set_option maxRecDepth 100000
set_option maxHeartbeats 8000000
open Option renaming some → O, none → V
open Go renaming Value → Y, World → Z
open Bool renaming true → A, false → G
open Go.Obj renaming cells → ae
open Go.Ending renaming returned → ah
open Go.Value renaming iface → aj, tuple → ak, pointer → aq
open List renaming mem_cons → a1z, mem_cons_self → a1A, mem_append → a1F, map_cons → a2x
open Go.Result renaming andThen_ok → a1B
open Go.Sem renaming run_bind → a1C, run_pure → a2i, run → a3Z
open Go.Instr renaming loadAt → a1G, storeAt → a2U, sureAddr → a5g
open Bool renaming and_eq_true → a1O
open Go.Region renaming wanted → a2t, noSelect_spec → a34
open Go.Value renaming oneCell' → a2E
open Array renaming getD_eq_getD_getElem? → a2S
open Nat renaming eq_of_beq_eq_true → a3Y
open Go.Exit renaming jump → a48
open Go.World renaming setCell → a5y
open Go.Op renaming intCmp → a5E
namespace Go.Proofs.YtoegidfbnkaabaaGreatDoor
open Go.RowKit
variable{K:Y->Prop}{R:Ending->Z->Prop}{W w w':Z}{X:Y->Z->Prop}{a:Act}{b base c d i k m n o pb:Nat}{cs iB:Array Y}{fn:Func}{res:Z->Prop}{u v:Y}{us ft:List Nat}{xE:Bool}{xs:List Y}
theorem cellOf{T:TypeId}{z:Nat×Nat}(h:w.heap[b]?=O (ae cs T z))
  (hv:cs[o]?=O v):w.cell? ⟨b,o,V⟩=O v:=by
 grind [World.cell?]
theorem jJ{T:TypeId}(h:w.heap[b]?=O (ae cs T (0,0)))(o:Nat):w.frozen? ⟨b,o,V⟩=false:=by
 grind [World.frozen?]
theorem bg{o:Obj}(h:w.heap[b]?=O o):b<w.heap.size:=by
 grind
theorem blk_alloc_new(w:Z)(o:Obj):(w.alloc o).heap[w.heap.size]?=O o:=by
 show(w.heap.push o)[w.heap.size]?=_;simp
theorem dR{o x:Obj}(h:w.heap[b]?=O x):(w.alloc o).heap[b]?=O x:=by
 have:=bg h;show(w.heap.push o)[b]?=_;grind
theorem size_alloc(w:Z)(o:Obj):(w.alloc o).heap.size=w.heap.size+1:=by
 show(w.heap.push o).size=_;simp
theorem size_setCell(w:Z)(a:Addr)(v:Y):(w.setCell a v).heap.size=w.heap.size:=by simp [a5y]
def size_drew(w:Z):w.drew.heap.size=w.heap.size:=rfl
theorem O7(w:Z)(n:Nat):(w.drewN n).heap.size=w.heap.size:=rfl
def Ba{T:TypeId}{z:Nat×Nat}(h:w.heap[b]?=O (ae cs T z))(v:Y) :
  (w.setCell ⟨b,o,V⟩ v).heap[b]?=O (ae (cs.setIfInBounds o v) T z):=by
 grind [a5y]
theorem blk_setCell_other{a:Addr}(h:b≠a.block)(v:Y):(w.setCell a v).heap[b]?=w.heap[b]?:=by
 simp [a5y,Array.getElem?_modify,Ne.symm h]
theorem aak{a:Addr}(h:w.cell? a=O v)(hw:∀ (b:Nat) (o:Obj),w.heap[b]?=O o->w'.heap[b]?=O o):w'.cell? a=O v:=by
 grind [World.cell?,World.cell?_of_block]
structure bB(M:Nat->Obj->Prop)(w w':Z):Prop where
 os:w'.os=w.os
 tape:w'.tape=w.tape
 output:w'.output=w.output
 size:w.heap.size<=w'.heap.size
 block:∀ b o,w.heap[b]?=O o->¬ M b o->w'.heap[b]?=O o
theorem bB.refl(M:Nat->Obj->Prop)(w:Z):bB M w w:=⟨J,J,J,Nat.le_refl _,zg⟩
theorem bB.trans{M:Nat->Obj->Prop}{a b c:Z}(h:bB M a b)(k:bB M b c):bB M a c:=
 ⟨k.os.trans h.os,k.tape.trans h.tape,k.output.trans h.output,Nat.le_trans h.size k.size,(by grind [block])⟩
theorem bB.mono{M c:Nat->Obj->Prop}{a b:Z}(h:bB M a b)(hm:∀ i o,a.heap[i]?=O o->M i o->c i o):bB c a b:=
 ⟨h.os,h.tape,h.output,h.size,(by grind [block])⟩
theorem bB.alloc{M:Nat->Obj->Prop}{a b:Z}(h:bB M a b)(o:Obj):bB M a (b.alloc o):=
 ⟨h.os,h.tape,h.output,by rw[size_alloc];have:=h.size;omega,(by grind [dR,block])⟩
theorem bB.drew{M:Nat->Obj->Prop}{a b:Z}(h:bB M a b):bB M a b.drew:=⟨h.os,h.tape,h.output,h.size,h.block⟩
theorem bB.drewN{M:Nat->Obj->Prop}{a b:Z}(h:bB M a b)(n:Nat):bB M a (b.drewN n):=⟨h.os,h.tape,h.output,h.size,h.block⟩
theorem bB.Mu{M:Nat->Obj->Prop}{a b:Z}(h:bB M a b){p:Addr}(c:a.heap.size<=p.block)(v:Y):bB M a (b.setCell p v):=
 ⟨h.os,h.tape,h.output,by rw[size_setCell];exact h.size,(by grind [blk_setCell_other,bg,block])⟩
def bB.atQ{M:Nat->Obj->Prop}{a b:Z}(h:bB M a b){p:Addr}(c:∀ o,M p.block o)(v:Y):bB M a (b.setCell p v):=
 ⟨h.os,h.tape,h.output,by rw[size_setCell];exact h.size,(by grind [blk_setCell_other,block])⟩
def bB.grownBy{a b:Z}{r:Option Nat}(h:a.grownBy b r):bB (fun i _=>O i=r) a b:=
 ⟨h.os,h.tape,h.output,h.size,(by grind [bg,World.grownBy.block])⟩
theorem O8{x:Y}{t:TypeId}(c:b=w.heap.size):∀ (j:Nat) (u:Y),[x][j]?=O u->(w.alloc (ae #[x] t)).cell? ((⟨b,0,V⟩:Addr).add j)=O u:=by
 subst c;intro j u a;cases j with
 | zero=>
  simp at a;subst a;exact cellOf (o:=0) (blk_alloc_new w _) J
 | succ j=>grind
def aiK{x:Y}{t:TypeId}(a:b=w.heap.size):∀ (j:Nat) (u:Y),[x][j]?=O u->(w.alloc (ae #[x] t)).drew.cell? ((⟨b,0,V⟩:Addr).add j)=O u:=O8 a
def O9{e:TypeId}{size:Nat}(h:w.ownsRow base e size v n xs)(o:Obj):(w.alloc o).drew.ownsRow base e size v n xs:=h.alloc o
abbrev Ext(w w':Z):Prop:=bB (fun _ _=>False) w w'
theorem bB.ext(h:Ext w w')(b:Nat)(o:Obj)(a:w.heap[b]?=O o):w'.heap[b]?=O o:=h.block b o a id
theorem bB.toM{M:Nat->Obj->Prop}(h:Ext w w'):bB M w w':=(by grind [mono])
def Mv{e:TypeId}{size:Nat}(h:W.ownsRow base e size v (k+1) xs):∃ g cap,v = .slice (O ⟨g,0,V⟩) (k+1) cap:=by
 rcases h.2 with⟨_,a⟩| ⟨g,cap,_,rfl,_⟩<;>grind
theorem aal{e:TypeId}{size:Nat}(h:w.ownsRow base e size v n xs)(d:pb<=base):w.ownsRow pb e size v n xs:=by
 obtain⟨a,b | ⟨g,cap,cur,c,f,r⟩⟩:=h
 .exact⟨a,.inl b⟩
 .exact⟨a,.inr ⟨g,cap,cur,c,zo,r⟩⟩
def Wj{P:Program}(w:Z)(base:Nat)(t ty e:TypeId)(i:TypeInfo)(z:Y)(size bytes:Nat)(ht:P.underlying t=O (.slice e))(hi:P.info? e=O i)(q:i.zero=O z)
  (l:i.size=size) (r:i.bytes=bytes) (s:z.cells.size=size) (x:0<size)
  (v:Y) (n:Nat) (xs:List Y) (h:w.ownsRow base e size v n xs)
  (a:Addr) (m c:Nat) (news:List Y) (o:news.length=m*size) (p:∀ j u,news[j]?=O u->w.cell? (a.add j)=O u) (y:∀ u∈news,u.oneCell'=A)
  (B:n+m<=maxLen) (C:(n+m)*bytes<=140737488355328) (D:base<=w.heap.size) :
  ∃ v' w',(Builtin.append_ #[t,t] ty #[v,.slice (O a) m c]).run P w = .ok v' w'/\w'.ownsRow base e size v' (n+m) (xs++news)/\w.grownBy w' v.ownBlock /\
   (v'.ownBlock=v.ownBlock\/∀ k,v'.ownBlock=O k->w.heap.size<=k):=by
 have E:=h;rcases h.2 with⟨rfl,rfl⟩| ⟨g,cap,cur,rfl,F,K,L,M,N,H⟩
 .have hx:xs=[]:=List.eq_nil_of_length_eq_zero (by simpa using h.1);subst hx;obtain⟨v',w',f,d,b,_⟩:=run_append_own (P:=P) w w.heap.size t ty e i z size bytes ht hi q l r s x _ 0 [] (World.ownsRow_nil _ _ _ _) a m c news o p y B C zo;exact⟨v',w',f,aal d D,b,.inr fun k hk=>(d.lt k hk).1⟩
 .by_cases I:n+m<=cap
  .obtain⟨w',f,d,b⟩:=run_append_fits (P:=P) w base t ty e i size ht hi l g n cap xs E a m c news o p y I;exact⟨_,w',f,d,b,.inl J⟩
  .obtain⟨v',w',f,d,b⟩:=run_append_arg_grows (P:=P) w t ty e i z size bytes ht hi q l r s x ⟨g,0,V⟩ n cap xs h.1 (E.cells J) a m c news o p zo B C;exact⟨v',w',f,aal d D,⟨b.os,b.tape,b.output,b.size,(by grind [World.grownBy.block])⟩,.inr fun k hk=>(d.lt k hk).1⟩
def aiL{P:Program}{ops:Array Oper}{o:Oper}{K:Act->Z->Prop}{Q:Exit->Act->Z->Prop}{E:Prop}
  (R:o.guard=V) (s x:Operand) (t:TypeId)
  (d:o.op = .call { callee:=.builtin .append,args:=#[s,x],argTypes:=#[t,t] })
  (base:Nat) (e:TypeId) (i:TypeInfo) (z:Y) (size bytes:Nat) (ht:P.underlying t=O (.slice e)) (hi:P.info? e=O i) (f:i.zero=O z)
  (g:i.size=size) (l:i.bytes=bytes) (p:z.cells.size=size) (q:0<size)
  (v:Y) (n:Nat) (xs:List Y) (r:a.eval s=v) (y:w.ownsRow base e size v n xs)
  (b:Addr) (m c:Nat) (news:List Y) (hx:a.eval x = .slice (O b) m c) (B:news.length=m*size) (C:∀ j u,news[j]?=O u->w.cell? (b.add j)=O u) (D:∀ u∈news,u.oneCell'=A)
  (F:n+m<=maxLen) (H:(n+m)*bytes<=140737488355328) (I:base<=w.heap.size)
  (h:∀ v' w',w'.ownsRow base e size v' (n+m) (xs++news)->w.grownBy w' v.ownBlock->(v'.ownBlock=v.ownBlock\/∀ k,v'.ownBlock=O k->w.heap.size<=k)->K (a.put o.dst v') w') :
  if a2t o (yielded ops a.tmps)=A then Oper.wp P o a w K Q else E:=by
 rw[zip (by grind [a2t])];obtain⟨v',w',hr,L,M,N⟩:=Wj (P:=P) w base t o.type e i z size bytes ht hi f g l p q v n xs y b m c news B C D F H I;unfold Oper.wp execOp;simp only[d,resolve,invoke,builtin,a1C,a2i,a1B,List.map_toArray,a2x,List.map_nil,r,hx,hr];exact h v' w' L M N
def R3{P:Program}{ops:Array Oper}{rest:List Oper}{o:Oper}{Q:Exit->Act->Z->Prop}(d:o.guard=V)(s x:Operand)(t:TypeId)
  (f:o.op = .call { callee:=.builtin .append,args:=#[s,x],argTypes:=#[t,t] })
  (base:Nat) (e:TypeId) (i:TypeInfo) (z:Y) (size bytes:Nat) (ht:P.underlying t=O (.slice e)) (hi:P.info? e=O i) (g:i.zero=O z)
  (l:i.size=size) (p:i.bytes=bytes) (q:z.cells.size=size) (r:0<size)
  (v:Y) (n:Nat) (xs:List Y) (y:a.eval s=v) (B:w.ownsRow base e size v n xs)
  (b:Addr) (m c:Nat) (news:List Y) (hx:a.eval x = .slice (O b) m c) (C:news.length=m*size) (D:∀ j u,news[j]?=O u->w.cell? (b.add j)=O u) (E:∀ u∈news,u.oneCell'=A)
  (F:n+m<=maxLen) (H:(n+m)*bytes<=140737488355328) (I:base<=w.heap.size)
  (h:∀ v' w',w'.ownsRow base e size v' (n+m) (xs++news)->w.grownBy w' v.ownBlock->(v'.ownBlock=v.ownBlock\/∀ k,v'.ownBlock=O k->w.heap.size<=k)->wpList P ops Q rest (a.put o.dst v') w'):wpList P ops Q (o::rest) a w:=
 wpList_plain d fun K L=>by
  obtain⟨v',w',hr,M,N,R⟩:=Wj (P:=P) w base t o.type e i z size bytes ht hi g l p q r v n xs B b m c news C D E F H I;unfold Oper.wp execOp;simp only[f,resolve,invoke,builtin,a1C,a2i,a1B,List.map_toArray,a2x,List.map_nil,y,hx,hr];exact L _ _ zg
def exists_least{p:Nat->Prop}:∀ n,p n->∃ m,p m/\∀ k,p k->m<=k:=by
 intro n;induction n using Nat.strongRecOn with
 | _ n ih=>
  grind
open Classical in
noncomputable def least (I:Nat->Act->Z->Prop) (a:Act) (w:Z):Nat:=
 if h:∃ n,I n a w then Classical.choose (exists_least (p:=fun n=>I n a w) _ (Classical.choose_spec h)) else 0
def aiM{I:Nat->Act->Z->Prop}(h:∃ n,I n a w):I (least I a w) a w:=by
 unfold least;grind
def least_le{I:Nat->Act->Z->Prop}(h:I n a w):least I a w<=n:=by
 unfold least;rw[dif_pos ⟨n,h⟩];grind
def wp_loop_ghost{P:Program}{Q:Exit->Act->Z->Prop}{c:Code}(I:Nat->Act->Z->Prop)(b:∃ n,I n a w)
  (round:∀ n a w,I n a w->c.wp P (Exit.then (fun a' w'=>∃ m,m<n/\I m a' w') Q) a w):(Code.loop c).wp P Q a w:=
 wp_loop (fun a w=>∃ n,I n a w) (least I) b fun a w h=>
  wp_mono (round _ a w (aiM h)) fun e a' w' d=>by
   cases e with
   | normal=>obtain⟨m,hm,hi⟩:=d;exact⟨⟨m,hi⟩,Nat.lt_of_le_of_lt (least_le hi) hm⟩
   | _=>exact d
def atT{P:Program}{Q:Exit->Act->Z->Prop}{c rest:Code}(l:Nat)(b:Nat->Act->Z->Prop)(f:findLabel c l=O rest)
  (first:c.wp P (a48 l (fun a w=>∃ n,b n a w) Q) a w)
  (pass:∀ n a w,b n a w->rest.wp P (a48 l (fun a' w'=>∃ m,m<n/\b m a' w') Q) a w):(Code.scope c).wp P Q a w:=
 wp_scope_jumps l (fun a w=>∃ n,b n a w) (least b) f first fun a w h=>
  wp_mono (pass _ a w (aiM h)) fun e a' w' d=>by
   cases e with
   | goto l'=>obtain⟨e,m,hm,hi⟩:=d;exact⟨e,⟨m,hi⟩,Nat.lt_of_le_of_lt (least_le hi) hm⟩
   | _=>exact d
def atU{P:Program}{Q:Exit->Act->Z->Prop}{c rest:Code}(l:Nat)(b:Nat->Act->Z->Prop)(f:findLabel c l=O rest)
  (first:(∀ n a w,b n a w->rest.wp P (a48 l (fun a w=>∃ n,b n a w) Q) a w)->c.wp P (a48 l (fun a w=>∃ n,b n a w) Q) a w)
  (pass:∀ n a w,b n a w->rest.wp P (a48 l (fun a' w'=>∃ m,m<n/\b m a' w') Q) a w):(Code.scope c).wp P Q a w:=
 atT l b f (first fun n a w h=>wp_mono (pass n a w h) fun e a' w' d=>by
  cases e with
  | goto l'=>obtain⟨e,m,_,hi⟩:=d;exact⟨e,m,hi⟩
  | _=>exact d) pass
def atV{l:Nat}{b:Act->Z->Prop}{Q:Exit->Act->Z->Prop}:a48 l b Q .ret a w=Q .ret a w:=rfl
abbrev bs(l:P.Bs):ByteArray:=⟨l.toArray⟩
namespace Sx
open Go
def atW{C:mD}{o:Oper}{e:Env}{s:Sem Y}{next:Env->Prop}{next':Act->Prop}
  (b:execOp a.eval o=(do pure (.value (<- s)))) (c:∀ v,next (e.put o.dst v)->next' (a.put o.dst v))
  (h:RD C.P s w (pP C o fun v=>next (e.put o.dst v)) (fun _ _=>False)):o.still C.P a w next':=by
 unfold Oper.still;rw[b,RV];unfold RD at h;cases hr:s.run C.P w with
 | ok v w'=>
  rw[hr] at h;obtain⟨rfl,h⟩:=h;exact⟨J,RW (K:=fun v=>next (e.put o.dst v)) (K':=fun v=>next' (a.put o.dst v)) zg h⟩
 | halt x w'=>
  grind
theorem R4{P:Program}{o:Oper}{next':Act->Prop}
  (b:execOp a.eval o=pure (.value v)) (h:next' (a.put o.dst v)):o.still P a w next':=by
 unfold Oper.still;rw[b];exact⟨J,h⟩
def aiN{C:mD}(b:Good C){vs:List Nat}{o:Oper}{e:Env}{next:Env->Prop}{next':Act->Prop}
  (hr:Rel vs a e) (f:∀ v,next (e.put o.dst v)->next' (a.put o.dst v)) (h:sI C o e w next):o.still C.P a w next':=by
 have he:=hr.eval;unfold sI at h;split at h
 .rename_i x d;exact R4 (by rw[he];grind [execOp]) (f _ h)
 .rename_i x d;exact R4 (by rw[he];grind [execOp]) (f _ h)
 .rename_i c x y d;split at h
  .rename_i g;exact R4 (v:=e.eval x) (by rw[he];unfold execOp;rw[d];simp only[g];rfl) (f _ h)
  .rename_i g;exact R4 (v:=e.eval y) (by rw[he];unfold execOp;rw[d];simp only[g];rfl) (f _ h)
  grind
 .rename_i x d;obtain⟨i,j⟩:=aac d h;grind [R4]
 .rename_i k args Du d;split at h
  .rename_i hk;unfold Oper.still;have:(execOp a.eval o).run C.P w = .ok (.enter k (jU e args)) w:=by
    rw[he];unfold execOp;rw[d];simp only[resolve,JQ,Env.eval,Deferred.ofValue,Array.empty_append];show(callFunc k (jU e args++#[])).run C.P w=_;rw[Array.append_empty];exact RX (b.calls k hk) _ _
   rw[this];obtain⟨v,i,j⟩:=h;exact⟨J,v,i,RW (K:=fun v=>next (e.put o.dst v)) (K':=fun v=>next' (a.put o.dst v)) zg j⟩
  grind
 .split at h
  .rename_i s l;exact atW (by grind [aaa]) f h
  grind
structure kO(us:List Nat)(n:Bool)(e e':Env):Prop where
 get:∀ i,i ∉ us->e'.f i=e.f i
 defs:n=A->e'.defers=e.defers
theorem kO.refl(vs:List Nat)(n:Bool)(a:Env):kO vs n a a:=⟨zg,zg⟩
theorem kO.trans{vs:List Nat}{n m:Bool}{a b c:Env}(h:kO vs n a b)(k:kO us m b c):kO (vs++us) (n && m) a c:=
 ⟨fun i hi=>by simp only[a1F,not_or] at hi;rw[k.get i hi.2,h.get i hi.1],fun e=>by
  simp only[a1O] at e;rw[k.defs e.2,h.defs e.1]⟩
theorem kO.mono{vs:List Nat}{n m:Bool}{a b:Env}(h:kO vs n a b)(hv:∀ i∈vs,i∈us)(c:m=A->n=A):kO us m a b:=
 ⟨(by grind [get]),(by grind [defs])⟩
theorem aiO(f:Nat->Y)(h:i≠d)(v:Y):JP f d v i=f i:=by
 grind [JP,Nat.beq,absurd,a3Y]
theorem kO.put{vs:List Nat}{n:Bool}{a b:Env}(h:kO vs n a b){d:Option Nat}(c:∀ t,d=O t->t∈vs)(v:Y):kO vs n a (b.put d v):=by
 cases d with
 | none=>exact h
 | some t=>
  refine⟨fun i hi=>?_,h.defs⟩;have:i≠t:=zg;show JP b.f t v i=_;grind [aiO,get]
def kO.next{n:Bool}{a b c:Env}{o:Oper}(h:kO us n a b)(f:∀ t,o.dst=O t->t∈us)(g:n=A->xC o=G)
  (e:∃ v,c=b.put o.dst v\/∃ d,xC o=A/\c=({ b with defers:=d::b.defers }:Env).put o.dst v):kO us n a c:=by
 obtain⟨v,rfl | ⟨d,hid,rfl⟩⟩:=e
 .grind [put]
 .have i:kO us n a { b with defers:=d::b.defers }:=⟨h.get,zg⟩;grind [put]
def JU(x:Exit)(vs:List Nat)(a:Act)(e:Env):Prop:=
 match x with
 | .panic _=>Rel [] a e
 | _=>Rel vs a e
def vX(x:Exit)(us:List Nat)(n:Bool)(e0 e:Env):Prop:=
 match x with
 | .panic _=>n=A->e.defers=e0.defers
 | _=>kO us n e0 e
def Rel.atX{vs:List Nat}{e:Env}(h:Rel vs a e):Rel [] a e:=⟨h.get,h.defs,zg⟩
theorem JU.of{x:Exit}{vs:List Nat}{e:Env}(h:Rel vs a e):JU x vs a e:=by cases x<;>first | exact h | exact h.atX
theorem JU.get{x:Exit}{vs:List Nat}{a:Act}{e:Env}(h:JU x vs a e):∀ i,a.tmps.getD i undef=e.f i:=by cases x<;>exact Rel.get h
theorem JU.defs{x:Exit}{vs:List Nat}{a:Act}{e:Env}(h:JU x vs a e):a.defers=e.defers:=by cases x<;>exact Rel.defs h
theorem vX.of{x:Exit}{n:Bool}{e0 e:Env}(h:kO us n e0 e):vX x us n e0 e:=by cases x<;>first | exact h | exact h.defs
theorem vX.defs{x:Exit}{us:List Nat}{n:Bool}{e0 e:Env}(h:vX x us n e0 e)(a:n=A):e.defers=e0.defers:=by
 cases x with
 | panic b=>exact h a
 | _=>exact kO.defs h a
theorem vX.trans{x:Exit}{vs us:List Nat}{n m:Bool}{a b c:Env}(h:kO vs n a b)(k:vX x us m b c):vX x (vs++us) (n && m) a c:=by
 cases x with
 | panic d=>exact fun e=>by simp only[a1O] at e;exact(k e.2).trans (h.defs e.1)
 | _=>exact kO.trans h k
theorem vX.mono{x:Exit}{vs us:List Nat}{n m:Bool}{a b:Env}(h:vX x vs n a b)(hv:∀ i∈vs,i∈us)(c:m=A->n=A):vX x us m a b:=by
 cases x with
 | panic d=>exact fun e=>h (c e)
 | _=>exact kO.mono h hv c
abbrev Po(vs us:List Nat)(n:Bool)(e0:Env)(Q:Exit->Env->Z->Prop):Exit->Act->Z->Prop:=fun x a' w'=>∃ e',JU x vs a' e'/\vX x us n e0 e'/\Q x e' w'
def aao{C:mD}(b:Good C){ops:Array Oper}{Q:Exit->Env->Z->Prop}{vs us:List Nat}{n:Bool}{e0:Env}(hv:∀ i∈us,i∈vs):∀ (l:List Oper) (a:Act) (e:Env) (w:Z),
  (∀ o∈l,∀ t,o.dst=O t->t∈us)->(n=A->∀ o∈l,xC o=G)->Rel vs a e->kO us n e0 e->xB C ops Q l e w ->
  wpList C.P ops (Po vs us n e0 Q) l a w
 | [],a,e,w,_,_,hr,c,h=>⟨e,hr,c,h⟩
 | o::l,a,e,w,f,k,hr,c,h=>by
  have ih:=fun a e w=>aao b (ops:=ops) (Q:=Q) (vs:=vs) (us:=us) (n:=n) (e0:=e0) hv l a e w zg zg;have d:=f o (a1A ..);unfold xB at h;unfold wpList;rw[hr.yield];split at h
  .rename_i hw;rw[zip hw];exact .inl (aad b hr zg (fun e' a' w' g _ j hx=>ih a' e' w' g (c.next d zg j) hx) (by grind [JU.of,vX.of,panic]) h)
  .rename_i hw;rw[bM (by simp [hw])];exact ih _ _ _ (hr.put (fun t ht=>hv t (d t ht)) _) (c.put d _) h
def aiP{C:mD}(b:Good C){ops:Array Oper}{w:Z}{Q:Env->Prop}{vs us:List Nat}{n:Bool}{e0:Env}(hv:∀ i∈us,i∈vs):∀ (l:List Oper) (a:Act) (e:Env),
  (∀ o∈l,∀ t,o.dst=O t->t∈us)->Rel vs a e->kO us n e0 e->A8 C ops w Q l e ->
  wpStill C.P ops w (fun a'=>∃ e',Rel vs a' e'/\kO us n e0 e'/\Q e') l a
 | [],a,e,_,hr,c,h=>⟨e,hr,c,h⟩
 | o::l,a,e,f,hr,c,h=>by
  have ih:=fun a e=>aiP b (ops:=ops) (w:=w) (Q:=Q) (vs:=vs) (us:=us) (n:=n) (e0:=e0) hv l a e zg;have d:=f o (a1A ..);unfold A8 at h;unfold wpStill;rw[hr.yield];split at h
  .rename_i hw;rw[zip hw];exact aiN b hr (fun v hx=>ih _ _ (hr.put (fun t ht=>hv t (d t ht)) v) (c.put d v) hx) h
  .rename_i hw;rw[bM (by simp [hw])];exact ih _ _ (hr.put (fun t ht=>hv t (d t ht)) _) (c.put d _) h
theorem R5(l:List Oper)(o:Oper)(a:o∈l)(t:Nat)(ht:o.dst=O t):t∈qY l:=by
 induction l with
 | nil=>grind
 | cons x l ih=>
  grind [qY,a1A,List.mem_cons_of_mem]
def atY{l:List Oper}{n:Bool}(h:n=(l.all fun o=>!xC o)):n=A->∀ o∈l,xC o=false:=by
 grind
def atZ{C:mD}(b:Good C){id:Nat}{ops:Array Oper}{Q:Exit->Env->Z->Prop}{vs:List Nat}{e:Env}(hv:∀ i∈qY ops.toList,i∈vs)(hr:Rel vs a e)(h:xB C ops Q ops.toList e w) :
  (Code.region id ops G).wp C.P (Po vs (qY ops.toList) (ops.toList.all fun o=>!xC o) e Q) a w:=
 wp_region_list (aao b hv ops.toList a e w (R5 _) (atY J) hr (kO.refl _ _ _) h)
def at0{C:mD}(b:Good C){id:Nat}{ops:Array Oper}{Q:Exit->Env->Z->Prop}{vs:List Nat}{e:Env}(hv:∀ i∈qY ops.toList,i∈vs)(hr:Rel vs a e)(hd:We ops n=A)
  (h:A8 C ops w.drew (fun a'=>xB C ops Q (ops.toList.drop n) a' w.drew) (ops.toList.take n) e) :
  (Code.region id ops A).wp C.P (Po vs (qY ops.toList) (ops.toList.all fun o=>!xC o) e Q) a w:=by
 have h1:=aiP b (us:=qY ops.toList) (n:=ops.toList.all fun o=>!xC o) (e0:=e) hv (ops.toList.take n) a e (by grind [R5,List.mem_of_mem_take]) hr (kO.refl _ _ _) h;unfold We at hd;have e:ops=ops.toList.toArray:=zs;split at hd
 .rename_i hn;refine wp_region_still b.mixed hd ?_;have ht:ops.toList.take n=ops.toList:=(by grind [List.take_of_length_le]);have hdp:ops.toList.drop n=[]:=zg;rw[ht,hdp] at h1;exact h1
 .rw[e] at hd ⊢;refine wp_region_still_tail n b.mixed hd ?_;refine aap (fun a' hx=>?_) _ _ h1;obtain⟨e',mf,qy,hx⟩:=hx;exact aao b hv (ops.toList.drop n) a' e' _ (by grind [R5,List.mem_of_mem_drop]) zg mf qy hx
where
 aap {P:Program} {ops:Array Oper} {w:Z} {Q Q':Act->Prop} (hq:∀ a,Q a->Q' a):∀ (l:List Oper) (a:Act),wpStill P ops w Q l a->wpStill P ops w Q' l a
  | [],a,h=>hq a h
  | o::l,a,h=>by
   unfold wpStill at h ⊢;split
   .rename_i hw;rw[zip hw] at h;exact Oper.still_mono (fun a hx=>aap hq l a hx) h
   .rename_i hw;rw[bM hw] at h;exact aap hq l _ h
def aiQ{C:mD}{vs:List Nat}{o:Oper}{e:Env}{S:Z->Prop}{next:Env->Prop}{ops:Array Oper}(hr:Rel vs a e)(hw:a2t o (yielded ops a.tmps)=A)(h:sJ C o e S next) :
  ∃ v,YieldsIf C.P ops S o v a/\next (e.put o.dst v):=by
 have he:=hr.eval;unfold sJ at h;split at h
 .rename_i x b;exact⟨_,.inl ⟨hw,fun w _=>by rw[he];unfold execOp;rw[b];rfl⟩,h⟩
 .rename_i x b;exact⟨_,.inl ⟨hw,fun w _=>by rw[he];unfold execOp;rw[b];rfl⟩,h⟩
 .rename_i c x y b;split at h
  .rename_i g;exact⟨e.eval x,.inl ⟨hw,fun w _=>by rw[he];unfold execOp;rw[b];simp only[g];rfl⟩,h⟩
  .rename_i g;exact⟨e.eval y,.inl ⟨hw,fun w _=>by rw[he];unfold execOp;rw[b];simp only[g];rfl⟩,h⟩
  grind
 .rename_i x b;obtain⟨d,f⟩:=aac b h;exact⟨_,.inl ⟨hw,fun w _=>by rw[he,d];rfl⟩,f⟩
 .split at h
  .rename_i s i;obtain⟨v,d,f⟩:=h;exact⟨v,.inl ⟨hw,fun w j=>by rw[he,aaa i,RV,d w j]⟩,RW (K:=fun v=>next (e.put o.dst v)) (fun _ h=>h) f⟩
  .split at h
   .rename_i s i;obtain⟨v,d,f⟩:=h;exact⟨v,.inl ⟨hw,fun w j=>by rw[he,aiC (atE i),RV,d w j]⟩,f⟩
   grind
theorem R6:∀ {l:List Nat} {t:Nat},t∈l->rG t l=A
 | j::r,t,h=>by
  unfold rG;cases a:Nat.beq t j
  .rw[cond_false];rcases a1z.1 h with h | h
   .subst h;simp at a
   .exact R6 h
  .rfl
abbrev Wl(dl vs us:List Nat)(n:Bool)(e0:Env)(Q:Exit->Env->Z->Prop)(x:Exit)(a:Act)(w:Z):Prop:=
 match x with
 | .panic b=>(n=A->a.defers=e0.defers)/\∀ f,(∀ t,rG t dl=G->f t=a.tmps.getD t undef)->Q (.panic b) ⟨f,a.defers⟩ w
 | x=>Po vs us n e0 Q x a w
def Wm{vs:List Nat}{n:Bool}{e0:Env}{Q:Exit->Env->Z->Prop}{c:List PanicEntry}{d:Option Nat}(e:∀ t,d=O t->rG t ft=A)(h:Wl ft vs us n e0 Q (.panic c) (a.put d v) w):Wl ft vs us n e0 Q (.panic c) a w:=by
 cases d with
 | none=>exact h
 | some t0=>
  refine⟨h.1,fun f b=>h.2 f fun t ht=>?_⟩;have g:t≠t0:=zg;rw[b t ht];simp only[Act.put,a2S];grind
def aiR{C:mD}(b:Good C){ops:Array Oper}{Q:Exit->Env->Z->Prop}{S:Z->Prop}{m:Option Nat}{vs us:List Nat}{n:Bool}{e0:Env}(hv:∀ i∈us,i∈vs)(k:Region.noSelect ops=A)
  (I:∀ (i:Nat) (o:Oper),ops[i]?=O o->∀ t,o.dst=O t->t∈us) (R:∀ (i:Nat) (o:Oper),ops[i]?=O o->∀ t,o.dst=O t->t∈qY ops.toList) (T:n=A->∀ (i:Nat) (o:Oper),ops[i]?=O o->xC o=G) :
  ∀ (l:List Nat) (listed:Array Bool) (a:Act) (e:Env) (w:Z),Rel vs a e->kO us n e0 e->(uw m listed=A->S w)->mQ C ops Q S m l listed e w ->
   JR C.P .any ops (Wl (qY ops.toList) vs us n e0 Q) S m l.length listed a w
 | [],listed,a,e,w,hr,q,p,h=>by
  unfold mQ at h;split at h
  .rename_i r;exact⟨r,e,hr,q,h⟩
  grind
 | i::l,listed,a,e,w,hr,q,p,h=>by
  have ih:=aiR b (Q:=Q) (S:=S) (m:=m) (vs:=vs) (us:=us) (n:=n) (e0:=e0) hv k I R T l;unfold mQ at h;split at h
  .grind
  .rename_i o d;have L:=I i o d;have U:∀ v,Rel vs (a.put o.dst v) (e.put o.dst v):=(by grind [Rel.put]);have lV:∀ v,kO us n e0 (e.put o.dst v):=(by grind [kO.put]);rw[<- hr.yield] at h;split at h
   .rename_i r;have r:Region.ready .any ops listed=[i]:=zg;refine⟨zg,fun j M=>?_⟩;have Wg:=(mem_ready.1 M).1;rw[r] at M;have:j=i:=zg;subst this;have W:uw m (listed.setIfInBounds j A)=A->uw m listed=true:=fun N=>by
     cases m with
     | none=>rfl
     | some m=>
      simp only[uw,Bool.not_eq_true'] at N ⊢;by_cases y:j=m
      .grind
      .rw[getD_set_ne A y] at N;omega
    unfold wpOp;rw[d];dsimp only;split at h
    .grind
    .rename_i hw;rw[zip hw];refine .inl ?_;split at h
     .refine Oper.wp_of_still (K:=fun a'=>(uw m (listed.setIfInBounds j A)=A->S w)/\JR C.P .any ops (Wl (qY ops.toList) vs us n e0 Q) S m l.length (listed.setIfInBounds j A) a' w) zg (aiN b hr (fun v hx=>?_) h);grind
     .split at h
      .exact aad b hr zg (fun e' a' w' z _ B hx=>⟨zg,ih _ _ _ _ z (q.next L zg B) zg hx.2⟩) (fun X w' hx=>⟨fun D=>by rw[hr.defs];grind [kO.defs],fun f E=>by
        rw[hr.defs];have hx:=hx f;have D:(fun t=>cond (rG t (qY ops.toList)) (f t) (e.f t))=f:=funext fun t=>by
         cases hm:rG t (qY ops.toList)
         .rw[cond_false,E t hm,hr.get]
         .rfl
        grind⟩) h
      .rename_i rf;exact aad b hr zg (fun e' a' w' z _ B hx=>⟨zg,ih _ _ _ _ z (q.next L zg B) zg hx⟩) (fun X w' hx=>⟨fun D=>by rw[hr.defs];grind [kO.defs],fun f E=>by
        rw[hr.defs];have hx:=hx f;have D:(fun t=>cond (rG t (qY ops.toList)) (f t) (e.f t))=f:=funext fun t=>by
         cases hm:rG t (qY ops.toList)
         .rw[cond_false,E t hm,hr.get]
         .rfl
        grind⟩) h
   .split at h
    .grind
    .rename_i F;simp only[a1O] at F;have s:i∈Region.ready .any ops listed:=zg;have u:=Region.free_spec d F.1.2;rcases atP F.2 with⟨g,c2,c3⟩| ⟨g,c2⟩
     .split at h
      .rename_i hw;exact aiE d (a34 k) (fun c a w h=>Wm (by grind [R6]) h) g l.length listed a w u c2 s (.inr ⟨hw,J⟩) (p c3) zg
      .rename_i hw;obtain⟨v,H,hx⟩:=aiQ (ops:=ops) hr hw h;exact aiE d (a34 k) (fun c a w h=>Wm (by grind [R6]) h) g l.length listed a w u c2 s H (p c3) zg
     .have W:uw m (listed.setIfInBounds i A)=uw m listed:=by
       cases m with
       | none=>rfl
       | some m'=>simp only[uw];rw[getD_set_ne A (g m' J)]
      split at h
      .rename_i hw;exact aiG d (a34 k) (fun c a w h=>Wm (by grind [R6]) h) g l.length listed a w u s (.inr ⟨hw,J⟩) p zg
      .rename_i hw;obtain⟨x,hox⟩:∃ x,o.op = .move x:=by
        grind [Z8]
       have h':sJ C o e (fun _=>True) (fun a'=>mQ C ops Q S m l (listed.setIfInBounds i A) a' w):=by
        grind [sJ]
       obtain⟨v,H,hx⟩:=aiQ (ops:=ops) hr hw h';exact aiG d (a34 k) (fun c a w h=>Wm (by grind [R6]) h) g l.length listed a w u s H p zg
def at5{C:mD}(b:Good C){id:Nat}{ops:Array Oper}{Q:Exit->Env->Z->Prop}{vs:List Nat}{e:Env}(hv:∀ i∈qY ops.toList,i∈vs)(hr:Rel vs a e)(c:(ft.length == ops.size && Region.noSelect ops)=A)
  (h:HD fun S=>S w.drew/\mQ C ops Q S (Z9 m) ft (Array.replicate ops.size G) e w.drew) :
  (Code.region id ops A).wp C.P (Po vs (qY ops.toList) (ops.toList.all fun o=>!xC o) e Q) a w:=by
 simp only[a1O,beq_iff_eq] at c;obtain⟨S,g,h⟩:=h;have hm:∀ (i:Nat) (o:Oper),ops[i]?=O o->o∈ops.toList:=zg;have d:=aiR b (us:=qY ops.toList) (n:=ops.toList.all fun o=>!xC o) (e0:=e) hv c.2 (by grind [R5]) (by grind [R5]) zg ft _ a e _ hr (kO.refl _ _ _) zg h;rw[c.1] at d;refine wp_mono (wp_region_any b.mixed (aiD _ _ _ _ d)) fun x a' w' f=>?_;cases x with
 | panic j=>exact⟨⟨fun i=>a'.tmps.getD i undef,a'.defers⟩,⟨zg,J,zg⟩,f.1,zg⟩
 | _=>exact f
theorem aaq(i:Nat):∀ l:List Nat,rG i l=A↔i∈l
 | []=>by simp [rG]
 | j::r=>by
  unfold rG;cases a:Nat.beq i j
  .rw[cond_false,aaq i r,a1z];have:i≠j:=fun e=>by subst e;simp at a
   grind
  .rw[cond_true];grind [a3Y]
def aar{a a':Env}{vs:List Nat}(h:kO vs A a a')(live:List Nat) :
  fr a vs live (jg (zV a' live)) a'.f=a':=by
 have c:∀ (l:List Nat) (i:Nat),i∈l->jg (zV a' l) i=a'.f i:=by
  intro l i;induction l with
  | nil=>grind
  | cons j r ih=>
   intro hx;simp only[zV,a2x,jg];by_cases e:j=i
   .grind
   .rw[bM e];rcases a1z.1 hx with hx | hx
    .omega
    .exact ih hx
 have b:=h.defs J;cases a' with
 | mk f' df=>
 cases a with
 | mk f0 d=>
 simp only at b c;subst b;simp only[fr]
 congr 1
 funext i
 unfold RU;cases g:rG i live
 .rw[cond_false];cases k:rG i vs
  .rw[cond_false];exact(h.get i (by grind [aaq])).symm
  grind
 .rw[cond_true];grind [aaq]
def JV{K:Env->Prop}:∀ (l:List Nat) (a:Env),qt l a K->K a
 | [],_,h=>h
 | i::r,a,h=>by
  have key:∀ c:Bool,a.f i = .bool c->a.put (O i) (.bool c)=a:=by
   intro c b;cases a with
   | mk f df=>
   simp only at b;simp only[Env.put]
   congr 1
   grind [JP,Nat.beq,aiO]
  unfold qt BS at h;split at h
  .rename_i c b;cases c
   .have:=JV r _ (h.2 J);grind
   .have:=JV r _ (h.1 J);grind
  grind
def aiT{vs:List Nat}{n:Bool}{e0:Env}{Q:Exit->Env->Z->Prop}{x:Exit}(h:Po vs us n e0 Q x a w)(hv:∀ i∈us,i∈ft)(b:xE=A->n=A):Po vs ft xE e0 Q x a w:=by
 grind [vX.mono]
def Bc{C:mD}(g:Good C){vs:List Nat}:∀ (c:Code) (Q:Exit->Env->Z->Prop) (a:Act) (e:Env) (w:Z),(∀ i∈wr c,i∈vs)->Rel vs a e->gn C c Q e w ->
  c.wp C.P (Po vs (wr c) (nd c) e Q) a w
 | .skip,Q,a,e,w,hv,hr,h=>wp_skip ⟨e,hr,kO.refl _ _ _,h⟩
 | .region id ops draw,Q,a,e,w,hv,hr,h=>by
  unfold gn at h;cases draw with
  | false=>exact atZ g hv hr h
  | true=>
   dsimp only at h;split at h
   .grind
   .split at h
    .rename_i U;exact at5 g hv hr U h
    grind
   .split at h
    .rename_i W;exact at0 g hv hr W h
    grind
 | .seq x y,Q,a,e,w,hv,hr,h=>by
  have q:∀ i∈wr x,i∈vs:=fun i hi=>hv i (a1F.2 (.inl hi));have r:∀ i∈wr y,i∈vs:=fun i hi=>hv i (a1F.2 (.inr hi));have s:nd (.seq x y)=A->nd x=true:=fun e=>by simp only[nd,a1O] at e;grind
  unfold gn at h;split at h
  .refine wp_seq (wp_mono (Bc g x _ a e w q hr h) fun z a' w' j=>?_);obtain⟨e',o,k,j⟩:=j;cases z with
   | normal=>
    refine wp_mono (Bc g y Q a' e' w' r o j) fun z u R p=>?_;obtain⟨B,D,E,p⟩:=p;exact⟨B,D,vX.trans k E,p⟩
   | _=>exact⟨e',o,k.mono (fun i hi=>a1F.2 (.inl hi)) s,j⟩
  .rename_i live hj;split at h
   .rename_i K;split at h
    .unfold JN at h;refine wp_seq (wp_mono (Bc g x _ a e w q hr h) fun z a' w' j=>?_);obtain⟨e',o,k,j⟩:=j;cases z with
     | normal=>
      have F:=k;rw[K] at F;have j:=j e'.f;have j:=JV _ _ j;rw[aar F live] at j;refine wp_mono (Bc g y Q a' e' w' r o j) fun z u R p=>?_;obtain⟨B,D,E,p⟩:=p;exact⟨B,D,vX.trans k E,p⟩
     | _=>exact⟨e',o,k.mono (fun i hi=>a1F.2 (.inl hi)) s,j⟩
    .unfold JS at h;obtain⟨d,h,X⟩:=h;refine wp_seq (wp_mono (Bc g x _ a e w q hr h) fun z a' w' j=>?_);obtain⟨e',o,k,j⟩:=j;cases z with
     | normal=>
      have F:=k;rw[K] at F;have j:=X _ _ j e'.f;have j:=JV _ _ j;rw[aar F live] at j;refine wp_mono (Bc g y Q a' e' w' r o j) fun z u R p=>?_;obtain⟨B,D,E,p⟩:=p;exact⟨B,D,vX.trans k E,p⟩
     | _=>exact⟨e',o,k.mono (fun i hi=>a1F.2 (.inl hi)) s,j⟩
   grind
 | .cond c x y,Q,a,e,w,hv,hr,h=>by
  have ht:a.eval c = .bool A->gn C x Q e w->(Code.cond c x y).wp C.P (Po vs (wr (.cond c x y)) (nd (.cond c x y)) e Q) a w:=fun M h=>
   wp_cond_true M (wp_mono (Bc g x Q a e w (fun i hi=>hv i (a1F.2 (.inl hi))) hr h) fun z a' w' j=>aiT j (fun i hi=>a1F.2 (.inl hi)) (fun e=>by simp only[nd,a1O] at e;grind))
  have hf:a.eval c = .bool G->gn C y Q e w->(Code.cond c x y).wp C.P (Po vs (wr (.cond c x y)) (nd (.cond c x y)) e Q) a w:=fun M h=>
   wp_cond_false M (wp_mono (Bc g y Q a e w (fun i hi=>hv i (a1F.2 (.inr hi))) hr h) fun z a' w' j=>aiT j (fun i hi=>a1F.2 (.inr hi)) (fun e=>by simp only[nd,a1O] at e;grind))
  unfold gn at h;rw[<- hr.eval] at h;split at h
  .unfold BS at h;split at h
   .rename_i b H;cases b with
    | true=>grind
    | false=>grind
   grind
  grind
 | .block id c,Q,a,e,w,hv,hr,h=>by
  unfold gn at h;refine wp_block (wp_mono (Bc g c _ a e w hv hr h) fun z a' w' j=>?_);obtain⟨e',o,k,j⟩:=j;cases z with
  | exit N=>
   unfold Ge tid at j;dsimp only at j;cases H:Nat.beq N id with
   | true=>
    rw[H] at j;have t:N=id:=a3Y H;simp only[Exit.inBlock,zip t];exact⟨e',o,k,j⟩
   | false=>
    rw[H] at j;have t:¬ N=id:=fun e=>by subst e;simp at H
    simp only[Exit.inBlock,bM t];exact⟨e',o,k,j⟩
  | _=>exact⟨e',o,k,j⟩
 | .exit id,Q,a,e,w,hv,hr,h=>wp_exit ⟨e,hr,kO.refl _ _ _,h⟩
 | .ret,Q,a,e,w,hv,hr,h=>wp_ret ⟨e,hr,kO.refl _ _ _,h⟩
 | .loop c,Q,a,e,w,hv,hr,h=>by
  unfold gn at h;split at h
  .rename_i K;obtain⟨I,⟨n0,h0⟩,Mz⟩:=h;refine wp_loop_ghost (fun n a' w'=>∃ e',Rel vs a' e'/\kO (wr c) A e e'/\I n (jg (zV e' (C.live (H4 c)))) w') (by grind [kO.refl]) ?_;rintro n a1 w1 ⟨t,pk,S,hi⟩;have L:=Mz n _ t.f w1 hi;have L:=JV _ _ L;rw[aar S] at L;refine wp_mono (Bc g c _ a1 t w1 hv pk L) fun z a' w' j=>?_;obtain⟨e',o,k,j⟩:=j;rw[K] at k;have T:vX z (wr c) A e e':=(vX.trans S k).mono zg zg;cases z with
   | normal=>
    obtain⟨m,hm,hi⟩:=j;exact⟨m,hm,e',o,T,hi⟩
   | _=>exact⟨e',o,T.mono (fun i hi=>hi) zg,j⟩
  grind
 | .rangeFunc _ _ _ _,_,_,_,_,_,_,h=>h.elim
 | .scope c,Q,a,e,w,hv,hr,h=>by
  unfold gn at h;refine wp_scope_straight (wp_mono (Bc g c _ a e w hv hr h) fun z a' w' j=>?_);obtain⟨e',o,k,j⟩:=j;cases z with
  | goto l=>exact j.elim
  | _=>exact⟨e',o,k,j⟩
 | .label l,Q,a,e,w,hv,hr,h=>wp_label ⟨e,hr,kO.refl _ _ _,h⟩
 | .goto _,_,_,_,_,_,_,h=>h.elim
 | .refuse _,_,_,_,_,_,_,h=>h.elim
def H8(P:Program):List ResultVar->Array Y->Z->List Y->(List Y->Prop)->Prop
 | [],_,_,acc,K=>K acc
 | .tmp t::rs,tm,w,acc,K=>H8 P rs tm w (acc++[tm.getD t undef]) K
 | .cell a t::rs,tm,w,acc,K=>RD P (a1G t (tm.getD a undef)) w (fun v=>H8 P rs tm w (acc++[v]) K) (fun _ _=>False)
def one:List Y->Y
 | [v]=>v
 | l=>ak l.toArray
def Wq(tm:Array Y):ResultVar->Sem Y
 | .tmp t=>pure (tm.getD t undef)
 | .cell a t=>do loadVar t (<- asAddr (tm.getD a undef))
def aav{P:Program}{tm:Array Y}{w:Z}:∀ (l:List ResultVar) (acc:List Y) (K:List Y->Prop),H8 P l tm w acc K ->
  ∃ vs,(l.mapM (Wq tm)).run P w=Result.ok vs w/\K (acc++vs)
 | [],acc,K,h=>⟨[],J,by grind [H8]⟩
 | .tmp t::l,acc,K,h=>by
  obtain⟨vs,b,c⟩:=aav l _ K h;refine⟨tm.getD t undef::vs,?_,by simpa using c⟩;rw[List.mapM_cons];simp only[Wq,a1C,a2i,a1B];rw[b];rfl
 | .cell a t::l,acc,K,h=>by
  unfold H8 RD at h;cases hr:(a1G t (tm.getD a undef)).run P w with
  | halt x w'=>grind
  | ok v w'=>
   rw[hr] at h;obtain⟨rfl,h⟩:=h;obtain⟨vs,b,c⟩:=aav l _ K h;refine⟨v::vs,?_,zg⟩;rw[List.mapM_cons];have e:(Wq tm (.cell a t)).run P w' = .ok v w':=by
    rw[<- hr];show(do loadVar t (<- asAddr (tm.getD a undef)):Sem Y).run P w'=_;unfold a1G;generalize tm.getD a undef=u at *;unfold a1G at hr;cases u with
    | pointer p=>
     cases p with
     | none=>simp only[a1C] at hr;cases hr
     | some p=>rfl
    | _=>simp only[a1C] at hr;cases hr
   grind [a1C,a2i,a1B]
def Sa{P:Program}{K:List Y->Prop}(h:H8 P fn.results.toList iB w [] K) :
  ∃ l,(results fn iB).run P w = .ok (one l) w/\K l:=by
 obtain⟨vs,a,c⟩:=aav _ _ _ h;refine⟨vs,?_,zg⟩;unfold results;show(Sem.bind (fn.results.mapM (Wq iB)) fun vs=>pure (if h:vs.size=1 then vs[0] else ak vs)).run P w=_;rw[Sem.run_bind',Array.mapM_eq_mapM_toList];simp only[Sem.run_map];rw[a];simp only[a1B,a2i]
 congr 1
 unfold one;split
 .rename_i b
  match vs,b with
  | [v],_=>rfl
 grind
def vd(P:Program):List ResultVar->(Nat->Y)->Z->List Y->(List Y->Prop)->Prop
 | [],_,_,acc,K=>K acc
 | .tmp t::rs,f,w,acc,K=>vd P rs f w (acc++[f t]) K
 | .cell a t::rs,f,w,acc,K=>RD P (a1G t (f a)) w (fun v=>vd P rs f w (acc++[v]) K) (fun _ _=>False)
def MA{P:Program}{tm:Array Y}{f:Nat->Y}(h:∀ i,tm.getD i undef=f i)(w:Z):∀ (l:List ResultVar) (acc:List Y) (K:List Y->Prop),vd P l f w acc K->H8 P l tm w acc K
 | [],acc,K,hk=>hk
 | .tmp t::l,acc,K,hk=>by
  unfold vd at hk;unfold H8;rw[h];exact MA h w l _ K hk
 | .cell a t::l,acc,K,hk=>by
  unfold vd RD at hk;unfold H8 RD;rw[h];cases hr:(a1G t (f a)).run P w with
  | ok v w'=>rw[hr] at hk;exact⟨hk.1,MA h w l _ K hk.2⟩
  | halt x w'=>grind
def JW(P:Program)(fn:Func)(R:Ending->Z->Prop):Exit->Env->Z->Prop
 | .normal,a,w | .ret,a,w=>tid (vd P fn.results.toList a.f w [] fun l=>R (ah (one l)) w)
 | .panic b,_,w=>R (.panicked b) w
 | _,_,_=>False
def Pe:List Y->Nat->Y
 | [],_=>undef
 | v::_,0=>v
 | _::r,i+1=>Pe r i
def vZ(args:List Y):Env:={ f:=Pe args,defers:=[] }
def aiV:∀ (l:List Y) (i:Nat),Pe l i=l.getD i undef
 | [],i=>by simp [Pe]
 | v::r,0=>rfl
 | v::r,i+1=>by
  unfold Pe;rw[aiV r i];simp
def aaw{args:List Y}{vs:List Nat}(hv:vs.all (fun i=>decide (i<n))=A)(a:args.length<=n) :
  Rel vs { tmps:=args.toArray++Array.replicate (n-args.toArray.size) undef,defers:=[] } (vZ args):=by
 refine⟨fun i=>?_,J,fun i hi=>?_⟩
 .show _=Pe args i;rw[aiV];simp only[a2S,List.getD_eq_getElem?_getD,Array.getElem?_append];grind
 grind
def calls{C:mD}(a:Good C){f:FuncId}{c:Code}{args:List Y}(m:C.P.funcs[f]?=O fn)(n:fn.body=O c)
  (o:nd c=A) (hv:((wr c).all fun i=>decide (i<fn.ntmps))=A) (p:args.length<=fn.ntmps) (h:gn C c (JW C.P fn R) (vZ args) w):Calls C.P f args.toArray w R:=by
 refine calls_of_wp m n (wp_mono (Bc a c _ _ (vZ args) w zg (aaw hv p) h) fun e a' w' q=>?_);obtain⟨e',d,r,b⟩:=q;have g:a'.defers=[]:=by rw[d.defs];exact r.defs o
 cases e with
 | normal=>obtain⟨l,j,k⟩:=Sa (MA d.get w' _ _ _ b);exact⟨g,_,j,k⟩
 | ret=>obtain⟨l,j,k⟩:=Sa (MA d.get w' _ _ _ b);exact⟨g,_,j,k⟩
 | panic s=>exact⟨g,b⟩
 | _=>exact b.elim
def LV(P:Program)(res:Z->Prop)(R:Ending->Z->Prop):List Deferred->FrameMode->Z->Prop
 | [],.returning,w=>res w
 | [],.panicking chain,w=>R (.panicked chain) w
 | [],.run,_=>False
 | d::ds,u,w=>u≠.run/\∃ b cap f args,d.target = .fn b cap/\(invoke d.target d.args).run P w = .ok (.enter f args) w /\
  CallsD P f args u w fun
   | ah _,a,w'=>LV P res R ds (settle a) w'
   | .panicked chain,a,w'=>LV P res R ds (raised a chain) w'
   | .outgrown,_,_=>False
theorem CallsD.mono{P:Program}{f:FuncId}{args:Array Y}{u:FrameMode}{R a:Ending->FrameMode->Z->Prop}(h:CallsD P f args u w R)
  (hr:∀ e u w,R e u w->a e u w):CallsD P f args u w a:=
 fun c cs b=>let ⟨e,d,w',fr,g,i⟩:=h c cs b; zg
def Sc{P:Program}{fn:Func}{tm:Array Y}{f:Nat->Y}(a:∀ i,tm.getD i undef=f i){R:Ending->Z->Prop}:∀ (ds:List Deferred) (u:FrameMode) (w:Z),
  LV P (fun w=>vd P fn.results.toList f w [] fun l=>R (ah (one l)) w) R ds u w->Leaves P fn tm R ds u w
 | [],.returning,w,h=>by obtain⟨l,b,c⟩:=Sa (MA a w _ _ _ h);exact⟨_,b,c⟩
 | [],.panicking _,w,h=>h
 | [],.run,w,h=>h.elim
 | d::ds,u,w,h=>by
  obtain⟨b,g,cap,f,args,c,j,k⟩:=h;refine⟨b,g,cap,f,args,c,j,CallsD.mono k fun e m w' he=>?_⟩;cases e with
  | returned v=>exact Sc a ds _ _ he
  | panicked n=>exact Sc a ds _ _ he
  | outgrown=>grind
def MC(P:Program)(fn:Func)(R:Ending->Z->Prop):Exit->Env->Z->Prop
 | .normal,a,w | .ret,a,w=>LV P (fun w=>vd P fn.results.toList a.f w [] fun l=>R (ah (one l)) w) R a.defers .returning w
 | .panic b,a,w=>LV P (fun w=>vd P fn.results.toList a.f w [] fun l=>R (ah (one l)) w) R a.defers (.panicking b) w
 | _,_,_=>False
def at6{C:mD}(a:Good C){f:FuncId}{c:Code}{args:List Y}(g:C.P.funcs[f]?=O fn)(j:fn.body=O c)
  (hv:((wr c).all fun i=>decide (i<fn.ntmps))=A) (k:args.length<=fn.ntmps) (h:gn C c (MC C.P fn R) (vZ args) w):Calls C.P f args.toArray w R:=by
 refine calls_of_wp_defers g j (wp_mono (Bc a c _ _ (vZ args) w zg (aaw hv k) h) fun e a' w' l=>?_);obtain⟨e',b,m,d⟩:=l;cases e with
 | normal=>show Leaves _ _ _ _ _ _ _;rw[b.defs];exact Sc b.get _ _ _ d
 | ret=>show Leaves _ _ _ _ _ _ _;rw[b.defs];exact Sc b.get _ _ _ d
 | panic n=>show Leaves _ _ _ _ _ _ _;rw[b.defs];exact Sc b.get _ _ _ d
 | _=>exact d.elim
def at7{C:mD}(b:Good C){f:FuncId}{c:Code}{args:List Y}{S:Prop}(e:C.P.funcs[f]?=O fn)(g:fn.body=O c)
  (j:nd c=A) (hv:((wr c).all fun i=>decide (i<fn.ntmps))=A) (k:args.length<=fn.ntmps) (d:List Nat) (he:qt d (vZ args) (fun a=>gn C c (JW C.P fn R) a w)=S) (h:S):Calls C.P f args.toArray w R:=
 calls b e g j hv k (JV d _ (he ▸ h))
def aua{C:mD}(b:Good C){f:FuncId}{c:Code}{args:List Y}{S:Prop}(e:C.P.funcs[f]?=O fn)(g:fn.body=O c)
  (hv:((wr c).all fun i=>decide (i<fn.ntmps))=A) (j:args.length<=fn.ntmps) (d:List Nat) (he:qt d (vZ args) (fun a=>gn C c (MC C.P fn R) a w)=S) (h:S):Calls C.P f args.toArray w R:=
 at6 b e g hv j (JV d _ (he ▸ h))
def B8{P:Program}{res:Z->Prop}{R:Ending->Z->Prop}{k:FuncId}{cap args:Array Y}{ds:List Deferred}{u:FrameMode}{w:Z}(hk:zR P k=A)(hu:u≠.run)
  (h:CallsD P k (args++cap) u w fun
   | ah _,a,w'=>LV P res R ds (settle a) w'
   | .panicked chain,a,w'=>LV P res R ds (raised a chain) w'
   | .outgrown,_,_=>False):LV P res R ({ target:=.fn (.func k) cap,args:=args }::ds) u w:=
 ⟨hu,_,_,k,args++cap,J,RX hk (args++cap) w,h⟩
def aax{P:Program}:LV P res R [] .returning w=res w:=rfl
def aay{P:Program}{a:List PanicEntry}:LV P res R [] (.panicking a) w=R (.panicked a) w:=rfl
def Wr(f:Fn)(x y:Array Y)(K:Fn->Array Y->Array Y->Prop):DF (.func f x y) K=K f x y:=rfl
def aub{C:mD}(b:Good C){f:FuncId}{c:Code}{args:List Y}{u:FrameMode}{S:Prop}(o:C.P.funcs[f]?=O fn)(p:fn.body=O c)
  (q:nd c=A) (hv:((wr c).all fun i=>decide (i<fn.ntmps))=A) (r:args.length<=fn.ntmps) (n:List Nat) (he:qt n (vZ args) (fun a=>gn C c (JW C.P fn R) a w)=S) (h:S) :
  CallsD C.P f args.toArray u w fun e s w'=>s=u/\R e w':=by
 have h:=JV n _ (he ▸ h);refine callsD_of_wp o p (wp_mono (Bc b c _ _ (vZ args) w zg (aaw hv r) h) fun e a' w' t=>?_);obtain⟨e',g,x,d⟩:=t;have j:a'.defers=[]:=by rw[g.defs];exact x.defs q
 cases e with
 | normal=>obtain⟨l,k,m⟩:=Sa (MA g.get w' _ _ _ d);exact⟨j,_,k,m⟩
 | ret=>obtain⟨l,k,m⟩:=Sa (MA g.get w' _ _ _ d);exact⟨j,_,k,m⟩
 | panic y=>exact⟨j,d⟩
 | _=>exact d.elim
def cq{C:mD}(b:Good C){f:FuncId}{c:Code}{args:List Y}{S:Prop}(d:C.P.funcs[f]?=O fn)(e:fn.body=O c)
  (hk:(nd c && ((wr c).all fun i=>decide (i<fn.ntmps)) && Nat.ble args.length fn.ntmps)=A) (he:qt [] (vZ args) (fun a=>gn C c (JW C.P fn R) a w)=S) (h:S):Calls C.P f args.toArray w R:=by
 simp only[a1O] at hk;exact at7 b d e hk.1.1 hk.1.2 (Nat.le_of_ble_eq_true hk.2) [] he h
abbrev bo(op:BinOp)(t:TypeId)(x y:Operand)(a b:Y):Sem Y:=do eqGuard op t x y a b;binOp op t a b
def Gj(P:Program)(s:Sem Y)(w:Z)(K:Y->Prop)(X:Y->Z->Prop):Prop:=RD P s w K X
def WU0(P:Program)(s:Sem Unit)(w:Z)(K:Z->Prop)(X:Y->Z->Prop):Prop:=WU P s w K X
def WR0(P:Program)(s:Sem Y)(w:Z)(K:Y->Z->Prop)(X:Y->Z->Prop):Prop:=WR P s w K X
def gQ{P:Program}{s:Sem Y}(h:s.run P w = .ok v w):RD P s w K X=K v:=by
 unfold RD;grind
def auc{P:Program}{s:Sem Y}(h:s.run P w = .halt (.panic v) w'):RD P s w K X=X v w':=by
 unfold RD;grind
def xF{P:Program}{s:Sem Y}{K:Y->Z->Prop}(h:s.run P w = .ok v w'):WR P s w K X=K v w':=by
 unfold WR;grind
def Sd{P:Program}{s:Sem Unit}{K:Z->Prop}(h:s.run P w = .ok () w'):WU P s w K X=K w':=by
 unfold WU;grind
def jx(a:Addr)(K:Y->Prop):NC (aq (O a)) K=K (aq (O a)):=rfl
def aaA(t:TypeId)(x:Y)(K:Y->Prop):NC (aj t x) K=K (aj t x):=rfl
def aaB(f:FuncId)(x y:Array Y)(K:Y->Prop):NC (.func (.func f) x y) K=K (.func (.func f) x y):=rfl
def Pf(a B:Prop):BS (.bool A) a B=a:=by simp [BS]
def Pg(a B:Prop):BS (.bool G) a B=B:=by simp [BS]
def Gk{p:Prop}[Decidable p](a B:Prop)(h:p):BS (.bool (decide p)) a B=a:=by simp [BS,h]
def Gl{p:Prop}[Decidable p](a B:Prop)(h:¬ p):BS (.bool (decide p)) a B=B:=by simp [BS,h]
def aaC{p:Prop}[Decidable p](a B:Prop):BS (.bool (decide p)) a B=((p->a)/\(¬ p->B)):=by simp [BS]
section
variable{P:Program}{t:TypeId}{x y:Operand}{w:Z}{K:Y->Prop}{X:Y->Z->Prop}
def aaD(k:IntKind)(a b:Int):RD P (bo .add t x y (.int k a) (.int k b)) w K X=K (.int k (k.wrap (a+b))):=
 gQ (by simp [bo,eqGuard,binOp,Op.intArith])
def aaE(k:IntKind)(a b:Int):RD P (bo .sub t x y (.int k a) (.int k b)) w K X=K (.int k (k.wrap (a-b))):=
 gQ (by simp [bo,eqGuard,binOp,Op.intArith])
def aaF(k:IntKind)(a b:Int):RD P (bo .mul t x y (.int k a) (.int k b)) w K X=K (.int k (k.wrap (a*b))):=
 gQ (by simp [bo,eqGuard,binOp,Op.intArith])
def aaG(k:IntKind)(a b:Int):RD P (bo .lss t x y (.int k a) (.int k b)) w K X=K (.bool (decide (a<b))):=
 gQ (by simp [bo,eqGuard,binOp,a5E])
def aaH(k:IntKind)(a b:Int):RD P (bo .leq t x y (.int k a) (.int k b)) w K X=K (.bool (decide (a<=b))):=
 gQ (by simp [bo,eqGuard,binOp,a5E])
def aaI(k:IntKind)(a b:Int):RD P (bo .gtr t x y (.int k a) (.int k b)) w K X=K (.bool (decide (b<a))):=
 gQ (by simp [bo,eqGuard,binOp,a5E])
def aaJ(k:IntKind)(a b:Int):RD P (bo .geq t x y (.int k a) (.int k b)) w K X=K (.bool (decide (b<=a))):=
 gQ (by simp [bo,eqGuard,binOp,a5E])
def aaK(k:IntKind)(a b:Int):RD P (bo .eql t x y (.int k a) (.int k b)) w K X=K (.bool (decide (a=b))):=
 gQ (by simp [bo,eqGuard,binOp,a5E];grind)
def aaL(k:IntKind)(a b:Int):RD P (bo .neq t x y (.int k a) (.int k b)) w K X=K (.bool (decide (¬ a=b))):=
 gQ (by simp [bo,eqGuard,binOp,a5E];grind)
def aaM(b:Bool):RD P (Op.unary .not (.bool b)) w K X=K (.bool !b):=gQ J
def aaN(k:IntKind)(n:Int):RD P (Op.unary .neg (.int k n)) w K X=K (.int k (k.wrap (0-n))):=gQ J
def aaO(a b:List UInt8):RD P (bo .eql t x y (.string (bs a)) (.string (bs b))) w K X=K (.bool (decide (a=b))):=
 gQ (by simp [bo,eqGuard,binOp,Op.stringOp];grind)
def aaP(a b:List UInt8):RD P (bo .neq t x y (.string (bs a)) (.string (bs b))) w K X=K (.bool (decide (¬ a=b))):=
 gQ (by simp [bo,eqGuard,binOp,Op.stringOp];grind)
end
section
variable{P:Program}{t:TypeId}{x y:Operand}{w:Z}{K:Y->Prop}{X:Y->Z->Prop}
def B9(a b:List UInt8)(h:a.length+b.length<=4294967296):RD P (bo .add t x y (.string (bs a)) (.string (bs b))) w K X=K (.string (bs (a++b))):=by
 refine gQ ?_;have c:¬ (IntKind.i64.max<(((bs a).size+(bs b).size:Nat):Int)):=by
  have d:(bs a).size=a.length:=by simp [ByteArray.size]
  have f:(bs b).size=b.length:=by simp [ByteArray.size]
  have g:IntKind.i64.max=9223372036854775807:=zd;omega
 have e:bs a++bs b=bs (a++b):=by
  apply ByteArray.ext;grind [ByteArray.data_append]
 simp only[bo,eqGuard,binOp,Op.stringOp,a1C];show(if ((bs a).size+(bs b).size:Nat) > IntKind.i64.max then _ else _:Sem Y).run P w=_;rw[bM c,e];rfl
end
def bQ(w:Z)(b:Nat)(o:Obj):Z:={ w with heap:=w.heap.setIfInBounds b o }
theorem vf(w:Z)(b:Nat)(o:Obj):(bQ w b o).heap.size=w.heap.size:=by simp [bQ]
theorem MD{o:Obj}(h:b<w.heap.size):(w.alloc o).heap[b]?=w.heap[b]?:=by
 show(w.heap.push o)[b]?=_;grind
theorem sK{o:Obj}(h:b=w.heap.size):(w.alloc o).heap[b]?=O o:=by
 grind [blk_alloc_new]
theorem qz{o:Obj}(h:b=c)(a:b<w.heap.size):(bQ w c o).heap[b]?=O o:=by
 grind [bQ]
theorem jb{o:Obj}(h:¬ b=c):(bQ w c o).heap[b]?=w.heap[b]?:=by
 simp [bQ,Ne.symm h]
theorem Se(w:Z)(b:Nat):w.drew.heap[b]?=w.heap[b]?:=rfl
theorem Ca(w:Z):w.drew.heap.size=w.heap.size:=rfl
def vg{T:TypeId}(h:w.heap[b]?=O (ae cs T (0,0)))(v:Y):w.setCell ⟨b,o,V⟩ v=bQ w b (ae (cs.setIfInBounds o v) T (0,0)):=by
 unfold a5y bQ
 congr 1
 grind
def Wt(P:Program)(T:TypeId):Bool:=
 match P.underlying T with
 | some (.struct _)=>G
 | some (.array _ _)=>G
 | some _=>A
 | none=>G
def Sf(P:Program)(T:TypeId)(n:Nat):Bool:=
 (match P.underlying T with
 | some (.struct _)=>A
 | some (.array _ _)=>A
 | _=>G) && (match P.info? T with
 | some i=>i.size == n
 | none=>G)
def sized(P:Program)(T:TypeId)(n:Nat):Bool:=
 match P.info? T with
 | some i=>i.size == n
 | none=>G
def Wu(x:Option Obj)(o:Nat)(K:Y->Prop)(D:Prop):RT (K,D):=
 match x with
 | some (ae cs _ _)=>(match cs[o]? with | some v=>K v | none=>D)
 | _=>D
def ME(x:Option Obj)(o n:Nat)(K:Y->Prop)(D:Prop):RT (K,D):=
 match x with
 | some (ae cs _ _)=>if o+n<=cs.size then K (.agg ((cs.toList.drop o).take n).toArray) else D
 | _=>D
def po(cs:Array Y)(o:Nat):List Y->Array Y
 | []=>cs
 | v::r=>po (cs.setIfInBounds o v) (o+1) r
section mem
variable{P:Program}{T:TypeId}{b o:Nat}{w:Z}{K:Y->Prop}{X:Y->Z->Prop}
def aiZ(h:Wt P T=A)(w:Z):(isAgg T).run P w = .ok G w:=by
 unfold Wt at h;unfold isAgg underlying;simp only[a1C,program,a3Z,a1B];grind [a2i,a1B]
theorem Gm(h:sized P T n=A)(w:Z):(sizeOf T).run P w = .ok n w:=by
 unfold sized at h;unfold sizeOf typeInfo;simp only[a1C,program,a3Z,a1B];split at h
 .rename_i i hi;rw[hi];simp only[a2i,a1B];grind
 grind
def aud(h:Sf P T n=A):sized P T n=true:=by
 unfold Sf at h;simp only[a1O] at h;exact h.2
def aue(h:Sf P T n=A)(w:Z):(isAgg T).run P w = .ok A w:=by
 unfold Sf at h;simp only[a1O] at h;have h:=h.1;unfold isAgg underlying;simp only[a1C,program,a3Z,a1B];split at h
 .rename_i a;rw[a];rfl
 .rename_i a;rw[a];rfl
 grind
def j9(a:Wt P T=A):RD P (a1G T (aq (O ⟨b,o,V⟩))) w K X=Wu (w.heap[b]?) o K (Gj P (a1G T (aq (O ⟨b,o,V⟩))) w K X):=by
 unfold Wu;split
 .rename_i cs t z c;split
  .rename_i v hv;refine gQ ?_;simp only[a1G,a5g,loadVar,a1C,a2i,a1B,aiZ a,Bool.false_eq_true,if_false,load,a3Z,cellOf c hv]
  .rfl
 .rfl
def aaQ(a:Sf P T n=A):RD P (a1G T (aq (O ⟨b,o,V⟩))) w K X=ME (w.heap[b]?) o n K (Gj P (a1G T (aq (O ⟨b,o,V⟩))) w K X):=by
 unfold ME;split
 .rename_i cs t z c;split
  .rename_i g;refine gQ ?_;have d:((cs.toList.drop o).take n).length=n:=zg;have f:∀ j v,((cs.toList.drop o).take n)[j]?=O v->w.cell? ((⟨b,o,V⟩:Addr).add j)=O v:=by
    intro j v hv;rw[List.getElem?_take] at hv;split at hv
    .rw[List.getElem?_drop] at hv;have e:(⟨b,o,V⟩:Addr).add j=⟨b,o+j,V⟩:=by unfold Addr.add;split<;>simp_all
     rw[e];exact cellOf c (by simpa using hv)
    .cases hv
   have:=run_loadCells_list (P:=P) w ⟨b,o,V⟩ ((cs.toList.drop o).take n) f;rw[d] at this;simp only[a1G,a5g,loadVar,a1C,a2i,a1B,aue a,if_true,Gm (aud a),this]
  .rfl
 .rfl
def ai0{U:TypeId}:∀ (vs:List Y) (i:Nat) (cs:Array Y) (w:Z),w.heap[b]?=O (ae cs U (0,0))->o+i+vs.length<=cs.size->(vs.all a2E)=A ->
  (storeCells ⟨b,o,V⟩ vs i).run P w = .ok () (bQ w b (ae (po cs (o+i) vs) U (0,0)))
 | [],i,cs,w,a,_,_=>by
  have j:=bg a;have:bQ w b (ae cs U (0,0))=w:=by
   unfold bQ;cases w
   congr 1
   grind
  simp [storeCells,po,this]
 | v::vs,i,cs,w,a,d,c=>by
  simp only[List.length_cons] at d;simp only[List.all_cons,a1O] at c;have f:w.cell? ⟨b,o+i,V⟩=O cs[o+i]:=(by grind [cellOf]);have hu:(bQ w b (ae (cs.setIfInBounds (o+i) v) U (0,0))).heap[b]?=O (ae (cs.setIfInBounds (o+i) v) U (0,0)):=qz J (bg a);have ih:=ai0 vs (i+1) (cs.setIfInBounds (o+i) v) _ hu zg c.2;have e:(⟨b,o,V⟩:Addr).add i=⟨b,o+i,V⟩:=by unfold Addr.add;split<;>simp_all
  have g:∀ x y,bQ (bQ w b x) b y=bQ w b y:=by
   intro x y;unfold bQ;simp
  rw[g] at ih;simp only[storeCells,a1C,e,po];have k:(store ⟨b,o+i,V⟩ v).run P w = .ok () (bQ w b (ae (cs.setIfInBounds (o+i) v) U (0,0))):=by
   rw[<- vg a];have h:=jJ a (o+i);cases v<;>first | (simp [a2E] at c;done) | simp [store,a3Z,f,h]
  grind [a1B]
def Sg(x:Option Obj)(w:Z)(b o n:Nat)(v:Y)(K:Z->Prop)(D:Prop):RT (K,D):=
 match x with
 | some (ae cs U z)=>if z=(0,0)/\v.cells.toList.length=n/\o+n<=cs.size/\(v.cells.toList.all a2E)=A then K (bQ w b (ae (po cs o v.cells.toList) U (0,0))) else D
 | _=>D
def ou(a:sized P T n=A)(v:Y){K:Z->Prop}:WU P (a2U T (aq (O ⟨b,o,V⟩)) v) w K X=Sg (w.heap[b]?) w b o n v K (WU0 P (a2U T (aq (O ⟨b,o,V⟩)) v) w K X):=by
 unfold Sg;split
 .rename_i cs U z c;split
  .rename_i h;obtain⟨rfl,e,f,d⟩:=h;refine Sd ?_;have g:v.cells.size=n:=zo;have:=ai0 (P:=P) (b:=b) (o:=o) v.cells.toList 0 cs w c zo d;simp only[a2U,a5g,storeVar,a1C,a2i,a1B,Gm a];grind
  .rfl
 .rfl
def Ae(P:Program)(T:TypeId):Option Y:=(P.info? T).bind (·.zero)
def ES{z:Y}(h:Ae P T=O z)(w:Z):(zeroValue T).run P w = .ok z w:=by
 unfold Ae at h;unfold zeroValue typeInfo;simp only[a1C,program,a3Z,a1B];grind [a2i,a1B]
def Af{z:Y}(h:Ae P T=O z){K:Y->Z->Prop}:WR P (Instr.alloc T A u) w K X=K (aq (O ⟨w.heap.size,0,V⟩)) (w.alloc (ae z.cells T)):=by
 refine xF ?_;simp only[Instr.alloc,a1C,ES h,a1B,newVar,newRow,newObj,a3Z,a2i];rfl
def aaR{K:Y->Z->Prop}:WR P (Instr.box T v) w K X=K (aq (O ⟨w.heap.size,0,V⟩)) (w.alloc (ae v.cells T)):=by
 refine xF ?_;simp only[Instr.box,a1C,a1B,newVar,newRow,newObj,a3Z,a2i];rfl
end mem
def yH{p:Prop}(h:p:=by grind [jb,qz,MD,sK,Se,size_alloc,vf,Ca,bg]):p:=h
end Sx
