/- A part of one proof (Base, Sx3, Sx4, SxL). -/
import Derived.Test.YtoegidfbnkaabaaGreatDoorPkIAA
import Derived.WalkKit
import Derived.Lib.Hide
import Derived.Deep.QuietTactic
import Derived.BigQuiet
import Derived.Deep.RegionLaw
set_option linter.all false
set_option maxRecDepth 100000
set_option maxHeartbeats 8000000
open Option renaming some → O, none → V
open Go renaming Value → Y, World → Z
open Bool renaming true → A, false → G
open Go.Obj renaming cells → ae
open Go.Ending renaming returned → ah
open Go.Value renaming iface → aj, tuple → ak, pointer → aq
open List renaming mem_cons → a1g, mem_cons_self → a1j, mem_append → a1o, map_cons → a2M
open Go.Result renaming andThen_ok → a1k
open Go.Sem renaming run_bind → a1m, run_pure → a1V, run → a3J
open Go.Instr renaming loadAt → a1p, storeAt → a2A, sureAddr → a41
open Bool renaming and_eq_true → a1w
open Go.Region renaming wanted → a2b, noSelect_spec → a3N
open Go.Value renaming oneCell' → a2m
open Array renaming getD_eq_getD_getElem? → a2y
open Nat renaming eq_of_beq_eq_true → a3I
open Go.Exit renaming jump → a4U
open Go.World renaming setCell → a5k
open Go.Op renaming intCmp → a5q
namespace Go.Proofs.YtoegidfbnkaabaaGreatDoor
open Go.RowKit
variable{K:Y->Prop}{R:Ending->Z->Prop}{W w':Z}{X:Y->Z->Prop}{a:Act}{b base c d i k n o pb:Nat}{cs iL:Array Y}{fn:Func}{res:Z->Prop}{u v z:Y}{us ft:List Nat}{Gw:Bool}{xs:List Y}
theorem cellOf{w:Z}{T:TypeId}{z:Nat×Nat}(h:w.heap[b]?=O (ae cs T z))
  (hv:cs[o]?=O v):w.cell? ⟨b,o,V⟩=O v:=by
 grind [World.cell?]
theorem jX{w:Z}{T:TypeId}(h:w.heap[b]?=O (ae cs T (0,0)))(o:Nat):w.frozen? ⟨b,o,V⟩=false:=by
 grind [World.frozen?]
theorem bh{w:Z}{o:Obj}(h:w.heap[b]?=O o):b<w.heap.size:=by
 grind
theorem blk_alloc_new(w:Z)(o:Obj):(w.alloc o).heap[w.heap.size]?=O o:=by
 show(w.heap.push o)[w.heap.size]?=_;simp
theorem dX{w:Z}{o x:Obj}(h:w.heap[b]?=O x):(w.alloc o).heap[b]?=O x:=by
 have:=bh h;show(w.heap.push o)[b]?=_;grind
theorem size_alloc(w:Z)(o:Obj):(w.alloc o).heap.size=w.heap.size+1:=by
 show(w.heap.push o).size=_;simp
theorem size_setCell(w:Z)(a:Addr)(v:Y):(w.setCell a v).heap.size=w.heap.size:=by simp [a5k]
def size_drew(w:Z):w.drew.heap.size=w.heap.size:=rfl
theorem Pu(w:Z)(n:Nat):(w.drewN n).heap.size=w.heap.size:=rfl
def Bk{w:Z}{T:TypeId}{z:Nat×Nat}(h:w.heap[b]?=O (ae cs T z))(v:Y) :
  (w.setCell ⟨b,o,V⟩ v).heap[b]?=O (ae (cs.setIfInBounds o v) T z):=by
 grind [a5k]
theorem blk_setCell_other{w:Z}{a:Addr}(h:b≠a.block)(v:Y):(w.setCell a v).heap[b]?=w.heap[b]?:=by
 simp [a5k,Array.getElem?_modify,Ne.symm h]
theorem aaq{w:Z}{a:Addr}(h:w.cell? a=O v)(hw:∀ (b:Nat) (o:Obj),w.heap[b]?=O o->w'.heap[b]?=O o):w'.cell? a=O v:=by
 grind [World.cell?,World.cell?_of_block]
structure bB(M:Nat->Obj->Prop)(w w':Z):Prop where
 os:w'.os=w.os
 tape:w'.tape=w.tape
 output:w'.output=w.output
 size:w.heap.size<=w'.heap.size
 block:∀ b o,w.heap[b]?=O o->¬ M b o->w'.heap[b]?=O o
theorem bB.refl(M:Nat->Obj->Prop)(w:Z):bB M w w:=⟨J,J,J,Nat.le_refl _,zg⟩
theorem bB.trans{M:Nat->Obj->Prop}{a b c:Z}(h:bB M a b)(k:bB M b c):bB M a c:=
 ⟨k.os.trans h.os,k.tape.trans h.tape,k.output.trans h.output,Nat.le_trans h.size k.size,(by grind [block])⟩
theorem bB.mono{M c:Nat->Obj->Prop}{a b:Z}(h:bB M a b)(hm:∀ i o,a.heap[i]?=O o->M i o->c i o):bB c a b:=
 ⟨h.os,h.tape,h.output,h.size,(by grind [block])⟩
theorem bB.alloc{M:Nat->Obj->Prop}{a b:Z}(h:bB M a b)(o:Obj):bB M a (b.alloc o):=
 ⟨h.os,h.tape,h.output,by rw[size_alloc];have:=h.size;omega,(by grind [dX,block])⟩
theorem bB.drew{M:Nat->Obj->Prop}{a b:Z}(h:bB M a b):bB M a b.drew:=⟨h.os,h.tape,h.output,h.size,h.block⟩
theorem bB.drewN{M:Nat->Obj->Prop}{a b:Z}(h:bB M a b)(n:Nat):bB M a (b.drewN n):=⟨h.os,h.tape,h.output,h.size,h.block⟩
theorem bB.MY{M:Nat->Obj->Prop}{a b:Z}(h:bB M a b){p:Addr}(c:a.heap.size<=p.block)(v:Y):bB M a (b.setCell p v):=
 ⟨h.os,h.tape,h.output,by rw[size_setCell];exact h.size,(by grind [blk_setCell_other,bh,block])⟩
def bB.at1{M:Nat->Obj->Prop}{a b:Z}(h:bB M a b){p:Addr}(c:∀ o,M p.block o)(v:Y):bB M a (b.setCell p v):=
 ⟨h.os,h.tape,h.output,by rw[size_setCell];exact h.size,(by grind [blk_setCell_other,block])⟩
def bB.grownBy{a b:Z}{r:Option Nat}(h:a.grownBy b r):bB (fun i _=>O i=r) a b:=
 ⟨h.os,h.tape,h.output,h.size,(by grind [bh,World.grownBy.block])⟩
theorem Pw{w:Z}{x:Y}{t:TypeId}(c:b=w.heap.size):∀ (j:Nat) (u:Y),[x][j]?=O u->(w.alloc (ae #[x] t)).cell? ((⟨b,0,V⟩:Addr).add j)=O u:=by
 subst c;intro j u a;cases j with
 | zero=>
  simp at a;subst a;exact cellOf (o:=0) (blk_alloc_new w _) J
 | succ j=>grind
def aiX{w:Z}{x:Y}{t:TypeId}(a:b=w.heap.size):∀ (j:Nat) (u:Y),[x][j]?=O u->(w.alloc (ae #[x] t)).drew.cell? ((⟨b,0,V⟩:Addr).add j)=O u:=Pw a
def Px{w:Z}{e:TypeId}{size:Nat}(h:w.ownsRow base e size v n xs)(o:Obj):(w.alloc o).drew.ownsRow base e size v n xs:=h.alloc o
abbrev Ext(w w':Z):Prop:=bB (fun _ _=>False) w w'
theorem bB.ext{w:Z}(h:Ext w w')(b:Nat)(o:Obj)(a:w.heap[b]?=O o):w'.heap[b]?=O o:=h.block b o a id
theorem bB.toM{M:Nat->Obj->Prop}{w:Z}(h:Ext w w'):bB M w w':=(by grind [mono])
def MZ{e:TypeId}{size:Nat}(h:W.ownsRow base e size v (k+1) xs):∃ g cap,v = .slice (O ⟨g,0,V⟩) (k+1) cap:=by
 rcases h.2 with⟨_,a⟩| ⟨g,cap,_,rfl,_⟩<;>grind
theorem aar{w:Z}{e:TypeId}{size:Nat}(h:w.ownsRow base e size v n xs)(d:pb<=base):w.ownsRow pb e size v n xs:=by
 obtain⟨a,b | ⟨g,cap,cur,c,f,r⟩⟩:=h
 .exact⟨a,.inl b⟩
 .exact⟨a,.inr ⟨g,cap,cur,c,zo,r⟩⟩
def Wm{P:Program}(w:Z)(base:Nat)(t ty e:TypeId)(i:TypeInfo)(z:Y)(size bytes:Nat)(ht:P.underlying t=O (.slice e))(l:P.info? e=O i)(r:i.zero=O z)
  (o:i.size=size) (s:i.bytes=bytes) (x:z.cells.size=size) (y:0<size)
  (v:Y) (n:Nat) (xs:List Y) (h:w.ownsRow base e size v n xs)
  (a:Addr) (m c:Nat) (news:List Y) (p:news.length=m*size) (q:∀ j u,news[j]?=O u->w.cell? (a.add j)=O u) (B:∀ u∈news,u.oneCell'=A)
  (C:n+m<=maxLen) (D:(n+m)*bytes<=140737488355328) (E:base<=w.heap.size) :
  ∃ v' w',(Builtin.append_ #[t,t] ty #[v,.slice (O a) m c]).run P w = .ok v' w'/\w'.ownsRow base e size v' (n+m) (xs++news)/\w.grownBy w' v.ownBlock /\
   (v'.ownBlock=v.ownBlock\/∀ k,v'.ownBlock=O k->w.heap.size<=k):=by
 have F:=h;rcases h.2 with⟨rfl,rfl⟩| ⟨g,cap,cur,rfl,H,L,M,N,Q,I⟩
 .have hx:xs=[]:=List.eq_nil_of_length_eq_zero (by simpa using h.1);subst hx;obtain⟨v',w',f,d,b,_⟩:=run_append_own (P:=P) w w.heap.size t ty e i z size bytes ht l r o s x y _ 0 [] (World.ownsRow_nil _ _ _ _) a m c news p q B C D zo;exact⟨v',w',f,aar d E,b,.inr fun k hk=>(d.lt k hk).1⟩
 .by_cases K:n+m<=cap
  .obtain⟨w',f,d,b⟩:=run_append_fits (P:=P) w base t ty e i size ht l o g n cap xs F a m c news p q B K;exact⟨_,w',f,d,b,.inl J⟩
  .obtain⟨v',w',f,d,b⟩:=run_append_arg_grows (P:=P) w t ty e i z size bytes ht l r o s x y ⟨g,0,V⟩ n cap xs h.1 (F.cells J) a m c news p q zo C D;exact⟨v',w',f,aar d E,⟨b.os,b.tape,b.output,b.size,(by grind [World.grownBy.block])⟩,.inr fun k hk=>(d.lt k hk).1⟩
def aiY{P:Program}{ops:Array Oper}{o:Oper}{w:Z}{K:Act->Z->Prop}{Q:Exit->Act->Z->Prop}{E:Prop}
  (S:o.guard=V) (s x:Operand) (t:TypeId)
  (d:o.op = .call { callee:=.builtin .append,args:=#[s,x],argTypes:=#[t,t] })
  (base:Nat) (e:TypeId) (i:TypeInfo) (z:Y) (size bytes:Nat) (ht:P.underlying t=O (.slice e)) (f:P.info? e=O i) (g:i.zero=O z)
  (l:i.size=size) (p:i.bytes=bytes) (q:z.cells.size=size) (r:0<size)
  (v:Y) (n:Nat) (xs:List Y) (y:a.eval s=v) (B:w.ownsRow base e size v n xs)
  (b:Addr) (m c:Nat) (news:List Y) (hx:a.eval x = .slice (O b) m c) (C:news.length=m*size) (D:∀ j u,news[j]?=O u->w.cell? (b.add j)=O u) (F:∀ u∈news,u.oneCell'=A)
  (H:n+m<=maxLen) (I:(n+m)*bytes<=140737488355328) (L:base<=w.heap.size)
  (h:∀ v' w',w'.ownsRow base e size v' (n+m) (xs++news)->w.grownBy w' v.ownBlock->(v'.ownBlock=v.ownBlock\/∀ k,v'.ownBlock=O k->w.heap.size<=k)->K (a.put o.dst v') w') :
  if a2b o (yielded ops a.tmps)=A then Oper.wp P o a w K Q else E:=by
 rw[zip (by grind [a2b])];obtain⟨v',w',hr,M,N,R⟩:=Wm (P:=P) w base t o.type e i z size bytes ht f g l p q r v n xs B b m c news C D F H I L;unfold Oper.wp execOp;simp only[d,resolve,invoke,builtin,a1m,a1V,a1k,List.map_toArray,a2M,List.map_nil,y,hx,hr];exact h v' w' M N R
def Sd{P:Program}{w:Z}{ops:Array Oper}{rest:List Oper}{o:Oper}{Q:Exit->Act->Z->Prop}(d:o.guard=V)(s x:Operand)(t:TypeId)
  (f:o.op = .call { callee:=.builtin .append,args:=#[s,x],argTypes:=#[t,t] })
  (base:Nat) (e:TypeId) (i:TypeInfo) (z:Y) (size bytes:Nat) (ht:P.underlying t=O (.slice e)) (g:P.info? e=O i) (l:i.zero=O z)
  (p:i.size=size) (q:i.bytes=bytes) (r:z.cells.size=size) (y:0<size)
  (v:Y) (n:Nat) (xs:List Y) (B:a.eval s=v) (C:w.ownsRow base e size v n xs)
  (b:Addr) (m c:Nat) (news:List Y) (hx:a.eval x = .slice (O b) m c) (D:news.length=m*size) (E:∀ j u,news[j]?=O u->w.cell? (b.add j)=O u) (F:∀ u∈news,u.oneCell'=A)
  (H:n+m<=maxLen) (I:(n+m)*bytes<=140737488355328) (L:base<=w.heap.size)
  (h:∀ v' w',w'.ownsRow base e size v' (n+m) (xs++news)->w.grownBy w' v.ownBlock->(v'.ownBlock=v.ownBlock\/∀ k,v'.ownBlock=O k->w.heap.size<=k)->wpList P ops Q rest (a.put o.dst v') w'):wpList P ops Q (o::rest) a w:=
 wpList_plain d fun K M=>by
  obtain⟨v',w',hr,N,R,S⟩:=Wm (P:=P) w base t o.type e i z size bytes ht g l p q r y v n xs C b m c news D E F H I L;unfold Oper.wp execOp;simp only[f,resolve,invoke,builtin,a1m,a1V,a1k,List.map_toArray,a2M,List.map_nil,B,hx,hr];exact M _ _ zg
def exists_least{p:Nat->Prop}:∀ n,p n->∃ m,p m/\∀ k,p k->m<=k:=by
 intro n;induction n using Nat.strongRecOn with
 | _ n ih=>
  grind
open Classical in
noncomputable def least (I:Nat->Act->Z->Prop) (a:Act) (w:Z):Nat:=
 if h:∃ n,I n a w then Classical.choose (exists_least (p:=fun n=>I n a w) _ (Classical.choose_spec h)) else 0
def aiZ{I:Nat->Act->Z->Prop}{w:Z}(h:∃ n,I n a w):I (least I a w) a w:=by
 unfold least;grind
def least_le{I:Nat->Act->Z->Prop}{w:Z}(h:I n a w):least I a w<=n:=by
 unfold least;rw[dif_pos ⟨n,h⟩];grind
def wp_loop_ghost{P:Program}{Q:Exit->Act->Z->Prop}{w:Z}{c:Code}(I:Nat->Act->Z->Prop)(b:∃ n,I n a w)
  (round:∀ n a w,I n a w->c.wp P (Exit.then (fun a' w'=>∃ m,m<n/\I m a' w') Q) a w):(Code.loop c).wp P Q a w:=
 wp_loop (fun a w=>∃ n,I n a w) (least I) b fun a w h=>
  wp_mono (round _ a w (aiZ h)) fun e a' w' d=>by
   cases e with
   | normal=>obtain⟨m,hm,f⟩:=d;exact⟨⟨m,f⟩,Nat.lt_of_le_of_lt (least_le f) hm⟩
   | _=>exact d
def at6{P:Program}{Q:Exit->Act->Z->Prop}{w:Z}{c rest:Code}(l:Nat)(b:Nat->Act->Z->Prop)(g:findLabel c l=O rest)
  (first:c.wp P (a4U l (fun a w=>∃ n,b n a w) Q) a w)
  (pass:∀ n a w,b n a w->rest.wp P (a4U l (fun a' w'=>∃ m,m<n/\b m a' w') Q) a w):(Code.scope c).wp P Q a w:=
 wp_scope_jumps l (fun a w=>∃ n,b n a w) (least b) g first fun a w h=>
  wp_mono (pass _ a w (aiZ h)) fun e a' w' d=>by
   cases e with
   | goto l'=>obtain⟨e,m,hm,f⟩:=d;exact⟨e,⟨m,f⟩,Nat.lt_of_le_of_lt (least_le f) hm⟩
   | _=>exact d
def at7{P:Program}{Q:Exit->Act->Z->Prop}{w:Z}{c rest:Code}(l:Nat)(b:Nat->Act->Z->Prop)(f:findLabel c l=O rest)
  (first:(∀ n a w,b n a w->rest.wp P (a4U l (fun a w=>∃ n,b n a w) Q) a w)->c.wp P (a4U l (fun a w=>∃ n,b n a w) Q) a w)
  (pass:∀ n a w,b n a w->rest.wp P (a4U l (fun a' w'=>∃ m,m<n/\b m a' w') Q) a w):(Code.scope c).wp P Q a w:=
 at6 l b f (first fun n a w h=>wp_mono (pass n a w h) fun e a' w' d=>by
  cases e with
  | goto l'=>obtain⟨e,m,_,g⟩:=d;exact⟨e,m,g⟩
  | _=>exact d) pass
def aua{l:Nat}{b:Act->Z->Prop}{Q:Exit->Act->Z->Prop}{w:Z}:a4U l b Q .ret a w=Q .ret a w:=rfl
abbrev bs(l:P.Bs):ByteArray:=⟨l.toArray⟩
namespace Sx
open Go
def aub{C:mD}{o:Oper}{e:Env}{w:Z}{s:Sem Y}{next:Env->Prop}{next':Act->Prop}
  (b:execOp a.eval o=(do pure (.value (<- s)))) (c:∀ v,next (e.put o.dst v)->next' (a.put o.dst v))
  (h:RD C.P s w (pX C o fun v=>next (e.put o.dst v)) (fun _ _=>False)):o.still C.P a w next':=by
 unfold Oper.still;rw[b,R4];unfold RD at h;cases hr:s.run C.P w with
 | ok v w'=>
  rw[hr] at h;obtain⟨rfl,h⟩:=h;exact⟨J,R5 (K:=fun v=>next (e.put o.dst v)) (K':=fun v=>next' (a.put o.dst v)) zg h⟩
 | halt x w'=>
  grind
theorem Se{P:Program}{o:Oper}{w:Z}{next':Act->Prop}
  (b:execOp a.eval o=pure (.value v)) (h:next' (a.put o.dst v)):o.still P a w next':=by
 unfold Oper.still;rw[b];exact⟨J,h⟩
def ai0{C:mD}(b:Good C){vs:List Nat}{o:Oper}{e:Env}{w:Z}{next:Env->Prop}{next':Act->Prop}
  (hr:Rel vs a e) (f:∀ v,next (e.put o.dst v)->next' (a.put o.dst v)) (h:sT C o e w next):o.still C.P a w next':=by
 have he:=hr.eval;unfold sT at h;split at h
 .rename_i x d;exact Se (by rw[he];grind [execOp]) (f _ h)
 .rename_i x d;exact Se (by rw[he];grind [execOp]) (f _ h)
 .rename_i c x y d;split at h
  .rename_i g;exact Se (v:=e.eval x) (by rw[he];unfold execOp;rw[d];simp only[g];rfl) (f _ h)
  .rename_i g;exact Se (v:=e.eval y) (by rw[he];unfold execOp;rw[d];simp only[g];rfl) (f _ h)
  grind
 .rename_i x d;obtain⟨i,j⟩:=aaj d h;grind [Se]
 .rename_i k args DI d;split at h
  .rename_i hk;unfold Oper.still;have:(execOp a.eval o).run C.P w = .ok (.enter k (j7 e args)) w:=by
    rw[he];unfold execOp;rw[d];simp only[resolve,Kh,Env.eval,Deferred.ofValue,Array.empty_append];show(callFunc k (j7 e args++#[])).run C.P w=_;rw[Array.append_empty];exact R6 (b.calls k hk) _ _
   rw[this];obtain⟨v,i,j⟩:=h;exact⟨J,v,i,R5 (K:=fun v=>next (e.put o.dst v)) (K':=fun v=>next' (a.put o.dst v)) zg j⟩
  grind
 .split at h
  .rename_i s l;exact aub (by grind [aah]) f h
  grind
structure kV(us:List Nat)(n:Bool)(e e':Env):Prop where
 get:∀ i,i ∉ us->e'.f i=e.f i
 defs:n=A->e'.defers=e.defers
theorem kV.refl(vs:List Nat)(n:Bool)(a:Env):kV vs n a a:=⟨zg,zg⟩
theorem kV.trans{vs:List Nat}{n m:Bool}{a b c:Env}(h:kV vs n a b)(k:kV us m b c):kV (vs++us) (n && m) a c:=
 ⟨fun i d=>by simp only[a1o,not_or] at d;rw[k.get i d.2,h.get i d.1],fun e=>by
  simp only[a1w] at e;rw[k.defs e.2,h.defs e.1]⟩
theorem kV.mono{vs:List Nat}{n m:Bool}{a b:Env}(h:kV vs n a b)(hv:∀ i∈vs,i∈us)(c:m=A->n=A):kV us m a b:=
 ⟨(by grind [get]),(by grind [defs])⟩
theorem ai1(f:Nat->Y)(h:i≠d)(v:Y):Kg f d v i=f i:=by
 grind [Kg,Nat.beq,absurd,a3I]
theorem kV.put{vs:List Nat}{n:Bool}{a b:Env}(h:kV vs n a b){d:Option Nat}(c:∀ t,d=O t->t∈vs)(v:Y):kV vs n a (b.put d v):=by
 cases d with
 | none=>exact h
 | some t=>
  refine⟨fun i e=>?_,h.defs⟩;have:i≠t:=zg;show Kg b.f t v i=_;grind [ai1,get]
def kV.next{n:Bool}{a b c:Env}{o:Oper}(h:kV us n a b)(f:∀ t,o.dst=O t->t∈us)(g:n=A->xP o=G)
  (e:∃ v,c=b.put o.dst v\/∃ d,xP o=A/\c=({ b with defers:=d::b.defers }:Env).put o.dst v):kV us n a c:=by
 obtain⟨v,rfl | ⟨d,hid,rfl⟩⟩:=e
 .grind [put]
 .have i:kV us n a { b with defers:=d::b.defers }:=⟨h.get,zg⟩;grind [put]
def Kk(x:Exit)(vs:List Nat)(a:Act)(e:Env):Prop:=
 match x with
 | .panic _=>Rel [] a e
 | _=>Rel vs a e
def wO(x:Exit)(us:List Nat)(n:Bool)(e0 e:Env):Prop:=
 match x with
 | .panic _=>n=A->e.defers=e0.defers
 | _=>kV us n e0 e
def Rel.aau{vs:List Nat}{e:Env}(h:Rel vs a e):Rel [] a e:=⟨h.get,h.defs,zg⟩
theorem Kk.of{x:Exit}{vs:List Nat}{e:Env}(h:Rel vs a e):Kk x vs a e:=by cases x<;>first | exact h | exact h.aau
theorem Kk.get{x:Exit}{vs:List Nat}{a:Act}{e:Env}(h:Kk x vs a e):∀ i,a.tmps.getD i undef=e.f i:=by cases x<;>exact Rel.get h
theorem Kk.defs{x:Exit}{vs:List Nat}{a:Act}{e:Env}(h:Kk x vs a e):a.defers=e.defers:=by cases x<;>exact Rel.defs h
theorem wO.of{x:Exit}{n:Bool}{e0 e:Env}(h:kV us n e0 e):wO x us n e0 e:=by cases x<;>first | exact h | exact h.defs
theorem wO.defs{x:Exit}{us:List Nat}{n:Bool}{e0 e:Env}(h:wO x us n e0 e)(a:n=A):e.defers=e0.defers:=by
 cases x with
 | panic b=>exact h a
 | _=>exact kV.defs h a
theorem wO.trans{x:Exit}{vs us:List Nat}{n m:Bool}{a b c:Env}(h:kV vs n a b)(k:wO x us m b c):wO x (vs++us) (n && m) a c:=by
 cases x with
 | panic d=>exact fun e=>by simp only[a1w] at e;exact(k e.2).trans (h.defs e.1)
 | _=>exact kV.trans h k
theorem wO.mono{x:Exit}{vs us:List Nat}{n m:Bool}{a b:Env}(h:wO x vs n a b)(hv:∀ i∈vs,i∈us)(c:m=A->n=A):wO x us m a b:=by
 cases x with
 | panic d=>exact fun e=>h (c e)
 | _=>exact kV.mono h hv c
abbrev Po(vs us:List Nat)(n:Bool)(e0:Env)(Q:Exit->Env->Z->Prop):Exit->Act->Z->Prop:=fun x a' w'=>∃ e',Kk x vs a' e'/\wO x us n e0 e'/\Q x e' w'
def aav{C:mD}(b:Good C){ops:Array Oper}{Q:Exit->Env->Z->Prop}{vs us:List Nat}{n:Bool}{e0:Env}(hv:∀ i∈us,i∈vs):∀ (l:List Oper) (a:Act) (e:Env) (w:Z),
  (∀ o∈l,∀ t,o.dst=O t->t∈us)->(n=A->∀ o∈l,xP o=G)->Rel vs a e->kV us n e0 e->xO C ops Q l e w ->
  wpList C.P ops (Po vs us n e0 Q) l a w
 | [],a,e,w,_,_,hr,c,h=>⟨e,hr,c,h⟩
 | o::l,a,e,w,f,k,hr,c,h=>by
  have ih:=fun a e w=>aav b (ops:=ops) (Q:=Q) (vs:=vs) (us:=us) (n:=n) (e0:=e0) hv l a e w zg zg;have d:=f o (a1j ..);unfold xO at h;unfold wpList;rw[hr.yield];split at h
  .rename_i hw;rw[zip hw];exact .inl (aak b hr zg (fun e' a' w' g _ j hx=>ih a' e' w' g (c.next d zg j) hx) (by grind [Kk.of,wO.of,panic]) h)
  .rename_i hw;rw[bI (by simp [hw])];exact ih _ _ _ (hr.put (fun t ht=>hv t (d t ht)) _) (c.put d _) h
def ai2{C:mD}(b:Good C){ops:Array Oper}{w:Z}{Q:Env->Prop}{vs us:List Nat}{n:Bool}{e0:Env}(hv:∀ i∈us,i∈vs):∀ (l:List Oper) (a:Act) (e:Env),
  (∀ o∈l,∀ t,o.dst=O t->t∈us)->Rel vs a e->kV us n e0 e->Bi C ops w Q l e ->
  wpStill C.P ops w (fun a'=>∃ e',Rel vs a' e'/\kV us n e0 e'/\Q e') l a
 | [],a,e,_,hr,c,h=>⟨e,hr,c,h⟩
 | o::l,a,e,f,hr,c,h=>by
  have ih:=fun a e=>ai2 b (ops:=ops) (w:=w) (Q:=Q) (vs:=vs) (us:=us) (n:=n) (e0:=e0) hv l a e zg;have d:=f o (a1j ..);unfold Bi at h;unfold wpStill;rw[hr.yield];split at h
  .rename_i hw;rw[zip hw];exact ai0 b hr (fun v hx=>ih _ _ (hr.put (fun t ht=>hv t (d t ht)) v) (c.put d v) hx) h
  .rename_i hw;rw[bI (by simp [hw])];exact ih _ _ (hr.put (fun t ht=>hv t (d t ht)) _) (c.put d _) h
theorem Sf(l:List Oper)(o:Oper)(a:o∈l)(t:Nat)(ht:o.dst=O t):t∈rj l:=by
 induction l with
 | nil=>grind
 | cons x l ih=>
  grind [rj,a1j,List.mem_cons_of_mem]
def auc{l:List Oper}{n:Bool}(h:n=(l.all fun o=>!xP o)):n=A->∀ o∈l,xP o=false:=by
 grind
def aud{C:mD}(b:Good C){id:Nat}{ops:Array Oper}{Q:Exit->Env->Z->Prop}{vs:List Nat}{e:Env}{w:Z}(hv:∀ i∈rj ops.toList,i∈vs)(hr:Rel vs a e)(h:xO C ops Q ops.toList e w) :
  (Code.region id ops G).wp C.P (Po vs (rj ops.toList) (ops.toList.all fun o=>!xP o) e Q) a w:=
 wp_region_list (aav b hv ops.toList a e w (Sf _) (auc J) hr (kV.refl _ _ _) h)
def aue{C:mD}(b:Good C){id:Nat}{ops:Array Oper}{Q:Exit->Env->Z->Prop}{vs:List Nat}{e:Env}{w:Z}(hv:∀ i∈rj ops.toList,i∈vs)(hr:Rel vs a e)(hd:Wg ops n=A)
  (h:Bi C ops w.drew (fun a'=>xO C ops Q (ops.toList.drop n) a' w.drew) (ops.toList.take n) e) :
  (Code.region id ops A).wp C.P (Po vs (rj ops.toList) (ops.toList.all fun o=>!xP o) e Q) a w:=by
 have h1:=ai2 b (us:=rj ops.toList) (n:=ops.toList.all fun o=>!xP o) (e0:=e) hv (ops.toList.take n) a e (by grind [Sf,List.mem_of_mem_take]) hr (kV.refl _ _ _) h;unfold Wg at hd;have e:ops=ops.toList.toArray:=zs;split at hd
 .rename_i hn;refine wp_region_still b.mixed hd ?_;have ht:ops.toList.take n=ops.toList:=(by grind [List.take_of_length_le]);have hdp:ops.toList.drop n=[]:=zg;rw[ht,hdp] at h1;exact h1
 .rw[e] at hd ⊢;refine wp_region_still_tail n b.mixed hd ?_;refine aaw (fun a' hx=>?_) _ _ h1;obtain⟨e',mh,qH,hx⟩:=hx;exact aav b hv (ops.toList.drop n) a' e' _ (by grind [Sf,List.mem_of_mem_drop]) zg mh qH hx
where
 aaw {P:Program} {ops:Array Oper} {w:Z} {Q Q':Act->Prop} (hq:∀ a,Q a->Q' a):∀ (l:List Oper) (a:Act),wpStill P ops w Q l a->wpStill P ops w Q' l a
  | [],a,h=>hq a h
  | o::l,a,h=>by
   unfold wpStill at h ⊢;split
   .rename_i hw;rw[zip hw] at h;exact Oper.still_mono (fun a hx=>aaw hq l a hx) h
   .rename_i hw;rw[bI hw] at h;exact aaw hq l _ h
def ai3{C:mD}{vs:List Nat}{o:Oper}{e:Env}{S:Z->Prop}{next:Env->Prop}{ops:Array Oper}(hr:Rel vs a e)(hw:a2b o (yielded ops a.tmps)=A)(h:sU C o e S next) :
  ∃ v,YieldsIf C.P ops S o v a/\next (e.put o.dst v):=by
 have he:=hr.eval;unfold sU at h;split at h
 .rename_i x b;exact⟨_,.inl ⟨hw,fun w _=>by rw[he];unfold execOp;rw[b];rfl⟩,h⟩
 .rename_i x b;exact⟨_,.inl ⟨hw,fun w _=>by rw[he];unfold execOp;rw[b];rfl⟩,h⟩
 .rename_i c x y b;split at h
  .rename_i g;exact⟨e.eval x,.inl ⟨hw,fun w _=>by rw[he];unfold execOp;rw[b];simp only[g];rfl⟩,h⟩
  .rename_i g;exact⟨e.eval y,.inl ⟨hw,fun w _=>by rw[he];unfold execOp;rw[b];simp only[g];rfl⟩,h⟩
  grind
 .rename_i x b;obtain⟨d,f⟩:=aaj b h;exact⟨_,.inl ⟨hw,fun w _=>by rw[he,d];rfl⟩,f⟩
 .split at h
  .rename_i s i;obtain⟨v,d,f⟩:=h;exact⟨v,.inl ⟨hw,fun w j=>by rw[he,aah i,R4,d w j]⟩,R5 (K:=fun v=>next (e.put o.dst v)) (fun _ h=>h) f⟩
  .split at h
   .rename_i s i;obtain⟨v,d,f⟩:=h;exact⟨v,.inl ⟨hw,fun w j=>by rw[he,aiP (atP i),R4,d w j]⟩,f⟩
   grind
theorem Sg:∀ {l:List Nat} {t:Nat},t∈l->rP t l=A
 | j::r,t,h=>by
  unfold rP;cases a:Nat.beq t j
  .rw[cond_false];rcases a1g.1 h with h | h
   .subst h;simp at a
   .exact Sg h
  .rfl
abbrev Wn(dl vs us:List Nat)(n:Bool)(e0:Env)(Q:Exit->Env->Z->Prop)(x:Exit)(a:Act)(w:Z):Prop:=
 match x with
 | .panic b=>(n=A->a.defers=e0.defers)/\∀ f,(∀ t,rP t dl=G->f t=a.tmps.getD t undef)->Q (.panic b) ⟨f,a.defers⟩ w
 | x=>Po vs us n e0 Q x a w
def Wo{vs:List Nat}{n:Bool}{e0:Env}{Q:Exit->Env->Z->Prop}{c:List PanicEntry}{w:Z}{d:Option Nat}(e:∀ t,d=O t->rP t ft=A)(h:Wn ft vs us n e0 Q (.panic c) (a.put d v) w):Wn ft vs us n e0 Q (.panic c) a w:=by
 cases d with
 | none=>exact h
 | some t0=>
  refine⟨h.1,fun f b=>h.2 f fun t ht=>?_⟩;have g:t≠t0:=zg;rw[b t ht];simp only[Act.put,a2y];grind
def ai4{C:mD}(b:Good C){ops:Array Oper}{Q:Exit->Env->Z->Prop}{S:Z->Prop}{m:Option Nat}{vs us:List Nat}{n:Bool}{e0:Env}(hv:∀ i∈us,i∈vs)(k:Region.noSelect ops=A)
  (I:∀ (i:Nat) (o:Oper),ops[i]?=O o->∀ t,o.dst=O t->t∈us) (R:∀ (i:Nat) (o:Oper),ops[i]?=O o->∀ t,o.dst=O t->t∈rj ops.toList) (T:n=A->∀ (i:Nat) (o:Oper),ops[i]?=O o->xP o=G) :
  ∀ (l:List Nat) (listed:Array Bool) (a:Act) (e:Env) (w:Z),Rel vs a e->kV us n e0 e->(uz m listed=A->S w)->mQ C ops Q S m l listed e w ->
   Ki C.P .any ops (Wn (rj ops.toList) vs us n e0 Q) S m l.length listed a w
 | [],listed,a,e,w,hr,q,p,h=>by
  unfold mQ at h;split at h
  .rename_i r;exact⟨r,e,hr,q,h⟩
  grind
 | i::l,listed,a,e,w,hr,q,p,h=>by
  have ih:=ai4 b (Q:=Q) (S:=S) (m:=m) (vs:=vs) (us:=us) (n:=n) (e0:=e0) hv k I R T l;unfold mQ at h;split at h
  .grind
  .rename_i o d;have L:=I i o d;have U:∀ v,Rel vs (a.put o.dst v) (e.put o.dst v):=(by grind [Rel.put]);have lZ:∀ v,kV us n e0 (e.put o.dst v):=(by grind [kV.put]);rw[<- hr.yield] at h;split at h
   .rename_i r;have r:Region.ready .any ops listed=[i]:=zg;refine⟨zg,fun j M=>?_⟩;have Wi:=(mem_ready.1 M).1;rw[r] at M;have:j=i:=zg;subst this;have W:uz m (listed.setIfInBounds j A)=A->uz m listed=true:=fun N=>by
     cases m with
     | none=>rfl
     | some m=>
      simp only[uz,Bool.not_eq_true'] at N ⊢;by_cases y:j=m
      .grind
      .rw[getD_set_ne A y] at N;omega
    unfold wpOp;rw[d];dsimp only;split at h
    .grind
    .rename_i hw;rw[zip hw];refine .inl ?_;split at h
     .refine Oper.wp_of_still (K:=fun a'=>(uz m (listed.setIfInBounds j A)=A->S w)/\Ki C.P .any ops (Wn (rj ops.toList) vs us n e0 Q) S m l.length (listed.setIfInBounds j A) a' w) zg (ai0 b hr (fun v hx=>?_) h);grind
     .split at h
      .exact aak b hr zg (fun e' a' w' z _ B hx=>⟨zg,ih _ _ _ _ z (q.next L zg B) zg hx.2⟩) (fun X w' hx=>⟨fun D=>by rw[hr.defs];grind [kV.defs],fun f E=>by
        rw[hr.defs];have hx:=hx f;have D:(fun t=>cond (rP t (rj ops.toList)) (f t) (e.f t))=f:=funext fun t=>by
         cases hm:rP t (rj ops.toList)
         .rw[cond_false,E t hm,hr.get]
         .rfl
        grind⟩) h
      .rename_i rp;exact aak b hr zg (fun e' a' w' z _ B hx=>⟨zg,ih _ _ _ _ z (q.next L zg B) zg hx⟩) (fun X w' hx=>⟨fun D=>by rw[hr.defs];grind [kV.defs],fun f E=>by
        rw[hr.defs];have hx:=hx f;have D:(fun t=>cond (rP t (rj ops.toList)) (f t) (e.f t))=f:=funext fun t=>by
         cases hm:rP t (rj ops.toList)
         .rw[cond_false,E t hm,hr.get]
         .rfl
        grind⟩) h
   .split at h
    .grind
    .rename_i F;simp only[a1w] at F;have s:i∈Region.ready .any ops listed:=zg;have u:=Region.free_spec d F.1.2;rcases at0 F.2 with⟨g,c2,c3⟩| ⟨g,c2⟩
     .split at h
      .rename_i hw;exact aiR d (a3N k) (fun c a w h=>Wo (by grind [Sg]) h) g l.length listed a w u c2 s (.inr ⟨hw,J⟩) (p c3) zg
      .rename_i hw;obtain⟨v,H,hx⟩:=ai3 (ops:=ops) hr hw h;exact aiR d (a3N k) (fun c a w h=>Wo (by grind [Sg]) h) g l.length listed a w u c2 s H (p c3) zg
     .have W:uz m (listed.setIfInBounds i A)=uz m listed:=by
       cases m with
       | none=>rfl
       | some m'=>simp only[uz];rw[getD_set_ne A (g m' J)]
      split at h
      .rename_i hw;exact aiT d (a3N k) (fun c a w h=>Wo (by grind [Sg]) h) g l.length listed a w u s (.inr ⟨hw,J⟩) p zg
      .rename_i hw;obtain⟨x,hox⟩:∃ x,o.op = .move x:=by
        grind [aaf]
       have h':sU C o e (fun _=>True) (fun a'=>mQ C ops Q S m l (listed.setIfInBounds i A) a' w):=by
        grind [sU]
       obtain⟨v,H,hx⟩:=ai3 (ops:=ops) hr hw h';exact aiT d (a3N k) (fun c a w h=>Wo (by grind [Sg]) h) g l.length listed a w u s H p zg
def aug{C:mD}(b:Good C){id:Nat}{ops:Array Oper}{Q:Exit->Env->Z->Prop}{vs:List Nat}{e:Env}{w:Z}{m:Nat}(hv:∀ i∈rj ops.toList,i∈vs)(hr:Rel vs a e)(c:(ft.length == ops.size && Region.noSelect ops)=A)
  (h:HD fun S=>S w.drew/\mQ C ops Q S (syn m) ft (Array.replicate ops.size G) e w.drew) :
  (Code.region id ops A).wp C.P (Po vs (rj ops.toList) (ops.toList.all fun o=>!xP o) e Q) a w:=by
 simp only[a1w,beq_iff_eq] at c;obtain⟨S,g,h⟩:=h;have hm:∀ (i:Nat) (o:Oper),ops[i]?=O o->o∈ops.toList:=zg;have d:=ai4 b (us:=rj ops.toList) (n:=ops.toList.all fun o=>!xP o) (e0:=e) hv c.2 (by grind [Sf]) (by grind [Sf]) zg ft _ a e _ hr (kV.refl _ _ _) zg h;rw[c.1] at d;refine wp_mono (wp_region_any b.mixed (aiQ _ _ _ _ d)) fun x a' w' f=>?_;cases x with
 | panic j=>exact⟨⟨fun i=>a'.tmps.getD i undef,a'.defers⟩,⟨zg,J,zg⟩,f.1,zg⟩
 | _=>exact f
theorem aay(i:Nat):∀ l:List Nat,rP i l=A↔i∈l
 | []=>by simp [rP]
 | j::r=>by
  unfold rP;cases a:Nat.beq i j
  .rw[cond_false,aay i r,a1g];have:i≠j:=fun e=>by subst e;simp at a
   grind
  .rw[cond_true];grind [a3I]
def aaz{a a':Env}{vs:List Nat}(h:kV vs A a a')(live:List Nat) :
  fr a vs live (jv (Ak a' live)) a'.f=a':=by
 have c:∀ (l:List Nat) (i:Nat),i∈l->jv (Ak a' l) i=a'.f i:=by
  intro l i;induction l with
  | nil=>grind
  | cons j r ih=>
   intro hx;simp only[Ak,a2M,jv];by_cases e:j=i
   .grind
   .rw[bI e];rcases a1g.1 hx with hx | hx
    .omega
    .exact ih hx
 have b:=h.defs J;cases a' with
 | mk f' df=>
 cases a with
 | mk f0 d=>
 simp only at b c;subst b;simp only[fr]
 congr 1
 funext i
 unfold R3;cases g:rP i live
 .rw[cond_false];cases k:rP i vs
  .rw[cond_false];exact(h.get i (by grind [aay])).symm
  grind
 .rw[cond_true];grind [aay]
def Kl{K:Env->Prop}:∀ (l:List Nat) (a:Env),qE l a K->K a
 | [],_,h=>h
 | i::r,a,h=>by
  have key:∀ c:Bool,a.f i = .bool c->a.put (O i) (.bool c)=a:=by
   intro c b;cases a with
   | mk f df=>
   simp only at b;simp only[Env.put]
   congr 1
   grind [Kg,Nat.beq,ai1]
  unfold qE BS at h;split at h
  .rename_i c b;cases c
   .have:=Kl r _ (h.2 J);grind
   .have:=Kl r _ (h.1 J);grind
  grind
def ai5{vs:List Nat}{n:Bool}{e0:Env}{Q:Exit->Env->Z->Prop}{x:Exit}{w:Z}(h:Po vs us n e0 Q x a w)(hv:∀ i∈us,i∈ft)(b:Gw=A->n=A):Po vs ft Gw e0 Q x a w:=by
 grind [wO.mono]
def Bm{C:mD}(g:Good C){vs:List Nat}:∀ (c:Code) (Q:Exit->Env->Z->Prop) (a:Act) (e:Env) (w:Z),(∀ i∈wr c,i∈vs)->Rel vs a e->gD C c Q e w ->
  c.wp C.P (Po vs (wr c) (nd c) e Q) a w
 | .skip,Q,a,e,w,hv,hr,h=>wp_skip ⟨e,hr,kV.refl _ _ _,h⟩
 | .region id ops draw,Q,a,e,w,hv,hr,h=>by
  unfold gD at h;cases draw with
  | false=>exact aud g hv hr h
  | true=>
   dsimp only at h;split at h
   .grind
   .split at h
    .rename_i W;exact aug g hv hr W h
    grind
   .split at h
    .rename_i X;exact aue g hv hr X h
    grind
 | .seq x y,Q,a,e,w,hv,hr,h=>by
  have r:∀ i∈wr x,i∈vs:=fun i k=>hv i (a1o.2 (.inl k));have s:∀ i∈wr y,i∈vs:=fun i k=>hv i (a1o.2 (.inr k));have t:nd (.seq x y)=A->nd x=true:=fun e=>by simp only[nd,a1w] at e;grind
  unfold gD at h;split at h
  .refine wp_seq (wp_mono (Bm g x _ a e w r hr h) fun z a' w' j=>?_);obtain⟨e',p,o,j⟩:=j;cases z with
   | normal=>
    refine wp_mono (Bm g y Q a' e' w' s p j) fun z B S q=>?_;obtain⟨D,E,F,q⟩:=q;exact⟨D,E,wO.trans o F,q⟩
   | _=>exact⟨e',p,o.mono (fun i k=>a1o.2 (.inl k)) t,j⟩
  .rename_i live hj;split at h
   .rename_i L;split at h
    .unfold JN at h;refine wp_seq (wp_mono (Bm g x _ a e w r hr h) fun z a' w' j=>?_);obtain⟨e',p,o,j⟩:=j;cases z with
     | normal=>
      have H:=o;rw[L] at H;have j:=j e'.f;have j:=Kl _ _ j;rw[aaz H live] at j;refine wp_mono (Bm g y Q a' e' w' s p j) fun z B S q=>?_;obtain⟨D,E,F,q⟩:=q;exact⟨D,E,wO.trans o F,q⟩
     | _=>exact⟨e',p,o.mono (fun i k=>a1o.2 (.inl k)) t,j⟩
    .unfold JS at h;obtain⟨d,h,hJ⟩:=h;refine wp_seq (wp_mono (Bm g x _ a e w r hr h) fun z a' w' j=>?_);obtain⟨e',p,o,j⟩:=j;cases z with
     | normal=>
      have H:=o;rw[L] at H;have j:=hJ _ _ j e'.f;have j:=Kl _ _ j;rw[aaz H live] at j;refine wp_mono (Bm g y Q a' e' w' s p j) fun z B S q=>?_;obtain⟨D,E,F,q⟩:=q;exact⟨D,E,wO.trans o F,q⟩
     | _=>exact⟨e',p,o.mono (fun i k=>a1o.2 (.inl k)) t,j⟩
   grind
 | .cond c x y,Q,a,e,w,hv,hr,h=>by
  have ht:a.eval c = .bool A->gD C x Q e w->(Code.cond c x y).wp C.P (Po vs (wr (.cond c x y)) (nd (.cond c x y)) e Q) a w:=fun N h=>
   wp_cond_true N (wp_mono (Bm g x Q a e w (fun i k=>hv i (a1o.2 (.inl k))) hr h) fun z a' w' j=>ai5 j (fun i k=>a1o.2 (.inl k)) (fun e=>by simp only[nd,a1w] at e;grind))
  have hf:a.eval c = .bool G->gD C y Q e w->(Code.cond c x y).wp C.P (Po vs (wr (.cond c x y)) (nd (.cond c x y)) e Q) a w:=fun N h=>
   wp_cond_false N (wp_mono (Bm g y Q a e w (fun i k=>hv i (a1o.2 (.inr k))) hr h) fun z a' w' j=>ai5 j (fun i k=>a1o.2 (.inr k)) (fun e=>by simp only[nd,a1w] at e;grind))
  unfold gD at h;rw[<- hr.eval] at h;split at h
  .unfold BS at h;split at h
   .rename_i b K;cases b with
    | true=>grind
    | false=>grind
   grind
  grind
 | .block id c,Q,a,e,w,hv,hr,h=>by
  unfold gD at h;refine wp_block (wp_mono (Bm g c _ a e w hv hr h) fun z a' w' j=>?_);obtain⟨e',p,o,j⟩:=j;cases z with
  | exit R=>
   unfold Gu tid at j;dsimp only at j;cases K:Nat.beq R id with
   | true=>
    rw[K] at j;have u:R=id:=a3I K;simp only[Exit.inBlock,zip u];exact⟨e',p,o,j⟩
   | false=>
    rw[K] at j;have u:¬ R=id:=fun e=>by subst e;simp at K
    simp only[Exit.inBlock,bI u];exact⟨e',p,o,j⟩
  | _=>exact⟨e',p,o,j⟩
 | .exit id,Q,a,e,w,hv,hr,h=>wp_exit ⟨e,hr,kV.refl _ _ _,h⟩
 | .ret,Q,a,e,w,hv,hr,h=>wp_ret ⟨e,hr,kV.refl _ _ _,h⟩
 | .loop c,Q,a,e,w,hv,hr,h=>by
  unfold gD at h;split at h
  .rename_i L;obtain⟨I,⟨n0,h0⟩,M5⟩:=h;refine wp_loop_ghost (fun n a' w'=>∃ e',Rel vs a' e'/\kV (wr c) A e e'/\I n (jv (Ak e' (C.live (Iy c)))) w') (by grind [kV.refl]) ?_;rintro n a1 w1 ⟨u,qI,T,k⟩;have M:=M5 n _ u.f w1 k;have M:=Kl _ _ M;rw[aaz T] at M;refine wp_mono (Bm g c _ a1 u w1 hv qI M) fun z a' w' j=>?_;obtain⟨e',p,o,j⟩:=j;rw[L] at o;have U:wO z (wr c) A e e':=(wO.trans T o).mono zg zg;cases z with
   | normal=>
    obtain⟨m,hm,k⟩:=j;exact⟨m,hm,e',p,U,k⟩
   | _=>exact⟨e',p,U.mono (fun i k=>k) zg,j⟩
  grind
 | .rangeFunc _ _ _ _,_,_,_,_,_,_,h=>h.elim
 | .scope c,Q,a,e,w,hv,hr,h=>by
  unfold gD at h;refine wp_scope_straight (wp_mono (Bm g c _ a e w hv hr h) fun z a' w' j=>?_);obtain⟨e',p,o,j⟩:=j;cases z with
  | goto l=>exact j.elim
  | _=>exact⟨e',p,o,j⟩
 | .label l,Q,a,e,w,hv,hr,h=>wp_label ⟨e,hr,kV.refl _ _ _,h⟩
 | .goto _,_,_,_,_,_,_,h=>h.elim
 | .refuse _,_,_,_,_,_,_,h=>h.elim
def IC(P:Program):List ResultVar->Array Y->Z->List Y->(List Y->Prop)->Prop
 | [],_,_,acc,K=>K acc
 | .tmp t::rs,tm,w,acc,K=>IC P rs tm w (acc++[tm.getD t undef]) K
 | .cell a t::rs,tm,w,acc,K=>RD P (a1p t (tm.getD a undef)) w (fun v=>IC P rs tm w (acc++[v]) K) (fun _ _=>False)
def one:List Y->Y
 | [v]=>v
 | l=>ak l.toArray
def Wr(tm:Array Y):ResultVar->Sem Y
 | .tmp t=>pure (tm.getD t undef)
 | .cell a t=>do loadVar t (<- asAddr (tm.getD a undef))
def aaE{P:Program}{tm:Array Y}{w:Z}:∀ (l:List ResultVar) (acc:List Y) (K:List Y->Prop),IC P l tm w acc K ->
  ∃ vs,(l.mapM (Wr tm)).run P w=Result.ok vs w/\K (acc++vs)
 | [],acc,K,h=>⟨[],J,by grind [IC]⟩
 | .tmp t::l,acc,K,h=>by
  obtain⟨vs,b,c⟩:=aaE l _ K h;refine⟨tm.getD t undef::vs,?_,by simpa using c⟩;rw[List.mapM_cons];simp only[Wr,a1m,a1V,a1k];rw[b];rfl
 | .cell a t::l,acc,K,h=>by
  unfold IC RD at h;cases hr:(a1p t (tm.getD a undef)).run P w with
  | halt x w'=>grind
  | ok v w'=>
   rw[hr] at h;obtain⟨rfl,h⟩:=h;obtain⟨vs,b,c⟩:=aaE l _ K h;refine⟨v::vs,?_,zg⟩;rw[List.mapM_cons];have e:(Wr tm (.cell a t)).run P w' = .ok v w':=by
    rw[<- hr];show(do loadVar t (<- asAddr (tm.getD a undef)):Sem Y).run P w'=_;unfold a1p;generalize tm.getD a undef=u at *;unfold a1p at hr;cases u with
    | pointer p=>
     cases p with
     | none=>simp only[a1m] at hr;cases hr
     | some p=>rfl
    | _=>simp only[a1m] at hr;cases hr
   grind [a1m,a1V,a1k]
def Sk{P:Program}{w:Z}{K:List Y->Prop}(h:IC P fn.results.toList iL w [] K) :
  ∃ l,(results fn iL).run P w = .ok (one l) w/\K l:=by
 obtain⟨vs,a,c⟩:=aaE _ _ _ h;refine⟨vs,?_,zg⟩;unfold results;show(Sem.bind (fn.results.mapM (Wr iL)) fun vs=>pure (if h:vs.size=1 then vs[0] else ak vs)).run P w=_;rw[Sem.run_bind',Array.mapM_eq_mapM_toList];simp only[Sem.run_map];rw[a];simp only[a1k,a1V]
 congr 1
 unfold one;split
 .rename_i b
  match vs,b with
  | [v],_=>rfl
 grind
def vo(P:Program):List ResultVar->(Nat->Y)->Z->List Y->(List Y->Prop)->Prop
 | [],_,_,acc,K=>K acc
 | .tmp t::rs,f,w,acc,K=>vo P rs f w (acc++[f t]) K
 | .cell a t::rs,f,w,acc,K=>RD P (a1p t (f a)) w (fun v=>vo P rs f w (acc++[v]) K) (fun _ _=>False)
def M6{P:Program}{tm:Array Y}{f:Nat->Y}(h:∀ i,tm.getD i undef=f i)(w:Z):∀ (l:List ResultVar) (acc:List Y) (K:List Y->Prop),vo P l f w acc K->IC P l tm w acc K
 | [],acc,K,hk=>hk
 | .tmp t::l,acc,K,hk=>by
  unfold vo at hk;unfold IC;rw[h];exact M6 h w l _ K hk
 | .cell a t::l,acc,K,hk=>by
  unfold vo RD at hk;unfold IC RD;rw[h];cases hr:(a1p t (f a)).run P w with
  | ok v w'=>rw[hr] at hk;exact⟨hk.1,M6 h w l _ K hk.2⟩
  | halt x w'=>grind
def Km(P:Program)(fn:Func)(R:Ending->Z->Prop):Exit->Env->Z->Prop
 | .normal,a,w | .ret,a,w=>tid (vo P fn.results.toList a.f w [] fun l=>R (ah (one l)) w)
 | .panic b,_,w=>R (.panicked b) w
 | _,_,_=>False
def PD:List Y->Nat->Y
 | [],_=>undef
 | v::_,0=>v
 | _::r,i+1=>PD r i
def wT(args:List Y):Env:={ f:=PD args,defers:=[] }
def ai7:∀ (l:List Y) (i:Nat),PD l i=l.getD i undef
 | [],i=>by simp [PD]
 | v::r,0=>rfl
 | v::r,i+1=>by
  unfold PD;rw[ai7 r i];simp
def aaF{args:List Y}{vs:List Nat}(hv:vs.all (fun i=>decide (i<n))=A)(a:args.length<=n) :
  Rel vs { tmps:=args.toArray++Array.replicate (n-args.toArray.size) undef,defers:=[] } (wT args):=by
 refine⟨fun i=>?_,J,fun i b=>?_⟩
 .show _=PD args i;rw[ai7];simp only[a2y,List.getD_eq_getElem?_getD,Array.getElem?_append];grind
 grind
def calls{C:mD}(a:Good C){f:FuncId}{c:Code}{args:List Y}{w:Z}(m:C.P.funcs[f]?=O fn)(n:fn.body=O c)
  (o:nd c=A) (hv:((wr c).all fun i=>decide (i<fn.ntmps))=A) (p:args.length<=fn.ntmps) (h:gD C c (Km C.P fn R) (wT args) w):Calls C.P f args.toArray w R:=by
 refine calls_of_wp m n (wp_mono (Bm a c _ _ (wT args) w zg (aaF hv p) h) fun e a' w' q=>?_);obtain⟨e',d,r,b⟩:=q;have g:a'.defers=[]:=by rw[d.defs];exact r.defs o
 cases e with
 | normal=>obtain⟨l,j,k⟩:=Sk (M6 d.get w' _ _ _ b);exact⟨g,_,j,k⟩
 | ret=>obtain⟨l,j,k⟩:=Sk (M6 d.get w' _ _ _ b);exact⟨g,_,j,k⟩
 | panic s=>exact⟨g,b⟩
 | _=>exact b.elim
def LV(P:Program)(res:Z->Prop)(R:Ending->Z->Prop):List Deferred->FrameMode->Z->Prop
 | [],.returning,w=>res w
 | [],.panicking chain,w=>R (.panicked chain) w
 | [],.run,_=>False
 | d::ds,u,w=>u≠.run/\∃ b cap f args,d.target = .fn b cap/\(invoke d.target d.args).run P w = .ok (.enter f args) w /\
  CallsD P f args u w fun
   | ah _,a,w'=>LV P res R ds (settle a) w'
   | .panicked chain,a,w'=>LV P res R ds (raised a chain) w'
   | .outgrown,_,_=>False
theorem CallsD.mono{P:Program}{f:FuncId}{args:Array Y}{u:FrameMode}{w:Z}{R a:Ending->FrameMode->Z->Prop}(h:CallsD P f args u w R)
  (hr:∀ e u w,R e u w->a e u w):CallsD P f args u w a:=
 fun c cs b=>let ⟨e,d,w',fr,g,i⟩:=h c cs b; zg
def Sn{P:Program}{fn:Func}{tm:Array Y}{f:Nat->Y}(a:∀ i,tm.getD i undef=f i){R:Ending->Z->Prop}:∀ (ds:List Deferred) (u:FrameMode) (w:Z),
  LV P (fun w=>vo P fn.results.toList f w [] fun l=>R (ah (one l)) w) R ds u w->Leaves P fn tm R ds u w
 | [],.returning,w,h=>by obtain⟨l,b,c⟩:=Sk (M6 a w _ _ _ h);exact⟨_,b,c⟩
 | [],.panicking _,w,h=>h
 | [],.run,w,h=>h.elim
 | d::ds,u,w,h=>by
  obtain⟨b,g,cap,f,args,c,j,k⟩:=h;refine⟨b,g,cap,f,args,c,j,CallsD.mono k fun e m w' he=>?_⟩;cases e with
  | returned v=>exact Sn a ds _ _ he
  | panicked n=>exact Sn a ds _ _ he
  | outgrown=>grind
def M7(P:Program)(fn:Func)(R:Ending->Z->Prop):Exit->Env->Z->Prop
 | .normal,a,w | .ret,a,w=>LV P (fun w=>vo P fn.results.toList a.f w [] fun l=>R (ah (one l)) w) R a.defers .returning w
 | .panic b,a,w=>LV P (fun w=>vo P fn.results.toList a.f w [] fun l=>R (ah (one l)) w) R a.defers (.panicking b) w
 | _,_,_=>False
def auh{C:mD}(a:Good C){f:FuncId}{c:Code}{args:List Y}{w:Z}(g:C.P.funcs[f]?=O fn)(j:fn.body=O c)
  (hv:((wr c).all fun i=>decide (i<fn.ntmps))=A) (k:args.length<=fn.ntmps) (h:gD C c (M7 C.P fn R) (wT args) w):Calls C.P f args.toArray w R:=by
 refine calls_of_wp_defers g j (wp_mono (Bm a c _ _ (wT args) w zg (aaF hv k) h) fun e a' w' l=>?_);obtain⟨e',b,m,d⟩:=l;cases e with
 | normal=>show Leaves _ _ _ _ _ _ _;rw[b.defs];exact Sn b.get _ _ _ d
 | ret=>show Leaves _ _ _ _ _ _ _;rw[b.defs];exact Sn b.get _ _ _ d
 | panic n=>show Leaves _ _ _ _ _ _ _;rw[b.defs];exact Sn b.get _ _ _ d
 | _=>exact d.elim
def aui{C:mD}(b:Good C){f:FuncId}{c:Code}{args:List Y}{w:Z}{S:Prop}(e:C.P.funcs[f]?=O fn)(g:fn.body=O c)
  (j:nd c=A) (hv:((wr c).all fun i=>decide (i<fn.ntmps))=A) (k:args.length<=fn.ntmps) (d:List Nat) (he:qE d (wT args) (fun a=>gD C c (Km C.P fn R) a w)=S) (h:S):Calls C.P f args.toArray w R:=
 calls b e g j hv k (Kl d _ (he ▸ h))
def auj{C:mD}(b:Good C){f:FuncId}{c:Code}{args:List Y}{w:Z}{S:Prop}(e:C.P.funcs[f]?=O fn)(g:fn.body=O c)
  (hv:((wr c).all fun i=>decide (i<fn.ntmps))=A) (j:args.length<=fn.ntmps) (d:List Nat) (he:qE d (wT args) (fun a=>gD C c (M7 C.P fn R) a w)=S) (h:S):Calls C.P f args.toArray w R:=
 auh b e g hv j (Kl d _ (he ▸ h))
def Cj{P:Program}{res:Z->Prop}{R:Ending->Z->Prop}{k:FuncId}{cap args:Array Y}{ds:List Deferred}{u:FrameMode}{w:Z}(hk:Ai P k=A)(hu:u≠.run)
  (h:CallsD P k (args++cap) u w fun
   | ah _,a,w'=>LV P res R ds (settle a) w'
   | .panicked chain,a,w'=>LV P res R ds (raised a chain) w'
   | .outgrown,_,_=>False):LV P res R ({ target:=.fn (.func k) cap,args:=args }::ds) u w:=
 ⟨hu,_,_,k,args++cap,J,R6 hk (args++cap) w,h⟩
def aaG{P:Program}{w:Z}:LV P res R [] .returning w=res w:=rfl
def aaH{P:Program}{a:List PanicEntry}{w:Z}:LV P res R [] (.panicking a) w=R (.panicked a) w:=rfl
def Wt(f:Fn)(x y:Array Y)(K:Fn->Array Y->Array Y->Prop):DF (.func f x y) K=K f x y:=rfl
def auk{C:mD}(b:Good C){f:FuncId}{c:Code}{args:List Y}{u:FrameMode}{w:Z}{S:Prop}(o:C.P.funcs[f]?=O fn)(p:fn.body=O c)
  (q:nd c=A) (hv:((wr c).all fun i=>decide (i<fn.ntmps))=A) (r:args.length<=fn.ntmps) (n:List Nat) (he:qE n (wT args) (fun a=>gD C c (Km C.P fn R) a w)=S) (h:S) :
  CallsD C.P f args.toArray u w fun e s w'=>s=u/\R e w':=by
 have h:=Kl n _ (he ▸ h);refine callsD_of_wp o p (wp_mono (Bm b c _ _ (wT args) w zg (aaF hv r) h) fun e a' w' t=>?_);obtain⟨e',g,x,d⟩:=t;have j:a'.defers=[]:=by rw[g.defs];exact x.defs q
 cases e with
 | normal=>obtain⟨l,k,m⟩:=Sk (M6 g.get w' _ _ _ d);exact⟨j,_,k,m⟩
 | ret=>obtain⟨l,k,m⟩:=Sk (M6 g.get w' _ _ _ d);exact⟨j,_,k,m⟩
 | panic y=>exact⟨j,d⟩
 | _=>exact d.elim
def cq{C:mD}(b:Good C){f:FuncId}{c:Code}{args:List Y}{w:Z}{S:Prop}(d:C.P.funcs[f]?=O fn)(e:fn.body=O c)
  (hk:(nd c && ((wr c).all fun i=>decide (i<fn.ntmps)) && Nat.ble args.length fn.ntmps)=A) (he:qE [] (wT args) (fun a=>gD C c (Km C.P fn R) a w)=S) (h:S):Calls C.P f args.toArray w R:=by
 simp only[a1w] at hk;exact aui b d e hk.1.1 hk.1.2 (Nat.le_of_ble_eq_true hk.2) [] he h
abbrev bo(op:BinOp)(t:TypeId)(x y:Operand)(a b:Y):Sem Y:=do eqGuard op t x y a b;binOp op t a b
def GA(P:Program)(s:Sem Y)(w:Z)(K:Y->Prop)(X:Y->Z->Prop):Prop:=RD P s w K X
def WU0(P:Program)(s:Sem Unit)(w:Z)(K:Z->Prop)(X:Y->Z->Prop):Prop:=WU P s w K X
def WR0(P:Program)(s:Sem Y)(w:Z)(K:Y->Z->Prop)(X:Y->Z->Prop):Prop:=WR P s w K X
def ij{P:Program}{s:Sem Y}{w:Z}(h:s.run P w = .ok v w):RD P s w K X=K v:=by
 unfold RD;grind
def aul{P:Program}{s:Sem Y}{w:Z}(h:s.run P w = .halt (.panic v) w'):RD P s w K X=X v w':=by
 unfold RD;grind
def xR{P:Program}{s:Sem Y}{w:Z}{K:Y->Z->Prop}(h:s.run P w = .ok v w'):WR P s w K X=K v w':=by
 unfold WR;grind
def So{P:Program}{s:Sem Unit}{w:Z}{K:Z->Prop}(h:s.run P w = .ok () w'):WU P s w K X=K w':=by
 unfold WU;grind
def jI(a:Addr)(K:Y->Prop):NC (aq (O a)) K=K (aq (O a)):=rfl
def aaJ(t:TypeId)(x:Y)(K:Y->Prop):NC (aj t x) K=K (aj t x):=rfl
def aaK(f:FuncId)(x y:Array Y)(K:Y->Prop):NC (.func (.func f) x y) K=K (.func (.func f) x y):=rfl
def PE(a B:Prop):BS (.bool A) a B=a:=by simp [BS]
def PF(a B:Prop):BS (.bool G) a B=B:=by simp [BS]
def GB{p:Prop}[Decidable p](a B:Prop)(h:p):BS (.bool (decide p)) a B=a:=by simp [BS,h]
def GC{p:Prop}[Decidable p](a B:Prop)(h:¬ p):BS (.bool (decide p)) a B=B:=by simp [BS,h]
def aaL{p:Prop}[Decidable p](a B:Prop):BS (.bool (decide p)) a B=((p->a)/\(¬ p->B)):=by simp [BS]
section
variable{P:Program}{t:TypeId}{x y:Operand}{w:Z}{K:Y->Prop}{X:Y->Z->Prop}
def aaM(k:IntKind)(a b:Int):RD P (bo .add t x y (.int k a) (.int k b)) w K X=K (.int k (k.wrap (a+b))):=
 ij (by simp [bo,eqGuard,binOp,Op.intArith])
def aaN(k:IntKind)(a b:Int):RD P (bo .sub t x y (.int k a) (.int k b)) w K X=K (.int k (k.wrap (a-b))):=
 ij (by simp [bo,eqGuard,binOp,Op.intArith])
def aaO(k:IntKind)(a b:Int):RD P (bo .mul t x y (.int k a) (.int k b)) w K X=K (.int k (k.wrap (a*b))):=
 ij (by simp [bo,eqGuard,binOp,Op.intArith])
def aaP(k:IntKind)(a b:Int):RD P (bo .lss t x y (.int k a) (.int k b)) w K X=K (.bool (decide (a<b))):=
 ij (by simp [bo,eqGuard,binOp,a5q])
def aaQ(k:IntKind)(a b:Int):RD P (bo .leq t x y (.int k a) (.int k b)) w K X=K (.bool (decide (a<=b))):=
 ij (by simp [bo,eqGuard,binOp,a5q])
def aaR(k:IntKind)(a b:Int):RD P (bo .gtr t x y (.int k a) (.int k b)) w K X=K (.bool (decide (b<a))):=
 ij (by simp [bo,eqGuard,binOp,a5q])
def aaS(k:IntKind)(a b:Int):RD P (bo .geq t x y (.int k a) (.int k b)) w K X=K (.bool (decide (b<=a))):=
 ij (by simp [bo,eqGuard,binOp,a5q])
def aaT(k:IntKind)(a b:Int):RD P (bo .eql t x y (.int k a) (.int k b)) w K X=K (.bool (decide (a=b))):=
 ij (by simp [bo,eqGuard,binOp,a5q];grind)
def aaU(k:IntKind)(a b:Int):RD P (bo .neq t x y (.int k a) (.int k b)) w K X=K (.bool (decide (¬ a=b))):=
 ij (by simp [bo,eqGuard,binOp,a5q];grind)
def aaV(b:Bool):RD P (Op.unary .not (.bool b)) w K X=K (.bool !b):=ij J
def aaW(k:IntKind)(n:Int):RD P (Op.unary .neg (.int k n)) w K X=K (.int k (k.wrap (0-n))):=ij J
def aaX(a b:List UInt8):RD P (bo .eql t x y (.string (bs a)) (.string (bs b))) w K X=K (.bool (decide (a=b))):=
 ij (by simp [bo,eqGuard,binOp,Op.stringOp];grind)
def aaY(a b:List UInt8):RD P (bo .neq t x y (.string (bs a)) (.string (bs b))) w K X=K (.bool (decide (¬ a=b))):=
 ij (by simp [bo,eqGuard,binOp,Op.stringOp];grind)
end
section
variable{P:Program}{t:TypeId}{x y:Operand}{w:Z}{K:Y->Prop}{X:Y->Z->Prop}
def M8(a b:List UInt8)(h:a.length+b.length<=4294967296):RD P (bo .add t x y (.string (bs a)) (.string (bs b))) w K X=K (.string (bs (a++b))):=by
 refine ij ?_;have c:¬ (IntKind.i64.max<(((bs a).size+(bs b).size:Nat):Int)):=by
  have d:(bs a).size=a.length:=by simp [ByteArray.size]
  have f:(bs b).size=b.length:=by simp [ByteArray.size]
  have g:IntKind.i64.max=9223372036854775807:=zd;omega
 have e:bs a++bs b=bs (a++b):=by
  apply ByteArray.ext;grind [ByteArray.data_append]
 simp only[bo,eqGuard,binOp,Op.stringOp,a1m];show(if ((bs a).size+(bs b).size:Nat) > IntKind.i64.max then _ else _:Sem Y).run P w=_;rw[bI c,e];rfl
end
def bS(w:Z)(b:Nat)(o:Obj):Z:={ w with heap:=w.heap.setIfInBounds b o }
theorem vp(w:Z)(b:Nat)(o:Obj):(bS w b o).heap.size=w.heap.size:=by simp [bS]
theorem M9{w:Z}{o:Obj}(h:b<w.heap.size):(w.alloc o).heap[b]?=w.heap[b]?:=by
 show(w.heap.push o)[b]?=_;grind
theorem rR{w:Z}{o:Obj}(h:b=w.heap.size):(w.alloc o).heap[b]?=O o:=by
 grind [blk_alloc_new]
theorem qJ{w:Z}{o:Obj}(h:b=c)(a:b<w.heap.size):(bS w c o).heap[b]?=O o:=by
 grind [bS]
theorem jr{w:Z}{o:Obj}(h:¬ b=c):(bS w c o).heap[b]?=w.heap[b]?:=by
 simp [bS,Ne.symm h]
theorem Sp(w:Z)(b:Nat):w.drew.heap[b]?=w.heap[b]?:=rfl
theorem Ck(w:Z):w.drew.heap.size=w.heap.size:=rfl
def vq{w:Z}{T:TypeId}(h:w.heap[b]?=O (ae cs T (0,0)))(v:Y):w.setCell ⟨b,o,V⟩ v=bS w b (ae (cs.setIfInBounds o v) T (0,0)):=by
 unfold a5k bS
 congr 1
 grind
def Wu(P:Program)(T:TypeId):Bool:=
 match P.underlying T with
 | some (.struct _)=>G
 | some (.array _ _)=>G
 | some _=>A
 | none=>G
def Sq(P:Program)(T:TypeId)(n:Nat):Bool:=
 (match P.underlying T with
 | some (.struct _)=>A
 | some (.array _ _)=>A
 | _=>G) && (match P.info? T with
 | some i=>i.size == n
 | none=>G)
def sized(P:Program)(T:TypeId)(n:Nat):Bool:=
 match P.info? T with
 | some i=>i.size == n
 | none=>G
def Wv(x:Option Obj)(o:Nat)(K:Y->Prop)(D:Prop):RT (K,D):=
 match x with
 | some (ae cs _ _)=>(match cs[o]? with | some v=>K v | none=>D)
 | _=>D
def Na(x:Option Obj)(o n:Nat)(K:Y->Prop)(D:Prop):RT (K,D):=
 match x with
 | some (ae cs _ _)=>if o+n<=cs.size then K (.agg ((cs.toList.drop o).take n).toArray) else D
 | _=>D
def pD(cs:Array Y)(o:Nat):List Y->Array Y
 | []=>cs
 | v::r=>pD (cs.setIfInBounds o v) (o+1) r
section mem
variable{P:Program}{T:TypeId}{b o:Nat}{w:Z}{K:Y->Prop}{X:Y->Z->Prop}
def ajb(h:Wu P T=A)(w:Z):(isAgg T).run P w = .ok G w:=by
 unfold Wu at h;unfold isAgg underlying;simp only[a1m,program,a3J,a1k];grind [a1V,a1k]
theorem GD(h:sized P T n=A)(w:Z):(sizeOf T).run P w = .ok n w:=by
 unfold sized at h;unfold sizeOf typeInfo;simp only[a1m,program,a3J,a1k];split at h
 .rename_i i a;rw[a];simp only[a1V,a1k];grind
 grind
def aum(h:Sq P T n=A):sized P T n=true:=by
 unfold Sq at h;simp only[a1w] at h;exact h.2
def aun(h:Sq P T n=A)(w:Z):(isAgg T).run P w = .ok A w:=by
 unfold Sq at h;simp only[a1w] at h;have h:=h.1;unfold isAgg underlying;simp only[a1m,program,a3J,a1k];split at h
 .rename_i a;rw[a];rfl
 .rename_i a;rw[a];rfl
 grind
def ku(a:Wu P T=A):RD P (a1p T (aq (O ⟨b,o,V⟩))) w K X=Wv (w.heap[b]?) o K (GA P (a1p T (aq (O ⟨b,o,V⟩))) w K X):=by
 unfold Wv;split
 .rename_i cs t z c;split
  .rename_i v hv;refine ij ?_;simp only[a1p,a41,loadVar,a1m,a1V,a1k,ajb a,Bool.false_eq_true,if_false,load,a3J,cellOf c hv]
  .rfl
 .rfl
def aaZ(a:Sq P T n=A):RD P (a1p T (aq (O ⟨b,o,V⟩))) w K X=Na (w.heap[b]?) o n K (GA P (a1p T (aq (O ⟨b,o,V⟩))) w K X):=by
 unfold Na;split
 .rename_i cs t z c;split
  .rename_i g;refine ij ?_;have d:((cs.toList.drop o).take n).length=n:=zg;have f:∀ j v,((cs.toList.drop o).take n)[j]?=O v->w.cell? ((⟨b,o,V⟩:Addr).add j)=O v:=by
    intro j v hv;rw[List.getElem?_take] at hv;split at hv
    .rw[List.getElem?_drop] at hv;have e:(⟨b,o,V⟩:Addr).add j=⟨b,o+j,V⟩:=by unfold Addr.add;split<;>simp_all
     rw[e];exact cellOf c (by simpa using hv)
    .cases hv
   have:=run_loadCells_list (P:=P) w ⟨b,o,V⟩ ((cs.toList.drop o).take n) f;rw[d] at this;simp only[a1p,a41,loadVar,a1m,a1V,a1k,aun a,if_true,GD (aum a),this]
  .rfl
 .rfl
def ajc{U:TypeId}:∀ (vs:List Y) (i:Nat) (cs:Array Y) (w:Z),w.heap[b]?=O (ae cs U (0,0))->o+i+vs.length<=cs.size->(vs.all a2m)=A ->
  (storeCells ⟨b,o,V⟩ vs i).run P w = .ok () (bS w b (ae (pD cs (o+i) vs) U (0,0)))
 | [],i,cs,w,a,_,_=>by
  have j:=bh a;have:bS w b (ae cs U (0,0))=w:=by
   unfold bS;cases w
   congr 1
   grind
  simp [storeCells,pD,this]
 | v::vs,i,cs,w,a,d,c=>by
  simp only[List.length_cons] at d;simp only[List.all_cons,a1w] at c;have f:w.cell? ⟨b,o+i,V⟩=O cs[o+i]:=(by grind [cellOf]);have hu:(bS w b (ae (cs.setIfInBounds (o+i) v) U (0,0))).heap[b]?=O (ae (cs.setIfInBounds (o+i) v) U (0,0)):=qJ J (bh a);have ih:=ajc vs (i+1) (cs.setIfInBounds (o+i) v) _ hu zg c.2;have e:(⟨b,o,V⟩:Addr).add i=⟨b,o+i,V⟩:=by unfold Addr.add;split<;>simp_all
  have g:∀ x y,bS (bS w b x) b y=bS w b y:=by
   intro x y;unfold bS;simp
  rw[g] at ih;simp only[storeCells,a1m,e,pD];have k:(store ⟨b,o+i,V⟩ v).run P w = .ok () (bS w b (ae (cs.setIfInBounds (o+i) v) U (0,0))):=by
   rw[<- vq a];have h:=jX a (o+i);cases v<;>first | (simp [a2m] at c;done) | simp [store,a3J,f,h]
  grind [a1k]
def Ss(x:Option Obj)(w:Z)(b o n:Nat)(v:Y)(K:Z->Prop)(D:Prop):RT (K,D):=
 match x with
 | some (ae cs U z)=>if z=(0,0)/\v.cells.toList.length=n/\o+n<=cs.size/\(v.cells.toList.all a2m)=A then K (bS w b (ae (pD cs o v.cells.toList) U (0,0))) else D
 | _=>D
def ow(a:sized P T n=A)(v:Y){K:Z->Prop}:WU P (a2A T (aq (O ⟨b,o,V⟩)) v) w K X=Ss (w.heap[b]?) w b o n v K (WU0 P (a2A T (aq (O ⟨b,o,V⟩)) v) w K X):=by
 unfold Ss;split
 .rename_i cs U z c;split
  .rename_i h;obtain⟨rfl,e,f,d⟩:=h;refine So ?_;have g:v.cells.size=n:=zo;have:=ajc (P:=P) (b:=b) (o:=o) v.cells.toList 0 cs w c zo d;simp only[a2A,a41,storeVar,a1m,a1V,a1k,GD a];grind
  .rfl
 .rfl
def Ao(P:Program)(T:TypeId):Option Y:=(P.info? T).bind (·.zero)
def Fa(h:Ao P T=O z)(w:Z):(zeroValue T).run P w = .ok z w:=by
 unfold Ao at h;unfold zeroValue typeInfo;simp only[a1m,program,a3J,a1k];grind [a1V,a1k]
def Ap(h:Ao P T=O z){K:Y->Z->Prop}:WR P (Instr.alloc T A u) w K X=K (aq (O ⟨w.heap.size,0,V⟩)) (w.alloc (ae z.cells T)):=by
 refine xR ?_;simp only[Instr.alloc,a1m,Fa h,a1k,newVar,newRow,newObj,a3J,a1V];rfl
def aa0{K:Y->Z->Prop}:WR P (Instr.box T v) w K X=K (aq (O ⟨w.heap.size,0,V⟩)) (w.alloc (ae v.cells T)):=by
 refine xR ?_;simp only[Instr.box,a1m,a1k,newVar,newRow,newObj,a3J,a1V];rfl
end mem
def yH{p:Prop}(h:p:=by grind [jr,qJ,M9,rR,Sp,size_alloc,vp,Ck,bh]):p:=h
end Sx
