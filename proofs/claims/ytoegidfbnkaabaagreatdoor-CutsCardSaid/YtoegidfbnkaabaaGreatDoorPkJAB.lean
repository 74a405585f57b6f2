/- A part of one proof (Base, Sx3, Sx4, SxL). -/
import Derived.Test.YtoegidfbnkaabaaGreatDoorPkJAA
import Derived.WalkKit
import Derived.Lib.Hide
import Derived.Deep.QuietTactic
import Derived.BigQuiet
import Derived.Deep.RegionLaw
set_option linter.all false
set_option maxRecDepth 100000
set_option maxHeartbeats 8000000
open Option renaming some → O, none → V
open Go renaming Value → Y, World → Z
open Bool renaming true → A, false → G
open Go.Obj renaming cells → ae
open Go.Ending renaming returned → ah
open Go.Value renaming iface → aj, tuple → ak, pointer → aq
open Go.Result renaming andThen_ok → aZR
open Go.Sem renaming run_bind → aZS, run_pure → a0u, run → a18
open List renaming mem_cons → aZU, mem_cons_self → aZV, mem_append → aZW, map_cons → a0V
open Go.Instr renaming loadAt → aZX, storeAt → a05, sureAddr → a3r
open Bool renaming and_eq_true → aZ3
open Go.Region renaming wanted → a0E, noSelect_spec → a2c
open Go.Value renaming oneCell' → a0N
open Array renaming getD_eq_getD_getElem? → a03
open Nat renaming eq_of_beq_eq_true → a17
open Go.Exit renaming jump → a3l
open Go.World renaming setCell → a3J
open Go.Op renaming intCmp → a3P
namespace Go.Proofs.YtoegidfbnkaabaaGreatDoor
open Go.RowKit
variable{K:Y->Prop}{R:Ending->Z->Prop}{W w w':Z}{X:Y->Z->Prop}{a:Act}{b base c d i k m n o pb:Nat}{cs iB:Array Y}{fn:Func}{res:Z->Prop}{u v z:Y}{us fx:List Nat}{FG:Bool}{xs:List Y}
theorem cellOf{T:TypeId}{z:Nat×Nat}(h:w.heap[b]?=O (ae cs T z))
  (hv:cs[o]?=O v):w.cell? ⟨b,o,V⟩=O v:=by
 grind [World.cell?]
theorem jH{T:TypeId}(h:w.heap[b]?=O (ae cs T (0,0)))(o:Nat):w.frozen? ⟨b,o,V⟩=false:=by
 grind [World.frozen?]
theorem bg{o:Obj}(h:w.heap[b]?=O o):b<w.heap.size:=by
 grind
theorem blk_alloc_new(w:Z)(o:Obj):(w.alloc o).heap[w.heap.size]?=O o:=by
 show(w.heap.push o)[w.heap.size]?=_;simp
theorem dQ{o x:Obj}(h:w.heap[b]?=O x):(w.alloc o).heap[b]?=O x:=by
 have:=bg h;show(w.heap.push o)[b]?=_;grind
theorem size_alloc(w:Z)(o:Obj):(w.alloc o).heap.size=w.heap.size+1:=by
 show(w.heap.push o).size=_;simp
theorem size_setCell(w:Z)(a:Addr)(v:Y):(w.setCell a v).heap.size=w.heap.size:=by simp [a3J]
def size_drew(w:Z):w.drew.heap.size=w.heap.size:=rfl
theorem Oi(w:Z)(n:Nat):(w.drewN n).heap.size=w.heap.size:=rfl
def Az{T:TypeId}{z:Nat×Nat}(h:w.heap[b]?=O (ae cs T z))(v:Y) :
  (w.setCell ⟨b,o,V⟩ v).heap[b]?=O (ae (cs.setIfInBounds o v) T z):=by
 grind [a3J]
theorem blk_setCell_other{a:Addr}(h:b≠a.block)(v:Y):(w.setCell a v).heap[b]?=w.heap[b]?:=by
 simp [a3J,Array.getElem?_modify,Ne.symm h]
theorem Zt{a:Addr}(h:w.cell? a=O v)(hw:∀ (b:Nat) (o:Obj),w.heap[b]?=O o->w'.heap[b]?=O o):w'.cell? a=O v:=by
 grind [World.cell?,World.cell?_of_block]
structure bB(M:Nat->Obj->Prop)(w w':Z):Prop where
 os:w'.os=w.os
 tape:w'.tape=w.tape
 output:w'.output=w.output
 size:w.heap.size<=w'.heap.size
 block:∀ b o,w.heap[b]?=O o->¬ M b o->w'.heap[b]?=O o
theorem bB.refl(M:Nat->Obj->Prop)(w:Z):bB M w w:=⟨J,J,J,Nat.le_refl _,zg⟩
theorem bB.trans{M:Nat->Obj->Prop}{a b c:Z}(h:bB M a b)(k:bB M b c):bB M a c:=
 ⟨k.os.trans h.os,k.tape.trans h.tape,k.output.trans h.output,Nat.le_trans h.size k.size,(by grind [block])⟩
theorem bB.mono{M c:Nat->Obj->Prop}{a b:Z}(h:bB M a b)(hm:∀ i o,a.heap[i]?=O o->M i o->c i o):bB c a b:=
 ⟨h.os,h.tape,h.output,h.size,(by grind [block])⟩
theorem bB.alloc{M:Nat->Obj->Prop}{a b:Z}(h:bB M a b)(o:Obj):bB M a (b.alloc o):=
 ⟨h.os,h.tape,h.output,by rw[size_alloc];have:=h.size;omega,(by grind [dQ,block])⟩
theorem bB.drew{M:Nat->Obj->Prop}{a b:Z}(h:bB M a b):bB M a b.drew:=⟨h.os,h.tape,h.output,h.size,h.block⟩
theorem bB.drewN{M:Nat->Obj->Prop}{a b:Z}(h:bB M a b)(n:Nat):bB M a (b.drewN n):=⟨h.os,h.tape,h.output,h.size,h.block⟩
theorem bB.LF{M:Nat->Obj->Prop}{a b:Z}(h:bB M a b){p:Addr}(c:a.heap.size<=p.block)(v:Y):bB M a (b.setCell p v):=
 ⟨h.os,h.tape,h.output,by rw[size_setCell];exact h.size,(by grind [blk_setCell_other,bg,block])⟩
def bB.asK{M:Nat->Obj->Prop}{a b:Z}(h:bB M a b){p:Addr}(c:∀ o,M p.block o)(v:Y):bB M a (b.setCell p v):=
 ⟨h.os,h.tape,h.output,by rw[size_setCell];exact h.size,(by grind [blk_setCell_other,block])⟩
def bB.grownBy{a b:Z}{r:Option Nat}(h:a.grownBy b r):bB (fun i _=>O i=r) a b:=
 ⟨h.os,h.tape,h.output,h.size,(by grind [bg,World.grownBy.block])⟩
theorem Oj{x:Y}{t:TypeId}(c:b=w.heap.size):∀ (j:Nat) (u:Y),[x][j]?=O u->(w.alloc (ae #[x] t)).cell? ((⟨b,0,V⟩:Addr).add j)=O u:=by
 subst c;intro j u a;cases j with
 | zero=>
  simp at a;subst a;exact cellOf (o:=0) (blk_alloc_new w _) J
 | succ j=>grind
def ahP{x:Y}{t:TypeId}(a:b=w.heap.size):∀ (j:Nat) (u:Y),[x][j]?=O u->(w.alloc (ae #[x] t)).drew.cell? ((⟨b,0,V⟩:Addr).add j)=O u:=Oj a
def Ol{e:TypeId}{size:Nat}(h:w.ownsRow base e size v n xs)(o:Obj):(w.alloc o).drew.ownsRow base e size v n xs:=h.alloc o
abbrev Ext(w w':Z):Prop:=bB (fun _ _=>False) w w'
theorem bB.ext(h:Ext w w')(b:Nat)(o:Obj)(a:w.heap[b]?=O o):w'.heap[b]?=O o:=h.block b o a id
theorem bB.toM{M:Nat->Obj->Prop}(h:Ext w w'):bB M w w':=(by grind [mono])
def LG{e:TypeId}{size:Nat}(h:W.ownsRow base e size v (k+1) xs):∃ g cap,v = .slice (O ⟨g,0,V⟩) (k+1) cap:=by
 rcases h.2 with⟨_,a⟩| ⟨g,cap,_,rfl,_⟩<;>grind
theorem Zu{e:TypeId}{size:Nat}(h:w.ownsRow base e size v n xs)(d:pb<=base):w.ownsRow pb e size v n xs:=by
 obtain⟨a,b | ⟨g,cap,cur,c,f,r⟩⟩:=h
 .exact⟨a,.inl b⟩
 .exact⟨a,.inr ⟨g,cap,cur,c,zo,r⟩⟩
def Vk{P:Program}(w:Z)(base:Nat)(t ty e:TypeId)(i:TypeInfo)(z:Y)(size bytes:Nat)(ht:P.underlying t=O (.slice e))(l:P.info? e=O i)(r:i.zero=O z)
  (o:i.size=size) (s:i.bytes=bytes) (x:z.cells.size=size) (y:0<size)
  (v:Y) (n:Nat) (xs:List Y) (h:w.ownsRow base e size v n xs)
  (a:Addr) (m c:Nat) (news:List Y) (p:news.length=m*size) (q:∀ j u,news[j]?=O u->w.cell? (a.add j)=O u) (B:∀ u∈news,u.oneCell'=A)
  (C:n+m<=maxLen) (D:(n+m)*bytes<=140737488355328) (E:base<=w.heap.size) :
  ∃ v' w',(Builtin.append_ #[t,t] ty #[v,.slice (O a) m c]).run P w = .ok v' w'/\w'.ownsRow base e size v' (n+m) (xs++news)/\w.grownBy w' v.ownBlock /\
   (v'.ownBlock=v.ownBlock\/∀ k,v'.ownBlock=O k->w.heap.size<=k):=by
 have F:=h;rcases h.2 with⟨rfl,rfl⟩| ⟨g,cap,cur,rfl,I,K,L,M,N,Q⟩
 .have hx:xs=[]:=List.eq_nil_of_length_eq_zero (by simpa using h.1);subst hx;obtain⟨v',w',f,d,b,_⟩:=run_append_own (P:=P) w w.heap.size t ty e i z size bytes ht l r o s x y _ 0 [] (World.ownsRow_nil _ _ _ _) a m c news p q B C D zo;exact⟨v',w',f,Zu d E,b,.inr fun k hk=>(d.lt k hk).1⟩
 .by_cases H:n+m<=cap
  .obtain⟨w',f,d,b⟩:=run_append_fits (P:=P) w base t ty e i size ht l o g n cap xs F a m c news p q B H;exact⟨_,w',f,d,b,.inl J⟩
  .obtain⟨v',w',f,d,b⟩:=run_append_arg_grows (P:=P) w t ty e i z size bytes ht l r o s x y ⟨g,0,V⟩ n cap xs h.1 (F.cells J) a m c news p q zo C D;exact⟨v',w',f,Zu d E,⟨b.os,b.tape,b.output,b.size,(by grind [World.grownBy.block])⟩,.inr fun k hk=>(d.lt k hk).1⟩
def ahQ{P:Program}{ops:Array Oper}{o:Oper}{K:Act->Z->Prop}{Q:Exit->Act->Z->Prop}{E:Prop}
  (S:o.guard=V) (s x:Operand) (t:TypeId)
  (d:o.op = .call { callee:=.builtin .append,args:=#[s,x],argTypes:=#[t,t] })
  (base:Nat) (e:TypeId) (i:TypeInfo) (z:Y) (size bytes:Nat) (ht:P.underlying t=O (.slice e)) (f:P.info? e=O i) (g:i.zero=O z)
  (l:i.size=size) (p:i.bytes=bytes) (q:z.cells.size=size) (r:0<size)
  (v:Y) (n:Nat) (xs:List Y) (y:a.eval s=v) (B:w.ownsRow base e size v n xs)
  (b:Addr) (m c:Nat) (news:List Y) (hx:a.eval x = .slice (O b) m c) (C:news.length=m*size) (D:∀ j u,news[j]?=O u->w.cell? (b.add j)=O u) (F:∀ u∈news,u.oneCell'=A)
  (H:n+m<=maxLen) (I:(n+m)*bytes<=140737488355328) (L:base<=w.heap.size)
  (h:∀ v' w',w'.ownsRow base e size v' (n+m) (xs++news)->w.grownBy w' v.ownBlock->(v'.ownBlock=v.ownBlock\/∀ k,v'.ownBlock=O k->w.heap.size<=k)->K (a.put o.dst v') w') :
  if a0E o (yielded ops a.tmps)=A then Oper.wp P o a w K Q else E:=by
 rw[zip (by grind [a0E])];obtain⟨v',w',hr,M,N,R⟩:=Vk (P:=P) w base t o.type e i z size bytes ht f g l p q r v n xs B b m c news C D F H I L;unfold Oper.wp execOp;simp only[d,resolve,invoke,builtin,aZS,a0u,aZR,List.map_toArray,a0V,List.map_nil,y,hx,hr];exact h v' w' M N R
def Rc{P:Program}{ops:Array Oper}{rest:List Oper}{o:Oper}{Q:Exit->Act->Z->Prop}(d:o.guard=V)(s x:Operand)(t:TypeId)
  (f:o.op = .call { callee:=.builtin .append,args:=#[s,x],argTypes:=#[t,t] })
  (base:Nat) (e:TypeId) (i:TypeInfo) (z:Y) (size bytes:Nat) (ht:P.underlying t=O (.slice e)) (g:P.info? e=O i) (l:i.zero=O z)
  (p:i.size=size) (q:i.bytes=bytes) (r:z.cells.size=size) (y:0<size)
  (v:Y) (n:Nat) (xs:List Y) (B:a.eval s=v) (C:w.ownsRow base e size v n xs)
  (b:Addr) (m c:Nat) (news:List Y) (hx:a.eval x = .slice (O b) m c) (D:news.length=m*size) (E:∀ j u,news[j]?=O u->w.cell? (b.add j)=O u) (F:∀ u∈news,u.oneCell'=A)
  (H:n+m<=maxLen) (I:(n+m)*bytes<=140737488355328) (L:base<=w.heap.size)
  (h:∀ v' w',w'.ownsRow base e size v' (n+m) (xs++news)->w.grownBy w' v.ownBlock->(v'.ownBlock=v.ownBlock\/∀ k,v'.ownBlock=O k->w.heap.size<=k)->wpList P ops Q rest (a.put o.dst v') w'):wpList P ops Q (o::rest) a w:=
 wpList_plain d fun K M=>by
  obtain⟨v',w',hr,N,R,S⟩:=Vk (P:=P) w base t o.type e i z size bytes ht g l p q r y v n xs C b m c news D E F H I L;unfold Oper.wp execOp;simp only[f,resolve,invoke,builtin,aZS,a0u,aZR,List.map_toArray,a0V,List.map_nil,B,hx,hr];exact M _ _ zg
def exists_least{p:Nat->Prop}:∀ n,p n->∃ m,p m/\∀ k,p k->m<=k:=by
 intro n;induction n using Nat.strongRecOn with
 | _ n ih=>
  grind
open Classical in
noncomputable def least (I:Nat->Act->Z->Prop) (a:Act) (w:Z):Nat:=
 if h:∃ n,I n a w then Classical.choose (exists_least (p:=fun n=>I n a w) _ (Classical.choose_spec h)) else 0
def ahR{I:Nat->Act->Z->Prop}(h:∃ n,I n a w):I (least I a w) a w:=by
 unfold least;grind
def least_le{I:Nat->Act->Z->Prop}(h:I n a w):least I a w<=n:=by
 unfold least;rw[dif_pos ⟨n,h⟩];grind
def wp_loop_ghost{P:Program}{Q:Exit->Act->Z->Prop}{c:Code}(I:Nat->Act->Z->Prop)(b:∃ n,I n a w)
  (round:∀ n a w,I n a w->c.wp P (Exit.then (fun a' w'=>∃ m,m<n/\I m a' w') Q) a w):(Code.loop c).wp P Q a w:=
 wp_loop (fun a w=>∃ n,I n a w) (least I) b fun a w h=>
  wp_mono (round _ a w (ahR h)) fun e a' w' d=>by
   cases e with
   | normal=>obtain⟨m,hm,f⟩:=d;exact⟨⟨m,f⟩,Nat.lt_of_le_of_lt (least_le f) hm⟩
   | _=>exact d
def asM{P:Program}{Q:Exit->Act->Z->Prop}{c rest:Code}(l:Nat)(b:Nat->Act->Z->Prop)(g:findLabel c l=O rest)
  (first:c.wp P (a3l l (fun a w=>∃ n,b n a w) Q) a w)
  (pass:∀ n a w,b n a w->rest.wp P (a3l l (fun a' w'=>∃ m,m<n/\b m a' w') Q) a w):(Code.scope c).wp P Q a w:=
 wp_scope_jumps l (fun a w=>∃ n,b n a w) (least b) g first fun a w h=>
  wp_mono (pass _ a w (ahR h)) fun e a' w' d=>by
   cases e with
   | goto l'=>obtain⟨e,m,hm,f⟩:=d;exact⟨e,⟨m,f⟩,Nat.lt_of_le_of_lt (least_le f) hm⟩
   | _=>exact d
def asN{P:Program}{Q:Exit->Act->Z->Prop}{c rest:Code}(l:Nat)(b:Nat->Act->Z->Prop)(f:findLabel c l=O rest)
  (first:(∀ n a w,b n a w->rest.wp P (a3l l (fun a w=>∃ n,b n a w) Q) a w)->c.wp P (a3l l (fun a w=>∃ n,b n a w) Q) a w)
  (pass:∀ n a w,b n a w->rest.wp P (a3l l (fun a' w'=>∃ m,m<n/\b m a' w') Q) a w):(Code.scope c).wp P Q a w:=
 asM l b f (first fun n a w h=>wp_mono (pass n a w h) fun e a' w' d=>by
  cases e with
  | goto l'=>obtain⟨e,m,_,g⟩:=d;exact⟨e,m,g⟩
  | _=>exact d) pass
def asO{l:Nat}{b:Act->Z->Prop}{Q:Exit->Act->Z->Prop}:a3l l b Q .ret a w=Q .ret a w:=rfl
abbrev bs(l:P.Bs):ByteArray:=⟨l.toArray⟩
namespace Sx
open Go
def asP{C:lZ}{o:Oper}{e:Env}{s:Sem Y}{next:Env->Prop}{next':Act->Prop}
  (b:execOp a.eval o=(do pure (.value (<- s)))) (c:∀ v,next (e.put o.dst v)->next' (a.put o.dst v))
  (h:RD C.P s w (oV C o fun v=>next (e.put o.dst v)) (fun _ _=>False)):o.still C.P a w next':=by
 unfold Oper.still;rw[b,Q3];unfold RD at h;cases hr:s.run C.P w with
 | ok v w'=>
  rw[hr] at h;obtain⟨rfl,h⟩:=h;exact⟨J,Q4 (K:=fun v=>next (e.put o.dst v)) (K':=fun v=>next' (a.put o.dst v)) zg h⟩
 | halt x w'=>
  grind
theorem Rd{P:Program}{o:Oper}{next':Act->Prop}
  (b:execOp a.eval o=pure (.value v)) (h:next' (a.put o.dst v)):o.still P a w next':=by
 unfold Oper.still;rw[b];exact⟨J,h⟩
def ahS{C:lZ}(b:Good C){vs:List Nat}{o:Oper}{e:Env}{next:Env->Prop}{next':Act->Prop}
  (hr:Rel vs a e) (f:∀ v,next (e.put o.dst v)->next' (a.put o.dst v)) (h:rH C o e w next):o.still C.P a w next':=by
 have he:=hr.eval;unfold rH at h;split at h
 .rename_i x d;exact Rd (by rw[he];grind [execOp]) (f _ h)
 .rename_i x d;exact Rd (by rw[he];grind [execOp]) (f _ h)
 .rename_i c x y d;split at h
  .rename_i g;exact Rd (v:=e.eval x) (by rw[he];unfold execOp;rw[d];simp only[g];rfl) (f _ h)
  .rename_i g;exact Rd (v:=e.eval y) (by rw[he];unfold execOp;rw[d];simp only[g];rfl) (f _ h)
  grind
 .rename_i x d;obtain⟨i,j⟩:=Zl d h;grind [Rd]
 .rename_i k args CS d;split at h
  .rename_i hk;unfold Oper.still;have:(execOp a.eval o).run C.P w = .ok (.enter k (jM e args)) w:=by
    rw[he];unfold execOp;rw[d];simp only[resolve,Jl,Env.eval,Deferred.ofValue,Array.empty_append];show(callFunc k (jM e args++#[])).run C.P w=_;rw[Array.append_empty];exact Q5 (b.calls k hk) _ _
   rw[this];obtain⟨v,i,j⟩:=h;exact⟨J,v,i,Q4 (K:=fun v=>next (e.put o.dst v)) (K':=fun v=>next' (a.put o.dst v)) zg j⟩
  grind
 .split at h
  .rename_i s l;exact asP (by grind [Zj]) f h
  grind
structure kC(us:List Nat)(n:Bool)(e e':Env):Prop where
 get:∀ i,i ∉ us->e'.f i=e.f i
 defs:n=A->e'.defers=e.defers
theorem kC.refl(vs:List Nat)(n:Bool)(a:Env):kC vs n a a:=⟨zg,zg⟩
theorem kC.trans{vs:List Nat}{n m:Bool}{a b c:Env}(h:kC vs n a b)(k:kC us m b c):kC (vs++us) (n && m) a c:=
 ⟨fun i d=>by simp only[aZW,not_or] at d;rw[k.get i d.2,h.get i d.1],fun e=>by
  simp only[aZ3] at e;rw[k.defs e.2,h.defs e.1]⟩
theorem kC.mono{vs:List Nat}{n m:Bool}{a b:Env}(h:kC vs n a b)(hv:∀ i∈vs,i∈us)(c:m=A->n=A):kC us m a b:=
 ⟨(by grind [get]),(by grind [defs])⟩
theorem ahT(f:Nat->Y)(h:i≠d)(v:Y):Jk f d v i=f i:=by
 grind [Jk,Nat.beq,absurd,a17]
theorem kC.put{vs:List Nat}{n:Bool}{a b:Env}(h:kC vs n a b){d:Option Nat}(c:∀ t,d=O t->t∈vs)(v:Y):kC vs n a (b.put d v):=by
 cases d with
 | none=>exact h
 | some t=>
  refine⟨fun i e=>?_,h.defs⟩;have:i≠t:=zg;show Jk b.f t v i=_;grind [ahT,get]
def kC.next{n:Bool}{a b c:Env}{o:Oper}(h:kC us n a b)(f:∀ t,o.dst=O t->t∈us)(g:n=A->wS o=G)
  (e:∃ v,c=b.put o.dst v\/∃ d,wS o=A/\c=({ b with defers:=d::b.defers }:Env).put o.dst v):kC us n a c:=by
 obtain⟨v,rfl | ⟨d,hid,rfl⟩⟩:=e
 .grind [put]
 .have i:kC us n a { b with defers:=d::b.defers }:=⟨h.get,zg⟩;grind [put]
def Jo(x:Exit)(vs:List Nat)(a:Act)(e:Env):Prop:=
 match x with
 | .panic _=>Rel [] a e
 | _=>Rel vs a e
def vA(x:Exit)(us:List Nat)(n:Bool)(e0 e:Env):Prop:=
 match x with
 | .panic _=>n=A->e.defers=e0.defers
 | _=>kC us n e0 e
def Rel.asQ{vs:List Nat}{e:Env}(h:Rel vs a e):Rel [] a e:=⟨h.get,h.defs,zg⟩
theorem Jo.of{x:Exit}{vs:List Nat}{e:Env}(h:Rel vs a e):Jo x vs a e:=by cases x<;>first | exact h | exact h.asQ
theorem Jo.get{x:Exit}{vs:List Nat}{a:Act}{e:Env}(h:Jo x vs a e):∀ i,a.tmps.getD i undef=e.f i:=by cases x<;>exact Rel.get h
theorem Jo.defs{x:Exit}{vs:List Nat}{a:Act}{e:Env}(h:Jo x vs a e):a.defers=e.defers:=by cases x<;>exact Rel.defs h
theorem vA.of{x:Exit}{n:Bool}{e0 e:Env}(h:kC us n e0 e):vA x us n e0 e:=by cases x<;>first | exact h | exact h.defs
theorem vA.defs{x:Exit}{us:List Nat}{n:Bool}{e0 e:Env}(h:vA x us n e0 e)(a:n=A):e.defers=e0.defers:=by
 cases x with
 | panic b=>exact h a
 | _=>exact kC.defs h a
theorem vA.trans{x:Exit}{vs us:List Nat}{n m:Bool}{a b c:Env}(h:kC vs n a b)(k:vA x us m b c):vA x (vs++us) (n && m) a c:=by
 cases x with
 | panic d=>exact fun e=>by simp only[aZ3] at e;exact(k e.2).trans (h.defs e.1)
 | _=>exact kC.trans h k
theorem vA.mono{x:Exit}{vs us:List Nat}{n m:Bool}{a b:Env}(h:vA x vs n a b)(hv:∀ i∈vs,i∈us)(c:m=A->n=A):vA x us m a b:=by
 cases x with
 | panic d=>exact fun e=>h (c e)
 | _=>exact kC.mono h hv c
abbrev Po(vs us:List Nat)(n:Bool)(e0:Env)(Q:Exit->Env->Z->Prop):Exit->Act->Z->Prop:=fun x a' w'=>∃ e',Jo x vs a' e'/\vA x us n e0 e'/\Q x e' w'
def Zx{C:lZ}(b:Good C){ops:Array Oper}{Q:Exit->Env->Z->Prop}{vs us:List Nat}{n:Bool}{e0:Env}(hv:∀ i∈us,i∈vs):∀ (l:List Oper) (a:Act) (e:Env) (w:Z),
  (∀ o∈l,∀ t,o.dst=O t->t∈us)->(n=A->∀ o∈l,wS o=G)->Rel vs a e->kC us n e0 e->wQ C ops Q l e w ->
  wpList C.P ops (Po vs us n e0 Q) l a w
 | [],a,e,w,_,_,hr,c,h=>⟨e,hr,c,h⟩
 | o::l,a,e,w,f,k,hr,c,h=>by
  have ih:=fun a e w=>Zx b (ops:=ops) (Q:=Q) (vs:=vs) (us:=us) (n:=n) (e0:=e0) hv l a e w zg zg;have d:=f o (aZV ..);unfold wQ at h;unfold wpList;rw[hr.yield];split at h
  .rename_i hw;rw[zip hw];exact .inl (Zm b hr zg (fun e' a' w' g _ j hx=>ih a' e' w' g (c.next d zg j) hx) (by grind [Jo.of,vA.of,panic]) h)
  .rename_i hw;rw[bZ (by simp [hw])];exact ih _ _ _ (hr.put (fun t ht=>hv t (d t ht)) _) (c.put d _) h
def ahU{C:lZ}(b:Good C){ops:Array Oper}{w:Z}{Q:Env->Prop}{vs us:List Nat}{n:Bool}{e0:Env}(hv:∀ i∈us,i∈vs):∀ (l:List Oper) (a:Act) (e:Env),
  (∀ o∈l,∀ t,o.dst=O t->t∈us)->Rel vs a e->kC us n e0 e->Ax C ops w Q l e ->
  wpStill C.P ops w (fun a'=>∃ e',Rel vs a' e'/\kC us n e0 e'/\Q e') l a
 | [],a,e,_,hr,c,h=>⟨e,hr,c,h⟩
 | o::l,a,e,f,hr,c,h=>by
  have ih:=fun a e=>ahU b (ops:=ops) (w:=w) (Q:=Q) (vs:=vs) (us:=us) (n:=n) (e0:=e0) hv l a e zg;have d:=f o (aZV ..);unfold Ax at h;unfold wpStill;rw[hr.yield];split at h
  .rename_i hw;rw[zip hw];exact ahS b hr (fun v hx=>ih _ _ (hr.put (fun t ht=>hv t (d t ht)) v) (c.put d v) hx) h
  .rename_i hw;rw[bZ (by simp [hw])];exact ih _ _ (hr.put (fun t ht=>hv t (d t ht)) _) (c.put d _) h
theorem Re(l:List Oper)(o:Oper)(a:o∈l)(t:Nat)(ht:o.dst=O t):t∈qu l:=by
 induction l with
 | nil=>grind
 | cons x l ih=>
  grind [qu,aZV,List.mem_cons_of_mem]
def asR{l:List Oper}{n:Bool}(h:n=(l.all fun o=>!wS o)):n=A->∀ o∈l,wS o=false:=by
 grind
def asS{C:lZ}(b:Good C){id:Nat}{ops:Array Oper}{Q:Exit->Env->Z->Prop}{vs:List Nat}{e:Env}(hv:∀ i∈qu ops.toList,i∈vs)(hr:Rel vs a e)(h:wQ C ops Q ops.toList e w) :
  (Code.region id ops G).wp C.P (Po vs (qu ops.toList) (ops.toList.all fun o=>!wS o) e Q) a w:=
 wp_region_list (Zx b hv ops.toList a e w (Re _) (asR J) hr (kC.refl _ _ _) h)
def asT{C:lZ}(b:Good C){id:Nat}{ops:Array Oper}{Q:Exit->Env->Z->Prop}{vs:List Nat}{e:Env}(hv:∀ i∈qu ops.toList,i∈vs)(hr:Rel vs a e)(hd:Vf ops n=A)
  (h:Ax C ops w.drew (fun a'=>wQ C ops Q (ops.toList.drop n) a' w.drew) (ops.toList.take n) e) :
  (Code.region id ops A).wp C.P (Po vs (qu ops.toList) (ops.toList.all fun o=>!wS o) e Q) a w:=by
 have h1:=ahU b (us:=qu ops.toList) (n:=ops.toList.all fun o=>!wS o) (e0:=e) hv (ops.toList.take n) a e (by grind [Re,List.mem_of_mem_take]) hr (kC.refl _ _ _) h;unfold Vf at hd;have e:ops=ops.toList.toArray:=zs;split at hd
 .rename_i hn;refine wp_region_still b.mixed hd ?_;have ht:ops.toList.take n=ops.toList:=(by grind [List.take_of_length_le]);have hdp:ops.toList.drop n=[]:=zg;rw[ht,hdp] at h1;exact h1
 .rw[e] at hd ⊢;refine wp_region_still_tail n b.mixed hd ?_;refine Zy (fun a' hx=>?_) _ _ h1;obtain⟨e',lL,pQ,hx⟩:=hx;exact Zx b hv (ops.toList.drop n) a' e' _ (by grind [Re,List.mem_of_mem_drop]) zg lL pQ hx
where
 Zy {P:Program} {ops:Array Oper} {w:Z} {Q Q':Act->Prop} (hq:∀ a,Q a->Q' a):∀ (l:List Oper) (a:Act),wpStill P ops w Q l a->wpStill P ops w Q' l a
  | [],a,h=>hq a h
  | o::l,a,h=>by
   unfold wpStill at h ⊢;split
   .rename_i hw;rw[zip hw] at h;exact Oper.still_mono (fun a hx=>Zy hq l a hx) h
   .rename_i hw;rw[bZ hw] at h;exact Zy hq l _ h
def ahV{C:lZ}{vs:List Nat}{o:Oper}{e:Env}{S:Z->Prop}{next:Env->Prop}{ops:Array Oper}(hr:Rel vs a e)(hw:a0E o (yielded ops a.tmps)=A)(h:rI C o e S next) :
  ∃ v,YieldsIf C.P ops S o v a/\next (e.put o.dst v):=by
 have he:=hr.eval;unfold rI at h;split at h
 .rename_i x b;exact⟨_,.inl ⟨hw,fun w _=>by rw[he];unfold execOp;rw[b];rfl⟩,h⟩
 .rename_i x b;exact⟨_,.inl ⟨hw,fun w _=>by rw[he];unfold execOp;rw[b];rfl⟩,h⟩
 .rename_i c x y b;split at h
  .rename_i g;exact⟨e.eval x,.inl ⟨hw,fun w _=>by rw[he];unfold execOp;rw[b];simp only[g];rfl⟩,h⟩
  .rename_i g;exact⟨e.eval y,.inl ⟨hw,fun w _=>by rw[he];unfold execOp;rw[b];simp only[g];rfl⟩,h⟩
  grind
 .rename_i x b;obtain⟨d,f⟩:=Zl b h;exact⟨_,.inl ⟨hw,fun w _=>by rw[he,d];rfl⟩,f⟩
 .split at h
  .rename_i s i;obtain⟨v,d,f⟩:=h;exact⟨v,.inl ⟨hw,fun w j=>by rw[he,Zj i,Q3,d w j]⟩,Q4 (K:=fun v=>next (e.put o.dst v)) (fun _ h=>h) f⟩
  .split at h
   .rename_i s i;obtain⟨v,d,f⟩:=h;exact⟨v,.inl ⟨hw,fun w j=>by rw[he,ahH (asz i),Q3,d w j]⟩,f⟩
   grind
theorem Rf:∀ {l:List Nat} {t:Nat},t∈l->qU t l=A
 | j::r,t,h=>by
  unfold qU;cases a:Nat.beq t j
  .rw[cond_false];rcases aZU.1 h with h | h
   .subst h;simp at a
   .exact Rf h
  .rfl
abbrev Vl(dl vs us:List Nat)(n:Bool)(e0:Env)(Q:Exit->Env->Z->Prop)(x:Exit)(a:Act)(w:Z):Prop:=
 match x with
 | .panic b=>(n=A->a.defers=e0.defers)/\∀ f,(∀ t,qU t dl=G->f t=a.tmps.getD t undef)->Q (.panic b) ⟨f,a.defers⟩ w
 | x=>Po vs us n e0 Q x a w
def Vn{vs:List Nat}{n:Bool}{e0:Env}{Q:Exit->Env->Z->Prop}{c:List PanicEntry}{d:Option Nat}(e:∀ t,d=O t->qU t fx=A)(h:Vl fx vs us n e0 Q (.panic c) (a.put d v) w):Vl fx vs us n e0 Q (.panic c) a w:=by
 cases d with
 | none=>exact h
 | some t0=>
  refine⟨h.1,fun f b=>h.2 f fun t ht=>?_⟩;have g:t≠t0:=zg;rw[b t ht];simp only[Act.put,a03];grind
def ahW{C:lZ}(b:Good C){ops:Array Oper}{Q:Exit->Env->Z->Prop}{S:Z->Prop}{m:Option Nat}{vs us:List Nat}{n:Bool}{e0:Env}(hv:∀ i∈us,i∈vs)(k:Region.noSelect ops=A)
  (H:∀ (i:Nat) (o:Oper),ops[i]?=O o->∀ t,o.dst=O t->t∈us) (N:∀ (i:Nat) (o:Oper),ops[i]?=O o->∀ t,o.dst=O t->t∈qu ops.toList) (R:n=A->∀ (i:Nat) (o:Oper),ops[i]?=O o->wS o=G) :
  ∀ (l:List Nat) (listed:Array Bool) (a:Act) (e:Env) (w:Z),Rel vs a e->kC us n e0 e->(tH m listed=A->S w)->mj C ops Q S m l listed e w ->
   Jm C.P .any ops (Vl (qu ops.toList) vs us n e0 Q) S m l.length listed a w
 | [],listed,a,e,w,hr,q,p,h=>by
  unfold mj at h;split at h
  .rename_i r;exact⟨r,e,hr,q,h⟩
  grind
 | i::l,listed,a,e,w,hr,q,p,h=>by
  have ih:=ahW b (Q:=Q) (S:=S) (m:=m) (vs:=vs) (us:=us) (n:=n) (e0:=e0) hv k H N R l;unfold mj at h;split at h
  .grind
  .rename_i o d;have I:=H i o d;have T:∀ v,Rel vs (a.put o.dst v) (e.put o.dst v):=(by grind [Rel.put]);have lC:∀ v,kC us n e0 (e.put o.dst v):=(by grind [kC.put]);rw[<- hr.yield] at h;split at h
   .rename_i r;have r:Region.ready .any ops listed=[i]:=zg;refine⟨zg,fun j L=>?_⟩;have Vh:=(mem_ready.1 L).1;rw[r] at L;have:j=i:=zg;subst this;have U:tH m (listed.setIfInBounds j A)=A->tH m listed=true:=fun M=>by
     cases m with
     | none=>rfl
     | some m=>
      simp only[tH,Bool.not_eq_true'] at M ⊢;by_cases W:j=m
      .grind
      .rw[getD_set_ne A W] at M;omega
    unfold wpOp;rw[d];dsimp only;split at h
    .grind
    .rename_i hw;rw[zip hw];refine .inl ?_;split at h
     .refine Oper.wp_of_still (K:=fun a'=>(tH m (listed.setIfInBounds j A)=A->S w)/\Jm C.P .any ops (Vl (qu ops.toList) vs us n e0 Q) S m l.length (listed.setIfInBounds j A) a' w) zg (ahS b hr (fun v hx=>?_) h);grind
     .split at h
      .exact Zm b hr zg (fun e' a' w' y _ z hx=>⟨zg,ih _ _ _ _ y (q.next I zg z) zg hx.2⟩) (fun X w' hx=>⟨fun B=>by rw[hr.defs];grind [kC.defs],fun f D=>by
        rw[hr.defs];have hx:=hx f;have B:(fun t=>cond (qU t (qu ops.toList)) (f t) (e.f t))=f:=funext fun t=>by
         cases hm:qU t (qu ops.toList)
         .rw[cond_false,D t hm,hr.get]
         .rfl
        grind⟩) h
      .rename_i qz;exact Zm b hr zg (fun e' a' w' y _ z hx=>⟨zg,ih _ _ _ _ y (q.next I zg z) zg hx⟩) (fun X w' hx=>⟨fun B=>by rw[hr.defs];grind [kC.defs],fun f D=>by
        rw[hr.defs];have hx:=hx f;have B:(fun t=>cond (qU t (qu ops.toList)) (f t) (e.f t))=f:=funext fun t=>by
         cases hm:qU t (qu ops.toList)
         .rw[cond_false,D t hm,hr.get]
         .rfl
        grind⟩) h
   .split at h
    .grind
    .rename_i E;simp only[aZ3] at E;have s:i∈Region.ready .any ops listed:=zg;have u:=Region.free_spec d E.1.2;rcases asJ E.2 with⟨g,c2,c3⟩| ⟨g,c2⟩
     .split at h
      .rename_i hw;exact ahJ d (a2c k) (fun c a w h=>Vn (by grind [Rf]) h) g l.length listed a w u c2 s (.inr ⟨hw,J⟩) (p c3) zg
      .rename_i hw;obtain⟨v,F,hx⟩:=ahV (ops:=ops) hr hw h;exact ahJ d (a2c k) (fun c a w h=>Vn (by grind [Rf]) h) g l.length listed a w u c2 s F (p c3) zg
     .have U:tH m (listed.setIfInBounds i A)=tH m listed:=by
       cases m with
       | none=>rfl
       | some m'=>simp only[tH];rw[getD_set_ne A (g m' J)]
      split at h
      .rename_i hw;exact ahL d (a2c k) (fun c a w h=>Vn (by grind [Rf]) h) g l.length listed a w u s (.inr ⟨hw,J⟩) p zg
      .rename_i hw;obtain⟨x,hox⟩:∃ x,o.op = .move x:=by
        grind [Zh]
       have h':rI C o e (fun _=>True) (fun a'=>mj C ops Q S m l (listed.setIfInBounds i A) a' w):=by
        grind [rI]
       obtain⟨v,F,hx⟩:=ahV (ops:=ops) hr hw h';exact ahL d (a2c k) (fun c a w h=>Vn (by grind [Rf]) h) g l.length listed a w u s F p zg
def asV{C:lZ}(b:Good C){id:Nat}{ops:Array Oper}{Q:Exit->Env->Z->Prop}{vs:List Nat}{e:Env}(hv:∀ i∈qu ops.toList,i∈vs)(hr:Rel vs a e)(c:(fx.length == ops.size && Region.noSelect ops)=A)
  (h:HD fun S=>S w.drew/\mj C ops Q S (Zi m) fx (Array.replicate ops.size G) e w.drew) :
  (Code.region id ops A).wp C.P (Po vs (qu ops.toList) (ops.toList.all fun o=>!wS o) e Q) a w:=by
 simp only[aZ3,beq_iff_eq] at c;obtain⟨S,g,h⟩:=h;have hm:∀ (i:Nat) (o:Oper),ops[i]?=O o->o∈ops.toList:=zg;have d:=ahW b (us:=qu ops.toList) (n:=ops.toList.all fun o=>!wS o) (e0:=e) hv c.2 (by grind [Re]) (by grind [Re]) zg fx _ a e _ hr (kC.refl _ _ _) zg h;rw[c.1] at d;refine wp_mono (wp_region_any b.mixed (ahI _ _ _ _ d)) fun x a' w' f=>?_;cases x with
 | panic j=>exact⟨⟨fun i=>a'.tmps.getD i undef,a'.defers⟩,⟨zg,J,zg⟩,f.1,zg⟩
 | _=>exact f
theorem ZA(i:Nat):∀ l:List Nat,qU i l=A↔i∈l
 | []=>by simp [qU]
 | j::r=>by
  unfold qU;cases a:Nat.beq i j
  .rw[cond_false,ZA i r,aZU];have:i≠j:=fun e=>by subst e;simp at a
   grind
  .rw[cond_true];grind [a17]
def ZB{a a':Env}{vs:List Nat}(h:kC vs A a a')(live:List Nat) :
  fr a vs live (jd (ze a' live)) a'.f=a':=by
 have c:∀ (l:List Nat) (i:Nat),i∈l->jd (ze a' l) i=a'.f i:=by
  intro l i;induction l with
  | nil=>grind
  | cons j r ih=>
   intro hx;simp only[ze,a0V,jd];by_cases e:j=i
   .grind
   .rw[bZ e];rcases aZU.1 hx with hx | hx
    .omega
    .exact ih hx
 have b:=h.defs J;cases a' with
 | mk f' df=>
 cases a with
 | mk f0 d=>
 simp only at b c;subst b;simp only[fr]
 congr 1
 funext i
 unfold Q2;cases g:qU i live
 .rw[cond_false];cases k:qU i vs
  .rw[cond_false];exact(h.get i (by grind [ZA])).symm
  grind
 .rw[cond_true];grind [ZA]
def Jp{K:Env->Prop}:∀ (l:List Nat) (a:Env),pM l a K->K a
 | [],_,h=>h
 | i::r,a,h=>by
  have key:∀ c:Bool,a.f i = .bool c->a.put (O i) (.bool c)=a:=by
   intro c b;cases a with
   | mk f df=>
   simp only at b;simp only[Env.put]
   congr 1
   grind [Jk,Nat.beq,ahT]
  unfold pM BS at h;split at h
  .rename_i c b;cases c
   .have:=Jp r _ (h.2 J);grind
   .have:=Jp r _ (h.1 J);grind
  grind
def ahX{vs:List Nat}{n:Bool}{e0:Env}{Q:Exit->Env->Z->Prop}{x:Exit}(h:Po vs us n e0 Q x a w)(hv:∀ i∈us,i∈fx)(b:FG=A->n=A):Po vs fx FG e0 Q x a w:=by
 grind [vA.mono]
def AB{C:lZ}(g:Good C){vs:List Nat}:∀ (c:Code) (Q:Exit->Env->Z->Prop) (a:Act) (e:Env) (w:Z),(∀ i∈wr c,i∈vs)->Rel vs a e->gm C c Q e w ->
  c.wp C.P (Po vs (wr c) (nd c) e Q) a w
 | .skip,Q,a,e,w,hv,hr,h=>wp_skip ⟨e,hr,kC.refl _ _ _,h⟩
 | .region id ops draw,Q,a,e,w,hv,hr,h=>by
  unfold gm at h;cases draw with
  | false=>exact asS g hv hr h
  | true=>
   dsimp only at h;split at h
   .grind
   .split at h
    .rename_i W;exact asV g hv hr W h
    grind
   .split at h
    .rename_i X;exact asT g hv hr X h
    grind
 | .seq x y,Q,a,e,w,hv,hr,h=>by
  have K:∀ i∈wr x,i∈vs:=fun i k=>hv i (aZW.2 (.inl k));have L:∀ i∈wr y,i∈vs:=fun i k=>hv i (aZW.2 (.inr k));have M:nd (.seq x y)=A->nd x=true:=fun e=>by simp only[nd,aZ3] at e;grind
  unfold gm at h;split at h
  .refine wp_seq (wp_mono (AB g x _ a e w K hr h) fun z a' w' j=>?_);obtain⟨e',p,o,j⟩:=j;cases z with
   | normal=>
    refine wp_mono (AB g y Q a' e' w' L p j) fun z s S q=>?_;obtain⟨t,u,B,q⟩:=q;exact⟨t,u,vA.trans o B,q⟩
   | _=>exact⟨e',p,o.mono (fun i k=>aZW.2 (.inl k)) M,j⟩
  .rename_i live hj;split at h
   .rename_i F;split at h
    .unfold JN at h;refine wp_seq (wp_mono (AB g x _ a e w K hr h) fun z a' w' j=>?_);obtain⟨e',p,o,j⟩:=j;cases z with
     | normal=>
      have D:=o;rw[F] at D;have j:=j e'.f;have j:=Jp _ _ j;rw[ZB D live] at j;refine wp_mono (AB g y Q a' e' w' L p j) fun z s S q=>?_;obtain⟨t,u,B,q⟩:=q;exact⟨t,u,vA.trans o B,q⟩
     | _=>exact⟨e',p,o.mono (fun i k=>aZW.2 (.inl k)) M,j⟩
    .unfold JS at h;obtain⟨d,h,hJ⟩:=h;refine wp_seq (wp_mono (AB g x _ a e w K hr h) fun z a' w' j=>?_);obtain⟨e',p,o,j⟩:=j;cases z with
     | normal=>
      have D:=o;rw[F] at D;have j:=hJ _ _ j e'.f;have j:=Jp _ _ j;rw[ZB D live] at j;refine wp_mono (AB g y Q a' e' w' L p j) fun z s S q=>?_;obtain⟨t,u,B,q⟩:=q;exact⟨t,u,vA.trans o B,q⟩
     | _=>exact⟨e',p,o.mono (fun i k=>aZW.2 (.inl k)) M,j⟩
   grind
 | .cond c x y,Q,a,e,w,hv,hr,h=>by
  have ht:a.eval c = .bool A->gm C x Q e w->(Code.cond c x y).wp C.P (Po vs (wr (.cond c x y)) (nd (.cond c x y)) e Q) a w:=fun N h=>
   wp_cond_true N (wp_mono (AB g x Q a e w (fun i k=>hv i (aZW.2 (.inl k))) hr h) fun z a' w' j=>ahX j (fun i k=>aZW.2 (.inl k)) (fun e=>by simp only[nd,aZ3] at e;grind))
  have hf:a.eval c = .bool G->gm C y Q e w->(Code.cond c x y).wp C.P (Po vs (wr (.cond c x y)) (nd (.cond c x y)) e Q) a w:=fun N h=>
   wp_cond_false N (wp_mono (AB g y Q a e w (fun i k=>hv i (aZW.2 (.inr k))) hr h) fun z a' w' j=>ahX j (fun i k=>aZW.2 (.inr k)) (fun e=>by simp only[nd,aZ3] at e;grind))
  unfold gm at h;rw[<- hr.eval] at h;split at h
  .unfold BS at h;split at h
   .rename_i b E;cases b with
    | true=>grind
    | false=>grind
   grind
  grind
 | .block id c,Q,a,e,w,hv,hr,h=>by
  unfold gm at h;refine wp_block (wp_mono (AB g c _ a e w hv hr h) fun z a' w' j=>?_);obtain⟨e',p,o,j⟩:=j;cases z with
  | exit R=>
   unfold FE tid at j;dsimp only at j;cases E:Nat.beq R id with
   | true=>
    rw[E] at j;have r:R=id:=a17 E;simp only[Exit.inBlock,zip r];exact⟨e',p,o,j⟩
   | false=>
    rw[E] at j;have r:¬ R=id:=fun e=>by subst e;simp at E
    simp only[Exit.inBlock,bZ r];exact⟨e',p,o,j⟩
  | _=>exact⟨e',p,o,j⟩
 | .exit id,Q,a,e,w,hv,hr,h=>wp_exit ⟨e,hr,kC.refl _ _ _,h⟩
 | .ret,Q,a,e,w,hv,hr,h=>wp_ret ⟨e,hr,kC.refl _ _ _,h⟩
 | .loop c,Q,a,e,w,hv,hr,h=>by
  unfold gm at h;split at h
  .rename_i F;obtain⟨I,⟨n0,h0⟩,LN⟩:=h;refine wp_loop_ghost (fun n a' w'=>∃ e',Rel vs a' e'/\kC (wr c) A e e'/\I n (jd (ze e' (C.live (Hg c)))) w') (by grind [kC.refl]) ?_;rintro n a1 w1 ⟨r,pR,T,k⟩;have H:=LN n _ r.f w1 k;have H:=Jp _ _ H;rw[ZB T] at H;refine wp_mono (AB g c _ a1 r w1 hv pR H) fun z a' w' j=>?_;obtain⟨e',p,o,j⟩:=j;rw[F] at o;have U:vA z (wr c) A e e':=(vA.trans T o).mono zg zg;cases z with
   | normal=>
    obtain⟨m,hm,k⟩:=j;exact⟨m,hm,e',p,U,k⟩
   | _=>exact⟨e',p,U.mono (fun i k=>k) zg,j⟩
  grind
 | .rangeFunc _ _ _ _,_,_,_,_,_,_,h=>h.elim
 | .scope c,Q,a,e,w,hv,hr,h=>by
  unfold gm at h;refine wp_scope_straight (wp_mono (AB g c _ a e w hv hr h) fun z a' w' j=>?_);obtain⟨e',p,o,j⟩:=j;cases z with
  | goto l=>exact j.elim
  | _=>exact⟨e',p,o,j⟩
 | .label l,Q,a,e,w,hv,hr,h=>wp_label ⟨e,hr,kC.refl _ _ _,h⟩
 | .goto _,_,_,_,_,_,_,h=>h.elim
 | .refuse _,_,_,_,_,_,_,h=>h.elim
def Hj(P:Program):List ResultVar->Array Y->Z->List Y->(List Y->Prop)->Prop
 | [],_,_,acc,K=>K acc
 | .tmp t::rs,tm,w,acc,K=>Hj P rs tm w (acc++[tm.getD t undef]) K
 | .cell a t::rs,tm,w,acc,K=>RD P (aZX t (tm.getD a undef)) w (fun v=>Hj P rs tm w (acc++[v]) K) (fun _ _=>False)
def one:List Y->Y
 | [v]=>v
 | l=>ak l.toArray
def Vr(tm:Array Y):ResultVar->Sem Y
 | .tmp t=>pure (tm.getD t undef)
 | .cell a t=>do loadVar t (<- asAddr (tm.getD a undef))
def ZF{P:Program}{tm:Array Y}{w:Z}:∀ (l:List ResultVar) (acc:List Y) (K:List Y->Prop),Hj P l tm w acc K ->
  ∃ vs,(l.mapM (Vr tm)).run P w=Result.ok vs w/\K (acc++vs)
 | [],acc,K,h=>⟨[],J,by grind [Hj]⟩
 | .tmp t::l,acc,K,h=>by
  obtain⟨vs,b,c⟩:=ZF l _ K h;refine⟨tm.getD t undef::vs,?_,by simpa using c⟩;rw[List.mapM_cons];simp only[Vr,aZS,a0u,aZR];rw[b];rfl
 | .cell a t::l,acc,K,h=>by
  unfold Hj RD at h;cases hr:(aZX t (tm.getD a undef)).run P w with
  | halt x w'=>grind
  | ok v w'=>
   rw[hr] at h;obtain⟨rfl,h⟩:=h;obtain⟨vs,b,c⟩:=ZF l _ K h;refine⟨v::vs,?_,zg⟩;rw[List.mapM_cons];have e:(Vr tm (.cell a t)).run P w' = .ok v w':=by
    rw[<- hr];show(do loadVar t (<- asAddr (tm.getD a undef)):Sem Y).run P w'=_;unfold aZX;generalize tm.getD a undef=u at *;unfold aZX at hr;cases u with
    | pointer p=>
     cases p with
     | none=>simp only[aZS] at hr;cases hr
     | some p=>rfl
    | _=>simp only[aZS] at hr;cases hr
   grind [aZS,a0u,aZR]
def Rk{P:Program}{K:List Y->Prop}(h:Hj P fn.results.toList iB w [] K) :
  ∃ l,(results fn iB).run P w = .ok (one l) w/\K l:=by
 obtain⟨vs,a,c⟩:=ZF _ _ _ h;refine⟨vs,?_,zg⟩;unfold results;show(Sem.bind (fn.results.mapM (Vr iB)) fun vs=>pure (if h:vs.size=1 then vs[0] else ak vs)).run P w=_;rw[Sem.run_bind',Array.mapM_eq_mapM_toList];simp only[Sem.run_map];rw[a];simp only[aZR,a0u]
 congr 1
 unfold one;split
 .rename_i b
  match vs,b with
  | [v],_=>rfl
 grind
def uB(P:Program):List ResultVar->(Nat->Y)->Z->List Y->(List Y->Prop)->Prop
 | [],_,_,acc,K=>K acc
 | .tmp t::rs,f,w,acc,K=>uB P rs f w (acc++[f t]) K
 | .cell a t::rs,f,w,acc,K=>RD P (aZX t (f a)) w (fun v=>uB P rs f w (acc++[v]) K) (fun _ _=>False)
def LO{P:Program}{tm:Array Y}{f:Nat->Y}(h:∀ i,tm.getD i undef=f i)(w:Z):∀ (l:List ResultVar) (acc:List Y) (K:List Y->Prop),uB P l f w acc K->Hj P l tm w acc K
 | [],acc,K,hk=>hk
 | .tmp t::l,acc,K,hk=>by
  unfold uB at hk;unfold Hj;rw[h];exact LO h w l _ K hk
 | .cell a t::l,acc,K,hk=>by
  unfold uB RD at hk;unfold Hj RD;rw[h];cases hr:(aZX t (f a)).run P w with
  | ok v w'=>rw[hr] at hk;exact⟨hk.1,LO h w l _ K hk.2⟩
  | halt x w'=>grind
def Jq(P:Program)(fn:Func)(R:Ending->Z->Prop):Exit->Env->Z->Prop
 | .normal,a,w | .ret,a,w=>tid (uB P fn.results.toList a.f w [] fun l=>R (ah (one l)) w)
 | .panic b,_,w=>R (.panicked b) w
 | _,_,_=>False
def Oo:List Y->Nat->Y
 | [],_=>undef
 | v::_,0=>v
 | _::r,i+1=>Oo r i
def vC(args:List Y):Env:={ f:=Oo args,defers:=[] }
def ahZ:∀ (l:List Y) (i:Nat),Oo l i=l.getD i undef
 | [],i=>by simp [Oo]
 | v::r,0=>rfl
 | v::r,i+1=>by
  unfold Oo;rw[ahZ r i];simp
def ZG{args:List Y}{vs:List Nat}(hv:vs.all (fun i=>decide (i<n))=A)(a:args.length<=n) :
  Rel vs { tmps:=args.toArray++Array.replicate (n-args.toArray.size) undef,defers:=[] } (vC args):=by
 refine⟨fun i=>?_,J,fun i b=>?_⟩
 .show _=Oo args i;rw[ahZ];simp only[a03,List.getD_eq_getElem?_getD,Array.getElem?_append];grind
 grind
def calls{C:lZ}(a:Good C){f:FuncId}{c:Code}{args:List Y}(m:C.P.funcs[f]?=O fn)(n:fn.body=O c)
  (o:nd c=A) (hv:((wr c).all fun i=>decide (i<fn.ntmps))=A) (p:args.length<=fn.ntmps) (h:gm C c (Jq C.P fn R) (vC args) w):Calls C.P f args.toArray w R:=by
 refine calls_of_wp m n (wp_mono (AB a c _ _ (vC args) w zg (ZG hv p) h) fun e a' w' q=>?_);obtain⟨e',d,r,b⟩:=q;have g:a'.defers=[]:=by rw[d.defs];exact r.defs o
 cases e with
 | normal=>obtain⟨l,j,k⟩:=Rk (LO d.get w' _ _ _ b);exact⟨g,_,j,k⟩
 | ret=>obtain⟨l,j,k⟩:=Rk (LO d.get w' _ _ _ b);exact⟨g,_,j,k⟩
 | panic s=>exact⟨g,b⟩
 | _=>exact b.elim
def LV(P:Program)(res:Z->Prop)(R:Ending->Z->Prop):List Deferred->FrameMode->Z->Prop
 | [],.returning,w=>res w
 | [],.panicking chain,w=>R (.panicked chain) w
 | [],.run,_=>False
 | d::ds,u,w=>u≠.run/\∃ b cap f args,d.target = .fn b cap/\(invoke d.target d.args).run P w = .ok (.enter f args) w /\
  CallsD P f args u w fun
   | ah _,a,w'=>LV P res R ds (settle a) w'
   | .panicked chain,a,w'=>LV P res R ds (raised a chain) w'
   | .outgrown,_,_=>False
theorem CallsD.mono{P:Program}{f:FuncId}{args:Array Y}{u:FrameMode}{R a:Ending->FrameMode->Z->Prop}(h:CallsD P f args u w R)
  (hr:∀ e u w,R e u w->a e u w):CallsD P f args u w a:=
 fun c cs b=>let ⟨e,d,w',fr,g,i⟩:=h c cs b; zg
def Rm{P:Program}{fn:Func}{tm:Array Y}{f:Nat->Y}(a:∀ i,tm.getD i undef=f i){R:Ending->Z->Prop}:∀ (ds:List Deferred) (u:FrameMode) (w:Z),
  LV P (fun w=>uB P fn.results.toList f w [] fun l=>R (ah (one l)) w) R ds u w->Leaves P fn tm R ds u w
 | [],.returning,w,h=>by obtain⟨l,b,c⟩:=Rk (LO a w _ _ _ h);exact⟨_,b,c⟩
 | [],.panicking _,w,h=>h
 | [],.run,w,h=>h.elim
 | d::ds,u,w,h=>by
  obtain⟨b,g,cap,f,args,c,j,k⟩:=h;refine⟨b,g,cap,f,args,c,j,CallsD.mono k fun e m w' he=>?_⟩;cases e with
  | returned v=>exact Rm a ds _ _ he
  | panicked n=>exact Rm a ds _ _ he
  | outgrown=>grind
def LP(P:Program)(fn:Func)(R:Ending->Z->Prop):Exit->Env->Z->Prop
 | .normal,a,w | .ret,a,w=>LV P (fun w=>uB P fn.results.toList a.f w [] fun l=>R (ah (one l)) w) R a.defers .returning w
 | .panic b,a,w=>LV P (fun w=>uB P fn.results.toList a.f w [] fun l=>R (ah (one l)) w) R a.defers (.panicking b) w
 | _,_,_=>False
def asW{C:lZ}(a:Good C){f:FuncId}{c:Code}{args:List Y}(g:C.P.funcs[f]?=O fn)(j:fn.body=O c)
  (hv:((wr c).all fun i=>decide (i<fn.ntmps))=A) (k:args.length<=fn.ntmps) (h:gm C c (LP C.P fn R) (vC args) w):Calls C.P f args.toArray w R:=by
 refine calls_of_wp_defers g j (wp_mono (AB a c _ _ (vC args) w zg (ZG hv k) h) fun e a' w' l=>?_);obtain⟨e',b,m,d⟩:=l;cases e with
 | normal=>show Leaves _ _ _ _ _ _ _;rw[b.defs];exact Rm b.get _ _ _ d
 | ret=>show Leaves _ _ _ _ _ _ _;rw[b.defs];exact Rm b.get _ _ _ d
 | panic n=>show Leaves _ _ _ _ _ _ _;rw[b.defs];exact Rm b.get _ _ _ d
 | _=>exact d.elim
def asX{C:lZ}(b:Good C){f:FuncId}{c:Code}{args:List Y}{S:Prop}(e:C.P.funcs[f]?=O fn)(g:fn.body=O c)
  (j:nd c=A) (hv:((wr c).all fun i=>decide (i<fn.ntmps))=A) (k:args.length<=fn.ntmps) (d:List Nat) (he:pM d (vC args) (fun a=>gm C c (Jq C.P fn R) a w)=S) (h:S):Calls C.P f args.toArray w R:=
 calls b e g j hv k (Jp d _ (he ▸ h))
def asY{C:lZ}(b:Good C){f:FuncId}{c:Code}{args:List Y}{S:Prop}(e:C.P.funcs[f]?=O fn)(g:fn.body=O c)
  (hv:((wr c).all fun i=>decide (i<fn.ntmps))=A) (j:args.length<=fn.ntmps) (d:List Nat) (he:pM d (vC args) (fun a=>gm C c (LP C.P fn R) a w)=S) (h:S):Calls C.P f args.toArray w R:=
 asW b e g hv j (Jp d _ (he ▸ h))
def BD{P:Program}{res:Z->Prop}{R:Ending->Z->Prop}{k:FuncId}{cap args:Array Y}{ds:List Deferred}{u:FrameMode}{w:Z}(hk:zb P k=A)(hu:u≠.run)
  (h:CallsD P k (args++cap) u w fun
   | ah _,a,w'=>LV P res R ds (settle a) w'
   | .panicked chain,a,w'=>LV P res R ds (raised a chain) w'
   | .outgrown,_,_=>False):LV P res R ({ target:=.fn (.func k) cap,args:=args }::ds) u w:=
 ⟨hu,_,_,k,args++cap,J,Q5 hk (args++cap) w,h⟩
def ZH{P:Program}:LV P res R [] .returning w=res w:=rfl
def ZI{P:Program}{a:List PanicEntry}:LV P res R [] (.panicking a) w=R (.panicked a) w:=rfl
def Vs(f:Fn)(x y:Array Y)(K:Fn->Array Y->Array Y->Prop):DF (.func f x y) K=K f x y:=rfl
def asZ{C:lZ}(b:Good C){f:FuncId}{c:Code}{args:List Y}{u:FrameMode}{S:Prop}(o:C.P.funcs[f]?=O fn)(p:fn.body=O c)
  (q:nd c=A) (hv:((wr c).all fun i=>decide (i<fn.ntmps))=A) (r:args.length<=fn.ntmps) (n:List Nat) (he:pM n (vC args) (fun a=>gm C c (Jq C.P fn R) a w)=S) (h:S) :
  CallsD C.P f args.toArray u w fun e s w'=>s=u/\R e w':=by
 have h:=Jp n _ (he ▸ h);refine callsD_of_wp o p (wp_mono (AB b c _ _ (vC args) w zg (ZG hv r) h) fun e a' w' t=>?_);obtain⟨e',g,x,d⟩:=t;have j:a'.defers=[]:=by rw[g.defs];exact x.defs q
 cases e with
 | normal=>obtain⟨l,k,m⟩:=Rk (LO g.get w' _ _ _ d);exact⟨j,_,k,m⟩
 | ret=>obtain⟨l,k,m⟩:=Rk (LO g.get w' _ _ _ d);exact⟨j,_,k,m⟩
 | panic y=>exact⟨j,d⟩
 | _=>exact d.elim
def cq{C:lZ}(b:Good C){f:FuncId}{c:Code}{args:List Y}{S:Prop}(d:C.P.funcs[f]?=O fn)(e:fn.body=O c)
  (hk:(nd c && ((wr c).all fun i=>decide (i<fn.ntmps)) && Nat.ble args.length fn.ntmps)=A) (he:pM [] (vC args) (fun a=>gm C c (Jq C.P fn R) a w)=S) (h:S):Calls C.P f args.toArray w R:=by
 simp only[aZ3] at hk;exact asX b d e hk.1.1 hk.1.2 (Nat.le_of_ble_eq_true hk.2) [] he h
abbrev bo(op:BinOp)(t:TypeId)(x y:Operand)(a b:Y):Sem Y:=do eqGuard op t x y a b;binOp op t a b
def FK(P:Program)(s:Sem Y)(w:Z)(K:Y->Prop)(X:Y->Z->Prop):Prop:=RD P s w K X
def WU0(P:Program)(s:Sem Unit)(w:Z)(K:Z->Prop)(X:Y->Z->Prop):Prop:=WU P s w K X
def WR0(P:Program)(s:Sem Y)(w:Z)(K:Y->Z->Prop)(X:Y->Z->Prop):Prop:=WR P s w K X
def gU{P:Program}{s:Sem Y}(h:s.run P w = .ok v w):RD P s w K X=K v:=by
 unfold RD;grind
def as0{P:Program}{s:Sem Y}(h:s.run P w = .halt (.panic v) w'):RD P s w K X=X v w':=by
 unfold RD;grind
def wU{P:Program}{s:Sem Y}{K:Y->Z->Prop}(h:s.run P w = .ok v w'):WR P s w K X=K v w':=by
 unfold WR;grind
def Rn{P:Program}{s:Sem Unit}{K:Z->Prop}(h:s.run P w = .ok () w'):WU P s w K X=K w':=by
 unfold WU;grind
def ju(a:Addr)(K:Y->Prop):NC (aq (O a)) K=K (aq (O a)):=rfl
def ZK(t:TypeId)(x:Y)(K:Y->Prop):NC (aj t x) K=K (aj t x):=rfl
def ZL(f:FuncId)(x y:Array Y)(K:Y->Prop):NC (.func (.func f) x y) K=K (.func (.func f) x y):=rfl
def Oq(a B:Prop):BS (.bool A) a B=a:=by simp [BS]
def Ot(a B:Prop):BS (.bool G) a B=B:=by simp [BS]
def FL{p:Prop}[Decidable p](a B:Prop)(h:p):BS (.bool (decide p)) a B=a:=by simp [BS,h]
def FM{p:Prop}[Decidable p](a B:Prop)(h:¬ p):BS (.bool (decide p)) a B=B:=by simp [BS,h]
def ZM{p:Prop}[Decidable p](a B:Prop):BS (.bool (decide p)) a B=((p->a)/\(¬ p->B)):=by simp [BS]
section
variable{P:Program}{t:TypeId}{x y:Operand}{w:Z}{K:Y->Prop}{X:Y->Z->Prop}
def ZN(k:IntKind)(a b:Int):RD P (bo .add t x y (.int k a) (.int k b)) w K X=K (.int k (k.wrap (a+b))):=
 gU (by simp [bo,eqGuard,binOp,Op.intArith])
def ZO(k:IntKind)(a b:Int):RD P (bo .sub t x y (.int k a) (.int k b)) w K X=K (.int k (k.wrap (a-b))):=
 gU (by simp [bo,eqGuard,binOp,Op.intArith])
def ZP(k:IntKind)(a b:Int):RD P (bo .mul t x y (.int k a) (.int k b)) w K X=K (.int k (k.wrap (a*b))):=
 gU (by simp [bo,eqGuard,binOp,Op.intArith])
def ZQ(k:IntKind)(a b:Int):RD P (bo .lss t x y (.int k a) (.int k b)) w K X=K (.bool (decide (a<b))):=
 gU (by simp [bo,eqGuard,binOp,a3P])
def ZR(k:IntKind)(a b:Int):RD P (bo .leq t x y (.int k a) (.int k b)) w K X=K (.bool (decide (a<=b))):=
 gU (by simp [bo,eqGuard,binOp,a3P])
def ZS(k:IntKind)(a b:Int):RD P (bo .gtr t x y (.int k a) (.int k b)) w K X=K (.bool (decide (b<a))):=
 gU (by simp [bo,eqGuard,binOp,a3P])
def ZT(k:IntKind)(a b:Int):RD P (bo .geq t x y (.int k a) (.int k b)) w K X=K (.bool (decide (b<=a))):=
 gU (by simp [bo,eqGuard,binOp,a3P])
def ZU(k:IntKind)(a b:Int):RD P (bo .eql t x y (.int k a) (.int k b)) w K X=K (.bool (decide (a=b))):=
 gU (by simp [bo,eqGuard,binOp,a3P];grind)
def ZV(k:IntKind)(a b:Int):RD P (bo .neq t x y (.int k a) (.int k b)) w K X=K (.bool (decide (¬ a=b))):=
 gU (by simp [bo,eqGuard,binOp,a3P];grind)
def ZW(b:Bool):RD P (Op.unary .not (.bool b)) w K X=K (.bool !b):=gU J
def ZX(k:IntKind)(n:Int):RD P (Op.unary .neg (.int k n)) w K X=K (.int k (k.wrap (0-n))):=gU J
def ZY(a b:List UInt8):RD P (bo .eql t x y (.string (bs a)) (.string (bs b))) w K X=K (.bool (decide (a=b))):=
 gU (by simp [bo,eqGuard,binOp,Op.stringOp];grind)
def ZZ(a b:List UInt8):RD P (bo .neq t x y (.string (bs a)) (.string (bs b))) w K X=K (.bool (decide (¬ a=b))):=
 gU (by simp [bo,eqGuard,binOp,Op.stringOp];grind)
end
section
variable{P:Program}{t:TypeId}{x y:Operand}{w:Z}{K:Y->Prop}{X:Y->Z->Prop}
def ya(a b:List UInt8)(h:a.length+b.length<=4294967296):RD P (bo .add t x y (.string (bs a)) (.string (bs b))) w K X=K (.string (bs (a++b))):=by
 refine gU ?_;have c:¬ (IntKind.i64.max<(((bs a).size+(bs b).size:Nat):Int)):=by
  have d:(bs a).size=a.length:=by simp [ByteArray.size]
  have f:(bs b).size=b.length:=by simp [ByteArray.size]
  have g:IntKind.i64.max=9223372036854775807:=zd;omega
 have e:bs a++bs b=bs (a++b):=by
  apply ByteArray.ext;grind [ByteArray.data_append]
 simp only[bo,eqGuard,binOp,Op.stringOp,aZS];show(if ((bs a).size+(bs b).size:Nat) > IntKind.i64.max then _ else _:Sem Y).run P w=_;rw[bZ c,e];rfl
end
def bO(w:Z)(b:Nat)(o:Obj):Z:={ w with heap:=w.heap.setIfInBounds b o }
theorem uC(w:Z)(b:Nat)(o:Obj):(bO w b o).heap.size=w.heap.size:=by simp [bO]
theorem LQ{o:Obj}(h:b<w.heap.size):(w.alloc o).heap[b]?=w.heap[b]?:=by
 show(w.heap.push o)[b]?=_;grind
theorem sx{o:Obj}(h:b=w.heap.size):(w.alloc o).heap[b]?=O o:=by
 grind [blk_alloc_new]
theorem pS{o:Obj}(h:b=c)(a:b<w.heap.size):(bO w c o).heap[b]?=O o:=by
 grind [bO]
theorem iY{o:Obj}(h:¬ b=c):(bO w c o).heap[b]?=w.heap[b]?:=by
 simp [bO,Ne.symm h]
theorem Ro(w:Z)(b:Nat):w.drew.heap[b]?=w.heap[b]?:=rfl
theorem BE(w:Z):w.drew.heap.size=w.heap.size:=rfl
def uD{T:TypeId}(h:w.heap[b]?=O (ae cs T (0,0)))(v:Y):w.setCell ⟨b,o,V⟩ v=bO w b (ae (cs.setIfInBounds o v) T (0,0)):=by
 unfold a3J bO
 congr 1
 grind
def Vt(P:Program)(T:TypeId):Bool:=
 match P.underlying T with
 | some (.struct _)=>G
 | some (.array _ _)=>G
 | some _=>A
 | none=>G
def Rp(P:Program)(T:TypeId)(n:Nat):Bool:=
 (match P.underlying T with
 | some (.struct _)=>A
 | some (.array _ _)=>A
 | _=>G) && (match P.info? T with
 | some i=>i.size == n
 | none=>G)
def sized(P:Program)(T:TypeId)(n:Nat):Bool:=
 match P.info? T with
 | some i=>i.size == n
 | none=>G
def Vu(x:Option Obj)(o:Nat)(K:Y->Prop)(D:Prop):RT (K,D):=
 match x with
 | some (ae cs _ _)=>(match cs[o]? with | some v=>K v | none=>D)
 | _=>D
def LR(x:Option Obj)(o n:Nat)(K:Y->Prop)(D:Prop):RT (K,D):=
 match x with
 | some (ae cs _ _)=>if o+n<=cs.size then K (.agg ((cs.toList.drop o).take n).toArray) else D
 | _=>D
def oF(cs:Array Y)(o:Nat):List Y->Array Y
 | []=>cs
 | v::r=>oF (cs.setIfInBounds o v) (o+1) r
section mem
variable{P:Program}{T:TypeId}{b o:Nat}{w:Z}{K:Y->Prop}{X:Y->Z->Prop}
def ah3(h:Vt P T=A)(w:Z):(isAgg T).run P w = .ok G w:=by
 unfold Vt at h;unfold isAgg underlying;simp only[aZS,program,a18,aZR];grind [a0u,aZR]
theorem FN(h:sized P T n=A)(w:Z):(sizeOf T).run P w = .ok n w:=by
 unfold sized at h;unfold sizeOf typeInfo;simp only[aZS,program,a18,aZR];split at h
 .rename_i i a;rw[a];simp only[a0u,aZR];grind
 grind
def as2(h:Rp P T n=A):sized P T n=true:=by
 unfold Rp at h;simp only[aZ3] at h;exact h.2
def as3(h:Rp P T n=A)(w:Z):(isAgg T).run P w = .ok A w:=by
 unfold Rp at h;simp only[aZ3] at h;have h:=h.1;unfold isAgg underlying;simp only[aZS,program,a18,aZR];split at h
 .rename_i a;rw[a];rfl
 .rename_i a;rw[a];rfl
 grind
def jY(a:Vt P T=A):RD P (aZX T (aq (O ⟨b,o,V⟩))) w K X=Vu (w.heap[b]?) o K (FK P (aZX T (aq (O ⟨b,o,V⟩))) w K X):=by
 unfold Vu;split
 .rename_i cs t z c;split
  .rename_i v hv;refine gU ?_;simp only[aZX,a3r,loadVar,aZS,a0u,aZR,ah3 a,Bool.false_eq_true,if_false,load,a18,cellOf c hv]
  .rfl
 .rfl
def Z0(a:Rp P T n=A):RD P (aZX T (aq (O ⟨b,o,V⟩))) w K X=LR (w.heap[b]?) o n K (FK P (aZX T (aq (O ⟨b,o,V⟩))) w K X):=by
 unfold LR;split
 .rename_i cs t z c;split
  .rename_i g;refine gU ?_;have d:((cs.toList.drop o).take n).length=n:=zg;have f:∀ j v,((cs.toList.drop o).take n)[j]?=O v->w.cell? ((⟨b,o,V⟩:Addr).add j)=O v:=by
    intro j v hv;rw[List.getElem?_take] at hv;split at hv
    .rw[List.getElem?_drop] at hv;have e:(⟨b,o,V⟩:Addr).add j=⟨b,o+j,V⟩:=by unfold Addr.add;split<;>simp_all
     rw[e];exact cellOf c (by simpa using hv)
    .cases hv
   have:=run_loadCells_list (P:=P) w ⟨b,o,V⟩ ((cs.toList.drop o).take n) f;rw[d] at this;simp only[aZX,a3r,loadVar,aZS,a0u,aZR,as3 a,if_true,FN (as2 a),this]
  .rfl
 .rfl
def ah4{U:TypeId}:∀ (vs:List Y) (i:Nat) (cs:Array Y) (w:Z),w.heap[b]?=O (ae cs U (0,0))->o+i+vs.length<=cs.size->(vs.all a0N)=A ->
  (storeCells ⟨b,o,V⟩ vs i).run P w = .ok () (bO w b (ae (oF cs (o+i) vs) U (0,0)))
 | [],i,cs,w,a,_,_=>by
  have j:=bg a;have:bO w b (ae cs U (0,0))=w:=by
   unfold bO;cases w
   congr 1
   grind
  simp [storeCells,oF,this]
 | v::vs,i,cs,w,a,d,c=>by
  simp only[List.length_cons] at d;simp only[List.all_cons,aZ3] at c;have f:w.cell? ⟨b,o+i,V⟩=O cs[o+i]:=(by grind [cellOf]);have hu:(bO w b (ae (cs.setIfInBounds (o+i) v) U (0,0))).heap[b]?=O (ae (cs.setIfInBounds (o+i) v) U (0,0)):=pS J (bg a);have ih:=ah4 vs (i+1) (cs.setIfInBounds (o+i) v) _ hu zg c.2;have e:(⟨b,o,V⟩:Addr).add i=⟨b,o+i,V⟩:=by unfold Addr.add;split<;>simp_all
  have g:∀ x y,bO (bO w b x) b y=bO w b y:=by
   intro x y;unfold bO;simp
  rw[g] at ih;simp only[storeCells,aZS,e,oF];have k:(store ⟨b,o+i,V⟩ v).run P w = .ok () (bO w b (ae (cs.setIfInBounds (o+i) v) U (0,0))):=by
   rw[<- uD a];have h:=jH a (o+i);cases v<;>first | (simp [a0N] at c;done) | simp [store,a18,f,h]
  grind [aZR]
def Rq(x:Option Obj)(w:Z)(b o n:Nat)(v:Y)(K:Z->Prop)(D:Prop):RT (K,D):=
 match x with
 | some (ae cs U z)=>if z=(0,0)/\v.cells.toList.length=n/\o+n<=cs.size/\(v.cells.toList.all a0N)=A then K (bO w b (ae (oF cs o v.cells.toList) U (0,0))) else D
 | _=>D
def nL(a:sized P T n=A)(v:Y){K:Z->Prop}:WU P (a05 T (aq (O ⟨b,o,V⟩)) v) w K X=Rq (w.heap[b]?) w b o n v K (WU0 P (a05 T (aq (O ⟨b,o,V⟩)) v) w K X):=by
 unfold Rq;split
 .rename_i cs U z c;split
  .rename_i h;obtain⟨rfl,e,f,d⟩:=h;refine Rn ?_;have g:v.cells.size=n:=zo;have:=ah4 (P:=P) (b:=b) (o:=o) v.cells.toList 0 cs w c zo d;simp only[a05,a3r,storeVar,aZS,a0u,aZR,FN a];grind
  .rfl
 .rfl
def zm(P:Program)(T:TypeId):Option Y:=(P.info? T).bind (·.zero)
def Ek(h:zm P T=O z)(w:Z):(zeroValue T).run P w = .ok z w:=by
 unfold zm at h;unfold zeroValue typeInfo;simp only[aZS,program,a18,aZR];grind [a0u,aZR]
def zp(h:zm P T=O z){K:Y->Z->Prop}:WR P (Instr.alloc T A u) w K X=K (aq (O ⟨w.heap.size,0,V⟩)) (w.alloc (ae z.cells T)):=by
 refine wU ?_;simp only[Instr.alloc,aZS,Ek h,aZR,newVar,newRow,newObj,a18,a0u];rfl
def Z1{K:Y->Z->Prop}:WR P (Instr.box T v) w K X=K (aq (O ⟨w.heap.size,0,V⟩)) (w.alloc (ae v.cells T)):=by
 refine wU ?_;simp only[Instr.box,aZS,aZR,newVar,newRow,newObj,a18,a0u];rfl
end mem
def yH{p:Prop}(h:p:=by grind [iY,pS,LQ,sx,Ro,size_alloc,uC,BE,bg]):p:=h
end Sx
