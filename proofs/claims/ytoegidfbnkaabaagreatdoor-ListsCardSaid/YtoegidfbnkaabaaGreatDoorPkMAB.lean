/- A part of one proof (Base, Sx3, Sx4, SxL). -/
import Derived.Test.YtoegidfbnkaabaaGreatDoorPkMAA
import Derived.WalkKit
import Derived.Lib.Hide
import Derived.Deep.QuietTactic
import Derived.BigQuiet
import Derived.Deep.RegionLaw
set_option linter.all false
set_option maxRecDepth 100000
set_option maxHeartbeats 8000000
open Option renaming some → O, none → V
open Go renaming Value → Y, World → Z
open Bool renaming true → G, false → ae
open Go.Obj renaming cells → ah
open Go.Ending renaming returned → ai
open Go.Value renaming iface → ak, tuple → aq, pointer → au
open List renaming mem_cons_self → a3S, mem_cons → a3T, mem_append → a3Z, map_cons → a4K
open Go.Result renaming andThen_ok → a3W
open Go.Sem renaming run_bind → a3X, run_pure → a4y, run → a56
open Go.Instr renaming loadAt → a32, storeAt → a5e, sureAddr → a6V
open Bool renaming and_eq_true → a39
open Go.Region renaming wanted → a4M, noSelect_spec → a6o
open Go.Value renaming oneCell' → a4V
open Array renaming getD_eq_getD_getElem? → a5c
open Nat renaming eq_of_beq_eq_true → a6k
open Go.Exit renaming jump → a7s
open Go.World renaming setCell → a7Q
open Go.Op renaming intCmp → a7W
namespace Go.Proofs.YtoegidfbnkaabaaGreatDoor
open Go.RowKit
variable{K:Y->Prop}{R:Ending->Z->Prop}{W w w':Z}{X:Y->Z->Prop}{a:Act}{b base c d i k m n o pb:Nat}{cs iF:Array Y}{fn:Func}{res:Z->Prop}{u v z:Y}{us fz:List Nat}{GN:Bool}{xs:List Y}
theorem cellOf{T:TypeId}{z:Nat×Nat}(h:w.heap[b]?=O (ah cs T z))
  (hv:cs[o]?=O v):w.cell? ⟨b,o,V⟩=O v:=by
 grind [World.cell?]
theorem jV{T:TypeId}(h:w.heap[b]?=O (ah cs T (0,0)))(o:Nat):w.frozen? ⟨b,o,V⟩=false:=by
 grind [World.frozen?]
theorem bn{o:Obj}(h:w.heap[b]?=O o):b<w.heap.size:=by
 grind
theorem blk_alloc_new(w:Z)(o:Obj):(w.alloc o).heap[w.heap.size]?=O o:=by
 show(w.heap.push o)[w.heap.size]?=_;simp
theorem dT{o x:Obj}(h:w.heap[b]?=O x):(w.alloc o).heap[b]?=O x:=by
 have:=bn h;show(w.heap.push o)[b]?=_;grind
theorem size_alloc(w:Z)(o:Obj):(w.alloc o).heap.size=w.heap.size+1:=by
 show(w.heap.push o).size=_;simp
theorem size_setCell(w:Z)(a:Addr)(v:Y):(w.setCell a v).heap.size=w.heap.size:=by simp [a7Q]
def size_drew(w:Z):w.drew.heap.size=w.heap.size:=rfl
theorem P2(w:Z)(n:Nat):(w.drewN n).heap.size=w.heap.size:=rfl
def Bm{T:TypeId}{z:Nat×Nat}(h:w.heap[b]?=O (ah cs T z))(v:Y) :
  (w.setCell ⟨b,o,V⟩ v).heap[b]?=O (ah (cs.setIfInBounds o v) T z):=by
 grind [a7Q]
theorem blk_setCell_other{a:Addr}(h:b≠a.block)(v:Y):(w.setCell a v).heap[b]?=w.heap[b]?:=by
 simp [a7Q,Array.getElem?_modify,Ne.symm h]
theorem abq{a:Addr}(h:w.cell? a=O v)(hw:∀ (b:Nat) (o:Obj),w.heap[b]?=O o->w'.heap[b]?=O o):w'.cell? a=O v:=by
 grind [World.cell?,World.cell?_of_block]
structure bD(M:Nat->Obj->Prop)(w w':Z):Prop where
 os:w'.os=w.os
 tape:w'.tape=w.tape
 output:w'.output=w.output
 size:w.heap.size<=w'.heap.size
 block:∀ b o,w.heap[b]?=O o->¬ M b o->w'.heap[b]?=O o
theorem bD.refl(M:Nat->Obj->Prop)(w:Z):bD M w w:=⟨J,J,J,Nat.le_refl _,zg⟩
theorem bD.trans{M:Nat->Obj->Prop}{a b c:Z}(h:bD M a b)(k:bD M b c):bD M a c:=
 ⟨k.os.trans h.os,k.tape.trans h.tape,k.output.trans h.output,Nat.le_trans h.size k.size,(by grind [block])⟩
theorem bD.mono{M c:Nat->Obj->Prop}{a b:Z}(h:bD M a b)(hm:∀ i o,a.heap[i]?=O o->M i o->c i o):bD c a b:=
 ⟨h.os,h.tape,h.output,h.size,(by grind [block])⟩
theorem bD.alloc{M:Nat->Obj->Prop}{a b:Z}(h:bD M a b)(o:Obj):bD M a (b.alloc o):=
 ⟨h.os,h.tape,h.output,by rw[size_alloc];have:=h.size;omega,(by grind [dT,block])⟩
theorem bD.drew{M:Nat->Obj->Prop}{a b:Z}(h:bD M a b):bD M a b.drew:=⟨h.os,h.tape,h.output,h.size,h.block⟩
theorem bD.drewN{M:Nat->Obj->Prop}{a b:Z}(h:bD M a b)(n:Nat):bD M a (b.drewN n):=⟨h.os,h.tape,h.output,h.size,h.block⟩
theorem bD.Na{M:Nat->Obj->Prop}{a b:Z}(h:bD M a b){p:Addr}(c:a.heap.size<=p.block)(v:Y):bD M a (b.setCell p v):=
 ⟨h.os,h.tape,h.output,by rw[size_setCell];exact h.size,(by grind [blk_setCell_other,bn,block])⟩
def bD.avw{M:Nat->Obj->Prop}{a b:Z}(h:bD M a b){p:Addr}(c:∀ o,M p.block o)(v:Y):bD M a (b.setCell p v):=
 ⟨h.os,h.tape,h.output,by rw[size_setCell];exact h.size,(by grind [blk_setCell_other,block])⟩
def bD.grownBy{a b:Z}{r:Option Nat}(h:a.grownBy b r):bD (fun i _=>O i=r) a b:=
 ⟨h.os,h.tape,h.output,h.size,(by grind [bn,World.grownBy.block])⟩
theorem P3{x:Y}{t:TypeId}(c:b=w.heap.size):∀ (j:Nat) (u:Y),[x][j]?=O u->(w.alloc (ah #[x] t)).cell? ((⟨b,0,V⟩:Addr).add j)=O u:=by
 subst c;intro j u a;cases j with
 | zero=>
  simp at a;subst a;exact cellOf (o:=0) (blk_alloc_new w _) J
 | succ j=>grind
def aj5{x:Y}{t:TypeId}(a:b=w.heap.size):∀ (j:Nat) (u:Y),[x][j]?=O u->(w.alloc (ah #[x] t)).drew.cell? ((⟨b,0,V⟩:Addr).add j)=O u:=P3 a
def P4{e:TypeId}{size:Nat}(h:w.ownsRow base e size v n xs)(o:Obj):(w.alloc o).drew.ownsRow base e size v n xs:=h.alloc o
abbrev Ext(w w':Z):Prop:=bD (fun _ _=>False) w w'
theorem bD.ext(h:Ext w w')(b:Nat)(o:Obj)(a:w.heap[b]?=O o):w'.heap[b]?=O o:=h.block b o a id
theorem bD.toM{M:Nat->Obj->Prop}(h:Ext w w'):bD M w w':=(by grind [mono])
def Nb{e:TypeId}{size:Nat}(h:W.ownsRow base e size v (k+1) xs):∃ g cap,v = .slice (O ⟨g,0,V⟩) (k+1) cap:=by
 rcases h.2 with⟨_,a⟩| ⟨g,cap,_,rfl,_⟩<;>grind
theorem abr{e:TypeId}{size:Nat}(h:w.ownsRow base e size v n xs)(d:pb<=base):w.ownsRow pb e size v n xs:=by
 obtain⟨a,b | ⟨g,cap,cur,c,f,r⟩⟩:=h
 .exact⟨a,.inl b⟩
 .exact⟨a,.inr ⟨g,cap,cur,c,zo,r⟩⟩
def S0{P:Program}(w:Z)(base:Nat)(t ty e:TypeId)(i:TypeInfo)(z:Y)(size bytes:Nat)(ht:P.underlying t=O (.slice e))(hi:P.info? e=O i)(q:i.zero=O z)
  (l:i.size=size) (r:i.bytes=bytes) (s:z.cells.size=size) (x:0<size)
  (v:Y) (n:Nat) (xs:List Y) (h:w.ownsRow base e size v n xs)
  (a:Addr) (m c:Nat) (news:List Y) (o:news.length=m*size) (p:∀ j u,news[j]?=O u->w.cell? (a.add j)=O u) (y:∀ u∈news,u.oneCell'=G)
  (A:n+m<=maxLen) (B:(n+m)*bytes<=140737488355328) (C:base<=w.heap.size) :
  ∃ v' w',(Builtin.append_ #[t,t] ty #[v,.slice (O a) m c]).run P w = .ok v' w'/\w'.ownsRow base e size v' (n+m) (xs++news)/\w.grownBy w' v.ownBlock /\
   (v'.ownBlock=v.ownBlock\/∀ k,v'.ownBlock=O k->w.heap.size<=k):=by
 have D:=h;rcases h.2 with⟨rfl,rfl⟩| ⟨g,cap,cur,rfl,F,H,I,K,L,M⟩
 .have hx:xs=[]:=List.eq_nil_of_length_eq_zero (by simpa using h.1);subst hx;obtain⟨v',w',f,d,b,_⟩:=run_append_own (P:=P) w w.heap.size t ty e i z size bytes ht hi q l r s x _ 0 [] (World.ownsRow_nil _ _ _ _) a m c news o p y A B zo;exact⟨v',w',f,abr d C,b,.inr fun k hk=>(d.lt k hk).1⟩
 .by_cases E:n+m<=cap
  .obtain⟨w',f,d,b⟩:=run_append_fits (P:=P) w base t ty e i size ht hi l g n cap xs D a m c news o p y E;exact⟨_,w',f,d,b,.inl J⟩
  .obtain⟨v',w',f,d,b⟩:=run_append_arg_grows (P:=P) w t ty e i z size bytes ht hi q l r s x ⟨g,0,V⟩ n cap xs h.1 (D.cells J) a m c news o p zo A B;exact⟨v',w',f,abr d C,⟨b.os,b.tape,b.output,b.size,(by grind [World.grownBy.block])⟩,.inr fun k hk=>(d.lt k hk).1⟩
def aj6{P:Program}{ops:Array Oper}{o:Oper}{K:Act->Z->Prop}{Q:Exit->Act->Z->Prop}{E:Prop}
  (N:o.guard=V) (s x:Operand) (t:TypeId)
  (d:o.op = .call { callee:=.builtin .append,args:=#[s,x],argTypes:=#[t,t] })
  (base:Nat) (e:TypeId) (i:TypeInfo) (z:Y) (size bytes:Nat) (ht:P.underlying t=O (.slice e)) (hi:P.info? e=O i) (f:i.zero=O z)
  (g:i.size=size) (l:i.bytes=bytes) (p:z.cells.size=size) (q:0<size)
  (v:Y) (n:Nat) (xs:List Y) (r:a.eval s=v) (y:w.ownsRow base e size v n xs)
  (b:Addr) (m c:Nat) (news:List Y) (hx:a.eval x = .slice (O b) m c) (A:news.length=m*size) (B:∀ j u,news[j]?=O u->w.cell? (b.add j)=O u) (C:∀ u∈news,u.oneCell'=G)
  (D:n+m<=maxLen) (F:(n+m)*bytes<=140737488355328) (H:base<=w.heap.size)
  (h:∀ v' w',w'.ownsRow base e size v' (n+m) (xs++news)->w.grownBy w' v.ownBlock->(v'.ownBlock=v.ownBlock\/∀ k,v'.ownBlock=O k->w.heap.size<=k)->K (a.put o.dst v') w') :
  if a4M o (yielded ops a.tmps)=G then Oper.wp P o a w K Q else E:=by
 rw[zip (by grind [a4M])];obtain⟨v',w',hr,I,L,M⟩:=S0 (P:=P) w base t o.type e i z size bytes ht hi f g l p q v n xs y b m c news A B C D F H;unfold Oper.wp execOp;simp only[d,resolve,invoke,builtin,a3X,a4y,a3W,List.map_toArray,a4K,List.map_nil,r,hx,hr];exact h v' w' I L M
def S2{P:Program}{ops:Array Oper}{rest:List Oper}{o:Oper}{Q:Exit->Act->Z->Prop}(d:o.guard=V)(s x:Operand)(t:TypeId)
  (f:o.op = .call { callee:=.builtin .append,args:=#[s,x],argTypes:=#[t,t] })
  (base:Nat) (e:TypeId) (i:TypeInfo) (z:Y) (size bytes:Nat) (ht:P.underlying t=O (.slice e)) (hi:P.info? e=O i) (g:i.zero=O z)
  (l:i.size=size) (p:i.bytes=bytes) (q:z.cells.size=size) (r:0<size)
  (v:Y) (n:Nat) (xs:List Y) (y:a.eval s=v) (A:w.ownsRow base e size v n xs)
  (b:Addr) (m c:Nat) (news:List Y) (hx:a.eval x = .slice (O b) m c) (B:news.length=m*size) (C:∀ j u,news[j]?=O u->w.cell? (b.add j)=O u) (D:∀ u∈news,u.oneCell'=G)
  (E:n+m<=maxLen) (F:(n+m)*bytes<=140737488355328) (H:base<=w.heap.size)
  (h:∀ v' w',w'.ownsRow base e size v' (n+m) (xs++news)->w.grownBy w' v.ownBlock->(v'.ownBlock=v.ownBlock\/∀ k,v'.ownBlock=O k->w.heap.size<=k)->wpList P ops Q rest (a.put o.dst v') w'):wpList P ops Q (o::rest) a w:=
 wpList_plain d fun K I=>by
  obtain⟨v',w',hr,L,M,N⟩:=S0 (P:=P) w base t o.type e i z size bytes ht hi g l p q r v n xs A b m c news B C D E F H;unfold Oper.wp execOp;simp only[f,resolve,invoke,builtin,a3X,a4y,a3W,List.map_toArray,a4K,List.map_nil,y,hx,hr];exact I _ _ zg
def exists_least{p:Nat->Prop}:∀ n,p n->∃ m,p m/\∀ k,p k->m<=k:=by
 intro n;induction n using Nat.strongRecOn with
 | _ n ih=>
  grind
open Classical in
noncomputable def least (I:Nat->Act->Z->Prop) (a:Act) (w:Z):Nat:=
 if h:∃ n,I n a w then Classical.choose (exists_least (p:=fun n=>I n a w) _ (Classical.choose_spec h)) else 0
def aj7{I:Nat->Act->Z->Prop}(h:∃ n,I n a w):I (least I a w) a w:=by
 unfold least;grind
def least_le{I:Nat->Act->Z->Prop}(h:I n a w):least I a w<=n:=by
 unfold least;rw[dif_pos ⟨n,h⟩];grind
def wp_loop_ghost{P:Program}{Q:Exit->Act->Z->Prop}{c:Code}(I:Nat->Act->Z->Prop)(b:∃ n,I n a w)
  (round:∀ n a w,I n a w->c.wp P (Exit.then (fun a' w'=>∃ m,m<n/\I m a' w') Q) a w):(Code.loop c).wp P Q a w:=
 wp_loop (fun a w=>∃ n,I n a w) (least I) b fun a w h=>
  wp_mono (round _ a w (aj7 h)) fun e a' w' d=>by
   cases e with
   | normal=>obtain⟨m,hm,hi⟩:=d;exact⟨⟨m,hi⟩,Nat.lt_of_le_of_lt (least_le hi) hm⟩
   | _=>exact d
def avy{P:Program}{Q:Exit->Act->Z->Prop}{c rest:Code}(l:Nat)(b:Nat->Act->Z->Prop)(f:findLabel c l=O rest)
  (first:c.wp P (a7s l (fun a w=>∃ n,b n a w) Q) a w)
  (pass:∀ n a w,b n a w->rest.wp P (a7s l (fun a' w'=>∃ m,m<n/\b m a' w') Q) a w):(Code.scope c).wp P Q a w:=
 wp_scope_jumps l (fun a w=>∃ n,b n a w) (least b) f first fun a w h=>
  wp_mono (pass _ a w (aj7 h)) fun e a' w' d=>by
   cases e with
   | goto l'=>obtain⟨e,m,hm,hi⟩:=d;exact⟨e,⟨m,hi⟩,Nat.lt_of_le_of_lt (least_le hi) hm⟩
   | _=>exact d
def avz{P:Program}{Q:Exit->Act->Z->Prop}{c rest:Code}(l:Nat)(b:Nat->Act->Z->Prop)(f:findLabel c l=O rest)
  (first:(∀ n a w,b n a w->rest.wp P (a7s l (fun a w=>∃ n,b n a w) Q) a w)->c.wp P (a7s l (fun a w=>∃ n,b n a w) Q) a w)
  (pass:∀ n a w,b n a w->rest.wp P (a7s l (fun a' w'=>∃ m,m<n/\b m a' w') Q) a w):(Code.scope c).wp P Q a w:=
 avy l b f (first fun n a w h=>wp_mono (pass n a w h) fun e a' w' d=>by
  cases e with
  | goto l'=>obtain⟨e,m,_,hi⟩:=d;exact⟨e,m,hi⟩
  | _=>exact d) pass
def avA{l:Nat}{b:Act->Z->Prop}{Q:Exit->Act->Z->Prop}:a7s l b Q .ret a w=Q .ret a w:=rfl
abbrev bs(l:P.Bs):ByteArray:=⟨l.toArray⟩
namespace Sx
open Go
def avB{C:mO}{o:Oper}{e:Env}{s:Sem Y}{next:Env->Prop}{next':Act->Prop}
  (b:execOp a.eval o=(do pure (.value (<- s)))) (c:∀ v,next (e.put o.dst v)->next' (a.put o.dst v))
  (h:RD C.P s w (pU C o fun v=>next (e.put o.dst v)) (fun _ _=>False)):o.still C.P a w next':=by
 unfold Oper.still;rw[b,SS];unfold RD at h;cases hr:s.run C.P w with
 | ok v w'=>
  rw[hr] at h;obtain⟨rfl,h⟩:=h;exact⟨J,SU (K:=fun v=>next (e.put o.dst v)) (K':=fun v=>next' (a.put o.dst v)) zg h⟩
 | halt x w'=>
  grind
theorem S4{P:Program}{o:Oper}{next':Act->Prop}
  (b:execOp a.eval o=pure (.value v)) (h:next' (a.put o.dst v)):o.still P a w next':=by
 unfold Oper.still;rw[b];exact⟨J,h⟩
def aj8{C:mO}(b:Good C){vs:List Nat}{o:Oper}{e:Env}{next:Env->Prop}{next':Act->Prop}
  (hr:Rel vs a e) (f:∀ v,next (e.put o.dst v)->next' (a.put o.dst v)) (h:sQ C o e w next):o.still C.P a w next':=by
 have he:=hr.eval;unfold sQ at h;split at h
 .rename_i x d;exact S4 (by rw[he];grind [execOp]) (f _ h)
 .rename_i x d;exact S4 (by rw[he];grind [execOp]) (f _ h)
 .rename_i c x y d;split at h
  .rename_i g;exact S4 (v:=e.eval x) (by rw[he];unfold execOp;rw[d];simp only[g];rfl) (f _ h)
  .rename_i g;exact S4 (v:=e.eval y) (by rw[he];unfold execOp;rw[d];simp only[g];rfl) (f _ h)
  grind
 .rename_i x d;obtain⟨i,j⟩:=abi d h;grind [S4]
 .rename_i k args DR d;split at h
  .rename_i hk;unfold Oper.still;have:(execOp a.eval o).run C.P w = .ok (.enter k (j5 e args)) w:=by
    rw[he];unfold execOp;rw[d];simp only[resolve,Kl,Env.eval,Deferred.ofValue,Array.empty_append];show(callFunc k (j5 e args++#[])).run C.P w=_;rw[Array.append_empty];exact SV (b.calls k hk) _ _
   rw[this];obtain⟨v,i,j⟩:=h;exact⟨J,v,i,SU (K:=fun v=>next (e.put o.dst v)) (K':=fun v=>next' (a.put o.dst v)) zg j⟩
  grind
 .split at h
  .rename_i s l;exact avB (by grind [abg]) f h
  grind
structure kW(us:List Nat)(n:Bool)(e e':Env):Prop where
 get:∀ i,i ∉ us->e'.f i=e.f i
 defs:n=G->e'.defers=e.defers
theorem kW.refl(vs:List Nat)(n:Bool)(a:Env):kW vs n a a:=⟨zg,zg⟩
theorem kW.trans{vs:List Nat}{n m:Bool}{a b c:Env}(h:kW vs n a b)(k:kW us m b c):kW (vs++us) (n && m) a c:=
 ⟨fun i hi=>by simp only[a3Z,not_or] at hi;rw[k.get i hi.2,h.get i hi.1],fun e=>by
  simp only[a39] at e;rw[k.defs e.2,h.defs e.1]⟩
theorem kW.mono{vs:List Nat}{n m:Bool}{a b:Env}(h:kW vs n a b)(hv:∀ i∈vs,i∈us)(c:m=G->n=G):kW us m a b:=
 ⟨(by grind [get]),(by grind [defs])⟩
theorem aj9(f:Nat->Y)(h:i≠d)(v:Y):Kk f d v i=f i:=by
 grind [Kk,Nat.beq,absurd,a6k]
theorem kW.put{vs:List Nat}{n:Bool}{a b:Env}(h:kW vs n a b){d:Option Nat}(c:∀ t,d=O t->t∈vs)(v:Y):kW vs n a (b.put d v):=by
 cases d with
 | none=>exact h
 | some t=>
  refine⟨fun i hi=>?_,h.defs⟩;have:i≠t:=zg;show Kk b.f t v i=_;grind [aj9,get]
def kW.next{n:Bool}{a b c:Env}{o:Oper}(h:kW us n a b)(f:∀ t,o.dst=O t->t∈us)(g:n=G->xN o=ae)
  (e:∃ v,c=b.put o.dst v\/∃ d,xN o=G/\c=({ b with defers:=d::b.defers }:Env).put o.dst v):kW us n a c:=by
 obtain⟨v,rfl | ⟨d,hid,rfl⟩⟩:=e
 .grind [put]
 .have i:kW us n a { b with defers:=d::b.defers }:=⟨h.get,zg⟩;grind [put]
def Ko(x:Exit)(vs:List Nat)(a:Act)(e:Env):Prop:=
 match x with
 | .panic _=>Rel [] a e
 | _=>Rel vs a e
def wQ(x:Exit)(us:List Nat)(n:Bool)(e0 e:Env):Prop:=
 match x with
 | .panic _=>n=G->e.defers=e0.defers
 | _=>kW us n e0 e
def Rel.avC{vs:List Nat}{e:Env}(h:Rel vs a e):Rel [] a e:=⟨h.get,h.defs,zg⟩
theorem Ko.of{x:Exit}{vs:List Nat}{e:Env}(h:Rel vs a e):Ko x vs a e:=by cases x<;>first | exact h | exact h.avC
theorem Ko.get{x:Exit}{vs:List Nat}{a:Act}{e:Env}(h:Ko x vs a e):∀ i,a.tmps.getD i undef=e.f i:=by cases x<;>exact Rel.get h
theorem Ko.defs{x:Exit}{vs:List Nat}{a:Act}{e:Env}(h:Ko x vs a e):a.defers=e.defers:=by cases x<;>exact Rel.defs h
theorem wQ.of{x:Exit}{n:Bool}{e0 e:Env}(h:kW us n e0 e):wQ x us n e0 e:=by cases x<;>first | exact h | exact h.defs
theorem wQ.defs{x:Exit}{us:List Nat}{n:Bool}{e0 e:Env}(h:wQ x us n e0 e)(a:n=G):e.defers=e0.defers:=by
 cases x with
 | panic b=>exact h a
 | _=>exact kW.defs h a
theorem wQ.trans{x:Exit}{vs us:List Nat}{n m:Bool}{a b c:Env}(h:kW vs n a b)(k:wQ x us m b c):wQ x (vs++us) (n && m) a c:=by
 cases x with
 | panic d=>exact fun e=>by simp only[a39] at e;exact(k e.2).trans (h.defs e.1)
 | _=>exact kW.trans h k
theorem wQ.mono{x:Exit}{vs us:List Nat}{n m:Bool}{a b:Env}(h:wQ x vs n a b)(hv:∀ i∈vs,i∈us)(c:m=G->n=G):wQ x us m a b:=by
 cases x with
 | panic d=>exact fun e=>h (c e)
 | _=>exact kW.mono h hv c
abbrev Po(vs us:List Nat)(n:Bool)(e0:Env)(Q:Exit->Env->Z->Prop):Exit->Act->Z->Prop:=fun x a' w'=>∃ e',Ko x vs a' e'/\wQ x us n e0 e'/\Q x e' w'
def abt{C:mO}(b:Good C){ops:Array Oper}{Q:Exit->Env->Z->Prop}{vs us:List Nat}{n:Bool}{e0:Env}(hv:∀ i∈us,i∈vs):∀ (l:List Oper) (a:Act) (e:Env) (w:Z),
  (∀ o∈l,∀ t,o.dst=O t->t∈us)->(n=G->∀ o∈l,xN o=ae)->Rel vs a e->kW us n e0 e->xM C ops Q l e w ->
  wpList C.P ops (Po vs us n e0 Q) l a w
 | [],a,e,w,_,_,hr,c,h=>⟨e,hr,c,h⟩
 | o::l,a,e,w,f,k,hr,c,h=>by
  have ih:=fun a e w=>abt b (ops:=ops) (Q:=Q) (vs:=vs) (us:=us) (n:=n) (e0:=e0) hv l a e w zg zg;have d:=f o (a3S ..);unfold xM at h;unfold wpList;rw[hr.yield];split at h
  .rename_i hw;rw[zip hw];exact .inl (abj b hr zg (fun e' a' w' g _ j hx=>ih a' e' w' g (c.next d zg j) hx) (by grind [Ko.of,wQ.of,panic]) h)
  .rename_i hw;rw[bU (by simp [hw])];exact ih _ _ _ (hr.put (fun t ht=>hv t (d t ht)) _) (c.put d _) h
def aka{C:mO}(b:Good C){ops:Array Oper}{w:Z}{Q:Env->Prop}{vs us:List Nat}{n:Bool}{e0:Env}(hv:∀ i∈us,i∈vs):∀ (l:List Oper) (a:Act) (e:Env),
  (∀ o∈l,∀ t,o.dst=O t->t∈us)->Rel vs a e->kW us n e0 e->Bk C ops w Q l e ->
  wpStill C.P ops w (fun a'=>∃ e',Rel vs a' e'/\kW us n e0 e'/\Q e') l a
 | [],a,e,_,hr,c,h=>⟨e,hr,c,h⟩
 | o::l,a,e,f,hr,c,h=>by
  have ih:=fun a e=>aka b (ops:=ops) (w:=w) (Q:=Q) (vs:=vs) (us:=us) (n:=n) (e0:=e0) hv l a e zg;have d:=f o (a3S ..);unfold Bk at h;unfold wpStill;rw[hr.yield];split at h
  .rename_i hw;rw[zip hw];exact aj8 b hr (fun v hx=>ih _ _ (hr.put (fun t ht=>hv t (d t ht)) v) (c.put d v) hx) h
  .rename_i hw;rw[bU (by simp [hw])];exact ih _ _ (hr.put (fun t ht=>hv t (d t ht)) _) (c.put d _) h
theorem S5(l:List Oper)(o:Oper)(a:o∈l)(t:Nat)(ht:o.dst=O t):t∈rh l:=by
 induction l with
 | nil=>grind
 | cons x l ih=>
  grind [rh,a3S,List.mem_cons_of_mem]
def avD{l:List Oper}{n:Bool}(h:n=(l.all fun o=>!xN o)):n=G->∀ o∈l,xN o=false:=by
 grind
def avE{C:mO}(b:Good C){id:Nat}{ops:Array Oper}{Q:Exit->Env->Z->Prop}{vs:List Nat}{e:Env}(hv:∀ i∈rh ops.toList,i∈vs)(hr:Rel vs a e)(h:xM C ops Q ops.toList e w) :
  (Code.region id ops ae).wp C.P (Po vs (rh ops.toList) (ops.toList.all fun o=>!xN o) e Q) a w:=
 wp_region_list (abt b hv ops.toList a e w (S5 _) (avD J) hr (kW.refl _ _ _) h)
def avF{C:mO}(b:Good C){id:Nat}{ops:Array Oper}{Q:Exit->Env->Z->Prop}{vs:List Nat}{e:Env}(hv:∀ i∈rh ops.toList,i∈vs)(hr:Rel vs a e)(hd:Xc ops n=G)
  (h:Bk C ops w.drew (fun a'=>xM C ops Q (ops.toList.drop n) a' w.drew) (ops.toList.take n) e) :
  (Code.region id ops G).wp C.P (Po vs (rh ops.toList) (ops.toList.all fun o=>!xN o) e Q) a w:=by
 have h1:=aka b (us:=rh ops.toList) (n:=ops.toList.all fun o=>!xN o) (e0:=e) hv (ops.toList.take n) a e (by grind [S5,List.mem_of_mem_take]) hr (kW.refl _ _ _) h;unfold Xc at hd;have e:ops=ops.toList.toArray:=zs;split at hd
 .rename_i hn;refine wp_region_still b.mixed hd ?_;have ht:ops.toList.take n=ops.toList:=(by grind [List.take_of_length_le]);have hdp:ops.toList.drop n=[]:=zg;rw[ht,hdp] at h1;exact h1
 .rw[e] at hd ⊢;refine wp_region_still_tail n b.mixed hd ?_;refine abu (fun a' hx=>?_) _ _ h1;obtain⟨e',mm,qG,hx⟩:=hx;exact abt b hv (ops.toList.drop n) a' e' _ (by grind [S5,List.mem_of_mem_drop]) zg mm qG hx
where
 abu {P:Program} {ops:Array Oper} {w:Z} {Q Q':Act->Prop} (hq:∀ a,Q a->Q' a):∀ (l:List Oper) (a:Act),wpStill P ops w Q l a->wpStill P ops w Q' l a
  | [],a,h=>hq a h
  | o::l,a,h=>by
   unfold wpStill at h ⊢;split
   .rename_i hw;rw[zip hw] at h;exact Oper.still_mono (fun a hx=>abu hq l a hx) h
   .rename_i hw;rw[bU hw] at h;exact abu hq l _ h
def akb{C:mO}{vs:List Nat}{o:Oper}{e:Env}{S:Z->Prop}{next:Env->Prop}{ops:Array Oper}(hr:Rel vs a e)(hw:a4M o (yielded ops a.tmps)=G)(h:sS C o e S next) :
  ∃ v,YieldsIf C.P ops S o v a/\next (e.put o.dst v):=by
 have he:=hr.eval;unfold sS at h;split at h
 .rename_i x b;exact⟨_,.inl ⟨hw,fun w _=>by rw[he];unfold execOp;rw[b];rfl⟩,h⟩
 .rename_i x b;exact⟨_,.inl ⟨hw,fun w _=>by rw[he];unfold execOp;rw[b];rfl⟩,h⟩
 .rename_i c x y b;split at h
  .rename_i g;exact⟨e.eval x,.inl ⟨hw,fun w _=>by rw[he];unfold execOp;rw[b];simp only[g];rfl⟩,h⟩
  .rename_i g;exact⟨e.eval y,.inl ⟨hw,fun w _=>by rw[he];unfold execOp;rw[b];simp only[g];rfl⟩,h⟩
  grind
 .rename_i x b;obtain⟨d,f⟩:=abi b h;exact⟨_,.inl ⟨hw,fun w _=>by rw[he,d];rfl⟩,f⟩
 .split at h
  .rename_i s i;obtain⟨v,d,f⟩:=h;exact⟨v,.inl ⟨hw,fun w j=>by rw[he,abg i,SS,d w j]⟩,SU (K:=fun v=>next (e.put o.dst v)) (fun _ h=>h) f⟩
  .split at h
   .rename_i s i;obtain⟨v,d,f⟩:=h;exact⟨v,.inl ⟨hw,fun w j=>by rw[he,ajX (avk i),SS,d w j]⟩,f⟩
   grind
theorem S6:∀ {l:List Nat} {t:Nat},t∈l->rN t l=G
 | j::r,t,h=>by
  unfold rN;cases a:Nat.beq t j
  .rw[cond_false];rcases a3T.1 h with h | h
   .subst h;simp at a
   .exact S6 h
  .rfl
abbrev Xi(dl vs us:List Nat)(n:Bool)(e0:Env)(Q:Exit->Env->Z->Prop)(x:Exit)(a:Act)(w:Z):Prop:=
 match x with
 | .panic b=>(n=G->a.defers=e0.defers)/\∀ f,(∀ t,rN t dl=ae->f t=a.tmps.getD t undef)->Q (.panic b) ⟨f,a.defers⟩ w
 | x=>Po vs us n e0 Q x a w
def Xj{vs:List Nat}{n:Bool}{e0:Env}{Q:Exit->Env->Z->Prop}{c:List PanicEntry}{d:Option Nat}(e:∀ t,d=O t->rN t fz=G)(h:Xi fz vs us n e0 Q (.panic c) (a.put d v) w):Xi fz vs us n e0 Q (.panic c) a w:=by
 cases d with
 | none=>exact h
 | some t0=>
  refine⟨h.1,fun f b=>h.2 f fun t ht=>?_⟩;have g:t≠t0:=zg;rw[b t ht];simp only[Act.put,a5c];grind
def akc{C:mO}(b:Good C){ops:Array Oper}{Q:Exit->Env->Z->Prop}{S:Z->Prop}{m:Option Nat}{vs us:List Nat}{n:Bool}{e0:Env}(hv:∀ i∈us,i∈vs)(k:Region.noSelect ops=G)
  (H:∀ (i:Nat) (o:Oper),ops[i]?=O o->∀ t,o.dst=O t->t∈us) (N:∀ (i:Nat) (o:Oper),ops[i]?=O o->∀ t,o.dst=O t->t∈rh ops.toList) (R:n=G->∀ (i:Nat) (o:Oper),ops[i]?=O o->xN o=ae) :
  ∀ (l:List Nat) (listed:Array Bool) (a:Act) (e:Env) (w:Z),Rel vs a e->kW us n e0 e->(uF m listed=G->S w)->mV C ops Q S m l listed e w ->
   Km C.P .any ops (Xi (rh ops.toList) vs us n e0 Q) S m l.length listed a w
 | [],listed,a,e,w,hr,q,p,h=>by
  unfold mV at h;split at h
  .rename_i r;exact⟨r,e,hr,q,h⟩
  grind
 | i::l,listed,a,e,w,hr,q,p,h=>by
  have ih:=akc b (Q:=Q) (S:=S) (m:=m) (vs:=vs) (us:=us) (n:=n) (e0:=e0) hv k H N R l;unfold mV at h;split at h
  .grind
  .rename_i o d;have I:=H i o d;have T:∀ v,Rel vs (a.put o.dst v) (e.put o.dst v):=(by grind [Rel.put]);have mg:∀ v,kW us n e0 (e.put o.dst v):=(by grind [kW.put]);rw[<- hr.yield] at h;split at h
   .rename_i r;have r:Region.ready .any ops listed=[i]:=zg;refine⟨zg,fun j L=>?_⟩;have Xe:=(mem_ready.1 L).1;rw[r] at L;have:j=i:=zg;subst this;have U:uF m (listed.setIfInBounds j G)=G->uF m listed=true:=fun M=>by
     cases m with
     | none=>rfl
     | some m=>
      simp only[uF,Bool.not_eq_true'] at M ⊢;by_cases y:j=m
      .grind
      .rw[getD_set_ne G y] at M;omega
    unfold wpOp;rw[d];dsimp only;split at h
    .grind
    .rename_i hw;rw[zip hw];refine .inl ?_;split at h
     .refine Oper.wp_of_still (K:=fun a'=>(uF m (listed.setIfInBounds j G)=G->S w)/\Km C.P .any ops (Xi (rh ops.toList) vs us n e0 Q) S m l.length (listed.setIfInBounds j G) a' w) zg (aj8 b hr (fun v hx=>?_) h);grind
     .split at h
      .exact abj b hr zg (fun e' a' w' z _ A hx=>⟨zg,ih _ _ _ _ z (q.next I zg A) zg hx.2⟩) (fun W w' hx=>⟨fun B=>by rw[hr.defs];grind [kW.defs],fun f D=>by
        rw[hr.defs];have hx:=hx f;have B:(fun t=>cond (rN t (rh ops.toList)) (f t) (e.f t))=f:=funext fun t=>by
         cases hm:rN t (rh ops.toList)
         .rw[cond_false,D t hm,hr.get]
         .rfl
        grind⟩) h
      .rename_i rm;exact abj b hr zg (fun e' a' w' z _ A hx=>⟨zg,ih _ _ _ _ z (q.next I zg A) zg hx⟩) (fun W w' hx=>⟨fun B=>by rw[hr.defs];grind [kW.defs],fun f D=>by
        rw[hr.defs];have hx:=hx f;have B:(fun t=>cond (rN t (rh ops.toList)) (f t) (e.f t))=f:=funext fun t=>by
         cases hm:rN t (rh ops.toList)
         .rw[cond_false,D t hm,hr.get]
         .rfl
        grind⟩) h
   .split at h
    .grind
    .rename_i E;simp only[a39] at E;have s:i∈Region.ready .any ops listed:=zg;have u:=Region.free_spec d E.1.2;rcases avv E.2 with⟨g,c2,c3⟩| ⟨g,c2⟩
     .split at h
      .rename_i hw;exact ajZ d (a6o k) (fun c a w h=>Xj (by grind [S6]) h) g l.length listed a w u c2 s (.inr ⟨hw,J⟩) (p c3) zg
      .rename_i hw;obtain⟨v,F,hx⟩:=akb (ops:=ops) hr hw h;exact ajZ d (a6o k) (fun c a w h=>Xj (by grind [S6]) h) g l.length listed a w u c2 s F (p c3) zg
     .have U:uF m (listed.setIfInBounds i G)=uF m listed:=by
       cases m with
       | none=>rfl
       | some m'=>simp only[uF];rw[getD_set_ne G (g m' J)]
      split at h
      .rename_i hw;exact aj1 d (a6o k) (fun c a w h=>Xj (by grind [S6]) h) g l.length listed a w u s (.inr ⟨hw,J⟩) p zg
      .rename_i hw;obtain⟨x,X⟩:∃ x,o.op = .move x:=by
        grind [abe]
       have h':sS C o e (fun _=>True) (fun a'=>mV C ops Q S m l (listed.setIfInBounds i G) a' w):=by
        grind [sS]
       obtain⟨v,F,hx⟩:=akb (ops:=ops) hr hw h';exact aj1 d (a6o k) (fun c a w h=>Xj (by grind [S6]) h) g l.length listed a w u s F p zg
def avH{C:mO}(b:Good C){id:Nat}{ops:Array Oper}{Q:Exit->Env->Z->Prop}{vs:List Nat}{e:Env}(hv:∀ i∈rh ops.toList,i∈vs)(hr:Rel vs a e)(c:(fz.length == ops.size && Region.noSelect ops)=G)
  (h:HD fun S=>S w.drew/\mV C ops Q S (syn m) fz (Array.replicate ops.size ae) e w.drew) :
  (Code.region id ops G).wp C.P (Po vs (rh ops.toList) (ops.toList.all fun o=>!xN o) e Q) a w:=by
 simp only[a39,beq_iff_eq] at c;obtain⟨S,g,h⟩:=h;have hm:∀ (i:Nat) (o:Oper),ops[i]?=O o->o∈ops.toList:=zg;have d:=akc b (us:=rh ops.toList) (n:=ops.toList.all fun o=>!xN o) (e0:=e) hv c.2 (by grind [S5]) (by grind [S5]) zg fz _ a e _ hr (kW.refl _ _ _) zg h;rw[c.1] at d;refine wp_mono (wp_region_any b.mixed (ajY _ _ _ _ d)) fun x a' w' f=>?_;cases x with
 | panic j=>exact⟨⟨fun i=>a'.tmps.getD i undef,a'.defers⟩,⟨zg,J,zg⟩,f.1,zg⟩
 | _=>exact f
theorem abv(i:Nat):∀ l:List Nat,rN i l=G↔i∈l
 | []=>by simp [rN]
 | j::r=>by
  unfold rN;cases a:Nat.beq i j
  .rw[cond_false,abv i r,a3T];have:i≠j:=fun e=>by subst e;simp at a
   grind
  .rw[cond_true];grind [a6k]
def abw{a a':Env}{vs:List Nat}(h:kW vs G a a')(live:List Nat) :
  fr a vs live (jo (An a' live)) a'.f=a':=by
 have c:∀ (l:List Nat) (i:Nat),i∈l->jo (An a' l) i=a'.f i:=by
  intro l i;induction l with
  | nil=>grind
  | cons j r ih=>
   intro hx;simp only[An,a4K,jo];by_cases e:j=i
   .grind
   .rw[bU e];rcases a3T.1 hx with hx | hx
    .omega
    .exact ih hx
 have b:=h.defs J;cases a' with
 | mk f' df=>
 cases a with
 | mk f0 d=>
 simp only at b c;subst b;simp only[fr]
 congr 1
 funext i
 unfold SR;cases g:rN i live
 .rw[cond_false];cases k:rN i vs
  .rw[cond_false];exact(h.get i (by grind [abv])).symm
  grind
 .rw[cond_true];grind [abv]
def Kq{K:Env->Prop}:∀ (l:List Nat) (a:Env),qC l a K->K a
 | [],_,h=>h
 | i::r,a,h=>by
  have key:∀ c:Bool,a.f i = .bool c->a.put (O i) (.bool c)=a:=by
   intro c b;cases a with
   | mk f df=>
   simp only at b;simp only[Env.put]
   congr 1
   grind [Kk,Nat.beq,aj9]
  unfold qC BS at h;split at h
  .rename_i c b;cases c
   .have:=Kq r _ (h.2 J);grind
   .have:=Kq r _ (h.1 J);grind
  grind
def ake{vs:List Nat}{n:Bool}{e0:Env}{Q:Exit->Env->Z->Prop}{x:Exit}(h:Po vs us n e0 Q x a w)(hv:∀ i∈us,i∈fz)(b:GN=G->n=G):Po vs fz GN e0 Q x a w:=by
 grind [wQ.mono]
def Bo{C:mO}(g:Good C){vs:List Nat}:∀ (c:Code) (Q:Exit->Env->Z->Prop) (a:Act) (e:Env) (w:Z),(∀ i∈wr c,i∈vs)->Rel vs a e->gx C c Q e w ->
  c.wp C.P (Po vs (wr c) (nd c) e Q) a w
 | .skip,Q,a,e,w,hv,hr,h=>wp_skip ⟨e,hr,kW.refl _ _ _,h⟩
 | .region id ops draw,Q,a,e,w,hv,hr,h=>by
  unfold gx at h;cases draw with
  | false=>exact avE g hv hr h
  | true=>
   dsimp only at h;split at h
   .grind
   .split at h
    .rename_i T;exact avH g hv hr T h
    grind
   .split at h
    .rename_i U;exact avF g hv hr U h
    grind
 | .seq x y,Q,a,e,w,hv,hr,h=>by
  have q:∀ i∈wr x,i∈vs:=fun i hi=>hv i (a3Z.2 (.inl hi));have r:∀ i∈wr y,i∈vs:=fun i hi=>hv i (a3Z.2 (.inr hi));have s:nd (.seq x y)=G->nd x=true:=fun e=>by simp only[nd,a39] at e;grind
  unfold gx at h;split at h
  .refine wp_seq (wp_mono (Bo g x _ a e w q hr h) fun z a' w' j=>?_);obtain⟨e',o,k,j⟩:=j;cases z with
   | normal=>
    refine wp_mono (Bo g y Q a' e' w' r o j) fun z u N p=>?_;obtain⟨A,B,D,p⟩:=p;exact⟨A,B,wQ.trans k D,p⟩
   | _=>exact⟨e',o,k.mono (fun i hi=>a3Z.2 (.inl hi)) s,j⟩
  .rename_i live hj;split at h
   .rename_i H;split at h
    .unfold JN at h;refine wp_seq (wp_mono (Bo g x _ a e w q hr h) fun z a' w' j=>?_);obtain⟨e',o,k,j⟩:=j;cases z with
     | normal=>
      have E:=k;rw[H] at E;have j:=j e'.f;have j:=Kq _ _ j;rw[abw E live] at j;refine wp_mono (Bo g y Q a' e' w' r o j) fun z u N p=>?_;obtain⟨A,B,D,p⟩:=p;exact⟨A,B,wQ.trans k D,p⟩
     | _=>exact⟨e',o,k.mono (fun i hi=>a3Z.2 (.inl hi)) s,j⟩
    .unfold JS at h;obtain⟨d,h,W⟩:=h;refine wp_seq (wp_mono (Bo g x _ a e w q hr h) fun z a' w' j=>?_);obtain⟨e',o,k,j⟩:=j;cases z with
     | normal=>
      have E:=k;rw[H] at E;have j:=W _ _ j e'.f;have j:=Kq _ _ j;rw[abw E live] at j;refine wp_mono (Bo g y Q a' e' w' r o j) fun z u N p=>?_;obtain⟨A,B,D,p⟩:=p;exact⟨A,B,wQ.trans k D,p⟩
     | _=>exact⟨e',o,k.mono (fun i hi=>a3Z.2 (.inl hi)) s,j⟩
   grind
 | .cond c x y,Q,a,e,w,hv,hr,h=>by
  have ht:a.eval c = .bool G->gx C x Q e w->(Code.cond c x y).wp C.P (Po vs (wr (.cond c x y)) (nd (.cond c x y)) e Q) a w:=fun L h=>
   wp_cond_true L (wp_mono (Bo g x Q a e w (fun i hi=>hv i (a3Z.2 (.inl hi))) hr h) fun z a' w' j=>ake j (fun i hi=>a3Z.2 (.inl hi)) (fun e=>by simp only[nd,a39] at e;grind))
  have hf:a.eval c = .bool ae->gx C y Q e w->(Code.cond c x y).wp C.P (Po vs (wr (.cond c x y)) (nd (.cond c x y)) e Q) a w:=fun L h=>
   wp_cond_false L (wp_mono (Bo g y Q a e w (fun i hi=>hv i (a3Z.2 (.inr hi))) hr h) fun z a' w' j=>ake j (fun i hi=>a3Z.2 (.inr hi)) (fun e=>by simp only[nd,a39] at e;grind))
  unfold gx at h;rw[<- hr.eval] at h;split at h
  .unfold BS at h;split at h
   .rename_i b F;cases b with
    | true=>grind
    | false=>grind
   grind
  grind
 | .block id c,Q,a,e,w,hv,hr,h=>by
  unfold gx at h;refine wp_block (wp_mono (Bo g c _ a e w hv hr h) fun z a' w' j=>?_);obtain⟨e',o,k,j⟩:=j;cases z with
  | exit M=>
   unfold GI tid at j;dsimp only at j;cases F:Nat.beq M id with
   | true=>
    rw[F] at j;have t:M=id:=a6k F;simp only[Exit.inBlock,zip t];exact⟨e',o,k,j⟩
   | false=>
    rw[F] at j;have t:¬ M=id:=fun e=>by subst e;simp at F
    simp only[Exit.inBlock,bU t];exact⟨e',o,k,j⟩
  | _=>exact⟨e',o,k,j⟩
 | .exit id,Q,a,e,w,hv,hr,h=>wp_exit ⟨e,hr,kW.refl _ _ _,h⟩
 | .ret,Q,a,e,w,hv,hr,h=>wp_ret ⟨e,hr,kW.refl _ _ _,h⟩
 | .loop c,Q,a,e,w,hv,hr,h=>by
  unfold gx at h;split at h
  .rename_i H;obtain⟨I,⟨n0,h0⟩,X⟩:=h;refine wp_loop_ghost (fun n a' w'=>∃ e',Rel vs a' e'/\kW (wr c) G e e'/\I n (jo (An e' (C.live (II c)))) w') (by grind [kW.refl]) ?_;rintro n a1 w1 ⟨t,qH,R,hi⟩;have K:=X n _ t.f w1 hi;have K:=Kq _ _ K;rw[abw R] at K;refine wp_mono (Bo g c _ a1 t w1 hv qH K) fun z a' w' j=>?_;obtain⟨e',o,k,j⟩:=j;rw[H] at k;have S:wQ z (wr c) G e e':=(wQ.trans R k).mono zg zg;cases z with
   | normal=>
    obtain⟨m,hm,hi⟩:=j;exact⟨m,hm,e',o,S,hi⟩
   | _=>exact⟨e',o,S.mono (fun i hi=>hi) zg,j⟩
  grind
 | .rangeFunc _ _ _ _,_,_,_,_,_,_,h=>h.elim
 | .scope c,Q,a,e,w,hv,hr,h=>by
  unfold gx at h;refine wp_scope_straight (wp_mono (Bo g c _ a e w hv hr h) fun z a' w' j=>?_);obtain⟨e',o,k,j⟩:=j;cases z with
  | goto l=>exact j.elim
  | _=>exact⟨e',o,k,j⟩
 | .label l,Q,a,e,w,hv,hr,h=>wp_label ⟨e,hr,kW.refl _ _ _,h⟩
 | .goto _,_,_,_,_,_,_,h=>h.elim
 | .refuse _,_,_,_,_,_,_,h=>h.elim
def IM(P:Program):List ResultVar->Array Y->Z->List Y->(List Y->Prop)->Prop
 | [],_,_,acc,K=>K acc
 | .tmp t::rs,tm,w,acc,K=>IM P rs tm w (acc++[tm.getD t undef]) K
 | .cell a t::rs,tm,w,acc,K=>RD P (a32 t (tm.getD a undef)) w (fun v=>IM P rs tm w (acc++[v]) K) (fun _ _=>False)
def one:List Y->Y
 | [v]=>v
 | l=>aq l.toArray
def Xn(tm:Array Y):ResultVar->Sem Y
 | .tmp t=>pure (tm.getD t undef)
 | .cell a t=>do loadVar t (<- asAddr (tm.getD a undef))
def abB{P:Program}{tm:Array Y}{w:Z}:∀ (l:List ResultVar) (acc:List Y) (K:List Y->Prop),IM P l tm w acc K ->
  ∃ vs,(l.mapM (Xn tm)).run P w=Result.ok vs w/\K (acc++vs)
 | [],acc,K,h=>⟨[],J,by grind [IM]⟩
 | .tmp t::l,acc,K,h=>by
  obtain⟨vs,b,c⟩:=abB l _ K h;refine⟨tm.getD t undef::vs,?_,by simpa using c⟩;rw[List.mapM_cons];simp only[Xn,a3X,a4y,a3W];rw[b];rfl
 | .cell a t::l,acc,K,h=>by
  unfold IM RD at h;cases hr:(a32 t (tm.getD a undef)).run P w with
  | halt x w'=>grind
  | ok v w'=>
   rw[hr] at h;obtain⟨rfl,h⟩:=h;obtain⟨vs,b,c⟩:=abB l _ K h;refine⟨v::vs,?_,zg⟩;rw[List.mapM_cons];have e:(Xn tm (.cell a t)).run P w' = .ok v w':=by
    rw[<- hr];show(do loadVar t (<- asAddr (tm.getD a undef)):Sem Y).run P w'=_;unfold a32;generalize tm.getD a undef=u at *;unfold a32 at hr;cases u with
    | pointer p=>
     cases p with
     | none=>simp only[a3X] at hr;cases hr
     | some p=>rfl
    | _=>simp only[a3X] at hr;cases hr
   grind [a3X,a4y,a3W]
def Ta{P:Program}{K:List Y->Prop}(h:IM P fn.results.toList iF w [] K) :
  ∃ l,(results fn iF).run P w = .ok (one l) w/\K l:=by
 obtain⟨vs,a,c⟩:=abB _ _ _ h;refine⟨vs,?_,zg⟩;unfold results;show(Sem.bind (fn.results.mapM (Xn iF)) fun vs=>pure (if h:vs.size=1 then vs[0] else aq vs)).run P w=_;rw[Sem.run_bind',Array.mapM_eq_mapM_toList];simp only[Sem.run_map];rw[a];simp only[a3W,a4y]
 congr 1
 unfold one;split
 .rename_i b
  match vs,b with
  | [v],_=>rfl
 grind
def vu(P:Program):List ResultVar->(Nat->Y)->Z->List Y->(List Y->Prop)->Prop
 | [],_,_,acc,K=>K acc
 | .tmp t::rs,f,w,acc,K=>vu P rs f w (acc++[f t]) K
 | .cell a t::rs,f,w,acc,K=>RD P (a32 t (f a)) w (fun v=>vu P rs f w (acc++[v]) K) (fun _ _=>False)
def Nh{P:Program}{tm:Array Y}{f:Nat->Y}(h:∀ i,tm.getD i undef=f i)(w:Z):∀ (l:List ResultVar) (acc:List Y) (K:List Y->Prop),vu P l f w acc K->IM P l tm w acc K
 | [],acc,K,hk=>hk
 | .tmp t::l,acc,K,hk=>by
  unfold vu at hk;unfold IM;rw[h];exact Nh h w l _ K hk
 | .cell a t::l,acc,K,hk=>by
  unfold vu RD at hk;unfold IM RD;rw[h];cases hr:(a32 t (f a)).run P w with
  | ok v w'=>rw[hr] at hk;exact⟨hk.1,Nh h w l _ K hk.2⟩
  | halt x w'=>grind
def Kr(P:Program)(fn:Func)(R:Ending->Z->Prop):Exit->Env->Z->Prop
 | .normal,a,w | .ret,a,w=>tid (vu P fn.results.toList a.f w [] fun l=>R (ai (one l)) w)
 | .panic b,_,w=>R (.panicked b) w
 | _,_,_=>False
def P7:List Y->Nat->Y
 | [],_=>undef
 | v::_,0=>v
 | _::r,i+1=>P7 r i
def wT(args:List Y):Env:={ f:=P7 args,defers:=[] }
def akg:∀ (l:List Y) (i:Nat),P7 l i=l.getD i undef
 | [],i=>by simp [P7]
 | v::r,0=>rfl
 | v::r,i+1=>by
  unfold P7;rw[akg r i];simp
def abC{args:List Y}{vs:List Nat}(hv:vs.all (fun i=>decide (i<n))=G)(a:args.length<=n) :
  Rel vs { tmps:=args.toArray++Array.replicate (n-args.toArray.size) undef,defers:=[] } (wT args):=by
 refine⟨fun i=>?_,J,fun i hi=>?_⟩
 .show _=P7 args i;rw[akg];simp only[a5c,List.getD_eq_getElem?_getD,Array.getElem?_append];grind
 grind
def calls{C:mO}(a:Good C){f:FuncId}{c:Code}{args:List Y}(m:C.P.funcs[f]?=O fn)(n:fn.body=O c)
  (o:nd c=G) (hv:((wr c).all fun i=>decide (i<fn.ntmps))=G) (p:args.length<=fn.ntmps) (h:gx C c (Kr C.P fn R) (wT args) w):Calls C.P f args.toArray w R:=by
 refine calls_of_wp m n (wp_mono (Bo a c _ _ (wT args) w zg (abC hv p) h) fun e a' w' q=>?_);obtain⟨e',d,r,b⟩:=q;have g:a'.defers=[]:=by rw[d.defs];exact r.defs o
 cases e with
 | normal=>obtain⟨l,j,k⟩:=Ta (Nh d.get w' _ _ _ b);exact⟨g,_,j,k⟩
 | ret=>obtain⟨l,j,k⟩:=Ta (Nh d.get w' _ _ _ b);exact⟨g,_,j,k⟩
 | panic s=>exact⟨g,b⟩
 | _=>exact b.elim
def LV(P:Program)(res:Z->Prop)(R:Ending->Z->Prop):List Deferred->FrameMode->Z->Prop
 | [],.returning,w=>res w
 | [],.panicking chain,w=>R (.panicked chain) w
 | [],.run,_=>False
 | d::ds,u,w=>u≠.run/\∃ b cap f args,d.target = .fn b cap/\(invoke d.target d.args).run P w = .ok (.enter f args) w /\
  CallsD P f args u w fun
   | ai _,a,w'=>LV P res R ds (settle a) w'
   | .panicked chain,a,w'=>LV P res R ds (raised a chain) w'
   | .outgrown,_,_=>False
theorem CallsD.mono{P:Program}{f:FuncId}{args:Array Y}{u:FrameMode}{R a:Ending->FrameMode->Z->Prop}(h:CallsD P f args u w R)
  (hr:∀ e u w,R e u w->a e u w):CallsD P f args u w a:=
 fun c cs b=>let ⟨e,d,w',fr,g,i⟩:=h c cs b; zg
def Tc{P:Program}{fn:Func}{tm:Array Y}{f:Nat->Y}(a:∀ i,tm.getD i undef=f i){R:Ending->Z->Prop}:∀ (ds:List Deferred) (u:FrameMode) (w:Z),
  LV P (fun w=>vu P fn.results.toList f w [] fun l=>R (ai (one l)) w) R ds u w->Leaves P fn tm R ds u w
 | [],.returning,w,h=>by obtain⟨l,b,c⟩:=Ta (Nh a w _ _ _ h);exact⟨_,b,c⟩
 | [],.panicking _,w,h=>h
 | [],.run,w,h=>h.elim
 | d::ds,u,w,h=>by
  obtain⟨b,g,cap,f,args,c,j,k⟩:=h;refine⟨b,g,cap,f,args,c,j,CallsD.mono k fun e m w' he=>?_⟩;cases e with
  | returned v=>exact Tc a ds _ _ he
  | panicked n=>exact Tc a ds _ _ he
  | outgrown=>grind
def Nk(P:Program)(fn:Func)(R:Ending->Z->Prop):Exit->Env->Z->Prop
 | .normal,a,w | .ret,a,w=>LV P (fun w=>vu P fn.results.toList a.f w [] fun l=>R (ai (one l)) w) R a.defers .returning w
 | .panic b,a,w=>LV P (fun w=>vu P fn.results.toList a.f w [] fun l=>R (ai (one l)) w) R a.defers (.panicking b) w
 | _,_,_=>False
def avI{C:mO}(a:Good C){f:FuncId}{c:Code}{args:List Y}(g:C.P.funcs[f]?=O fn)(j:fn.body=O c)
  (hv:((wr c).all fun i=>decide (i<fn.ntmps))=G) (k:args.length<=fn.ntmps) (h:gx C c (Nk C.P fn R) (wT args) w):Calls C.P f args.toArray w R:=by
 refine calls_of_wp_defers g j (wp_mono (Bo a c _ _ (wT args) w zg (abC hv k) h) fun e a' w' l=>?_);obtain⟨e',b,m,d⟩:=l;cases e with
 | normal=>show Leaves _ _ _ _ _ _ _;rw[b.defs];exact Tc b.get _ _ _ d
 | ret=>show Leaves _ _ _ _ _ _ _;rw[b.defs];exact Tc b.get _ _ _ d
 | panic n=>show Leaves _ _ _ _ _ _ _;rw[b.defs];exact Tc b.get _ _ _ d
 | _=>exact d.elim
def avJ{C:mO}(b:Good C){f:FuncId}{c:Code}{args:List Y}{S:Prop}(e:C.P.funcs[f]?=O fn)(g:fn.body=O c)
  (j:nd c=G) (hv:((wr c).all fun i=>decide (i<fn.ntmps))=G) (k:args.length<=fn.ntmps) (d:List Nat) (he:qC d (wT args) (fun a=>gx C c (Kr C.P fn R) a w)=S) (h:S):Calls C.P f args.toArray w R:=
 calls b e g j hv k (Kq d _ (he ▸ h))
def avK{C:mO}(b:Good C){f:FuncId}{c:Code}{args:List Y}{S:Prop}(e:C.P.funcs[f]?=O fn)(g:fn.body=O c)
  (hv:((wr c).all fun i=>decide (i<fn.ntmps))=G) (j:args.length<=fn.ntmps) (d:List Nat) (he:qC d (wT args) (fun a=>gx C c (Nk C.P fn R) a w)=S) (h:S):Calls C.P f args.toArray w R:=
 avI b e g hv j (Kq d _ (he ▸ h))
def Cp{P:Program}{res:Z->Prop}{R:Ending->Z->Prop}{k:FuncId}{cap args:Array Y}{ds:List Deferred}{u:FrameMode}{w:Z}(hk:Al P k=G)(hu:u≠.run)
  (h:CallsD P k (args++cap) u w fun
   | ai _,a,w'=>LV P res R ds (settle a) w'
   | .panicked chain,a,w'=>LV P res R ds (raised a chain) w'
   | .outgrown,_,_=>False):LV P res R ({ target:=.fn (.func k) cap,args:=args }::ds) u w:=
 ⟨hu,_,_,k,args++cap,J,SV hk (args++cap) w,h⟩
def abD{P:Program}:LV P res R [] .returning w=res w:=rfl
def abE{P:Program}{a:List PanicEntry}:LV P res R [] (.panicking a) w=R (.panicked a) w:=rfl
def Xo(f:Fn)(x y:Array Y)(K:Fn->Array Y->Array Y->Prop):DF (.func f x y) K=K f x y:=rfl
def avL{C:mO}(b:Good C){f:FuncId}{c:Code}{args:List Y}{u:FrameMode}{S:Prop}(o:C.P.funcs[f]?=O fn)(p:fn.body=O c)
  (q:nd c=G) (hv:((wr c).all fun i=>decide (i<fn.ntmps))=G) (r:args.length<=fn.ntmps) (n:List Nat) (he:qC n (wT args) (fun a=>gx C c (Kr C.P fn R) a w)=S) (h:S) :
  CallsD C.P f args.toArray u w fun e s w'=>s=u/\R e w':=by
 have h:=Kq n _ (he ▸ h);refine callsD_of_wp o p (wp_mono (Bo b c _ _ (wT args) w zg (abC hv r) h) fun e a' w' t=>?_);obtain⟨e',g,x,d⟩:=t;have j:a'.defers=[]:=by rw[g.defs];exact x.defs q
 cases e with
 | normal=>obtain⟨l,k,m⟩:=Ta (Nh g.get w' _ _ _ d);exact⟨j,_,k,m⟩
 | ret=>obtain⟨l,k,m⟩:=Ta (Nh g.get w' _ _ _ d);exact⟨j,_,k,m⟩
 | panic y=>exact⟨j,d⟩
 | _=>exact d.elim
def cq{C:mO}(b:Good C){f:FuncId}{c:Code}{args:List Y}{S:Prop}(d:C.P.funcs[f]?=O fn)(e:fn.body=O c)
  (hk:(nd c && ((wr c).all fun i=>decide (i<fn.ntmps)) && Nat.ble args.length fn.ntmps)=G) (he:qC [] (wT args) (fun a=>gx C c (Kr C.P fn R) a w)=S) (h:S):Calls C.P f args.toArray w R:=by
 simp only[a39] at hk;exact avJ b d e hk.1.1 hk.1.2 (Nat.le_of_ble_eq_true hk.2) [] he h
abbrev bo(op:BinOp)(t:TypeId)(x y:Operand)(a b:Y):Sem Y:=do eqGuard op t x y a b;binOp op t a b
def GR(P:Program)(s:Sem Y)(w:Z)(K:Y->Prop)(X:Y->Z->Prop):Prop:=RD P s w K X
def WU0(P:Program)(s:Sem Unit)(w:Z)(K:Z->Prop)(X:Y->Z->Prop):Prop:=WU P s w K X
def WR0(P:Program)(s:Sem Y)(w:Z)(K:Y->Z->Prop)(X:Y->Z->Prop):Prop:=WR P s w K X
def gR{P:Program}{s:Sem Y}(h:s.run P w = .ok v w):RD P s w K X=K v:=by
 unfold RD;grind
def avM{P:Program}{s:Sem Y}(h:s.run P w = .halt (.panic v) w'):RD P s w K X=X v w':=by
 unfold RD;grind
def vw{P:Program}{s:Sem Y}{K:Y->Z->Prop}(h:s.run P w = .ok v w'):WR P s w K X=K v w':=by
 unfold WR;grind
def Td{P:Program}{s:Sem Unit}{K:Z->Prop}(h:s.run P w = .ok () w'):WU P s w K X=K w':=by
 unfold WU;grind
def jI(a:Addr)(K:Y->Prop):NC (au (O a)) K=K (au (O a)):=rfl
def abG(t:TypeId)(x:Y)(K:Y->Prop):NC (ak t x) K=K (ak t x):=rfl
def abH(f:FuncId)(x y:Array Y)(K:Y->Prop):NC (.func (.func f) x y) K=K (.func (.func f) x y):=rfl
def P8(A B:Prop):BS (.bool G) A B=A:=by simp [BS]
def P9(A B:Prop):BS (.bool ae) A B=B:=by simp [BS]
def GS{p:Prop}[Decidable p](A B:Prop)(h:p):BS (.bool (decide p)) A B=A:=by simp [BS,h]
def GU{p:Prop}[Decidable p](A B:Prop)(h:¬ p):BS (.bool (decide p)) A B=B:=by simp [BS,h]
def abI{p:Prop}[Decidable p](A B:Prop):BS (.bool (decide p)) A B=((p->A)/\(¬ p->B)):=by simp [BS]
section
variable{P:Program}{t:TypeId}{x y:Operand}{w:Z}{K:Y->Prop}{X:Y->Z->Prop}
def abJ(k:IntKind)(a b:Int):RD P (bo .add t x y (.int k a) (.int k b)) w K X=K (.int k (k.wrap (a+b))):=
 gR (by simp [bo,eqGuard,binOp,Op.intArith])
def abK(k:IntKind)(a b:Int):RD P (bo .sub t x y (.int k a) (.int k b)) w K X=K (.int k (k.wrap (a-b))):=
 gR (by simp [bo,eqGuard,binOp,Op.intArith])
def abL(k:IntKind)(a b:Int):RD P (bo .mul t x y (.int k a) (.int k b)) w K X=K (.int k (k.wrap (a*b))):=
 gR (by simp [bo,eqGuard,binOp,Op.intArith])
def abM(k:IntKind)(a b:Int):RD P (bo .lss t x y (.int k a) (.int k b)) w K X=K (.bool (decide (a<b))):=
 gR (by simp [bo,eqGuard,binOp,a7W])
def abN(k:IntKind)(a b:Int):RD P (bo .leq t x y (.int k a) (.int k b)) w K X=K (.bool (decide (a<=b))):=
 gR (by simp [bo,eqGuard,binOp,a7W])
def abO(k:IntKind)(a b:Int):RD P (bo .gtr t x y (.int k a) (.int k b)) w K X=K (.bool (decide (b<a))):=
 gR (by simp [bo,eqGuard,binOp,a7W])
def abP(k:IntKind)(a b:Int):RD P (bo .geq t x y (.int k a) (.int k b)) w K X=K (.bool (decide (b<=a))):=
 gR (by simp [bo,eqGuard,binOp,a7W])
def abQ(k:IntKind)(a b:Int):RD P (bo .eql t x y (.int k a) (.int k b)) w K X=K (.bool (decide (a=b))):=
 gR (by simp [bo,eqGuard,binOp,a7W];grind)
def abR(k:IntKind)(a b:Int):RD P (bo .neq t x y (.int k a) (.int k b)) w K X=K (.bool (decide (¬ a=b))):=
 gR (by simp [bo,eqGuard,binOp,a7W];grind)
def abS(b:Bool):RD P (Op.unary .not (.bool b)) w K X=K (.bool !b):=gR J
def abT(k:IntKind)(n:Int):RD P (Op.unary .neg (.int k n)) w K X=K (.int k (k.wrap (0-n))):=gR J
def abU(a b:List UInt8):RD P (bo .eql t x y (.string (bs a)) (.string (bs b))) w K X=K (.bool (decide (a=b))):=
 gR (by simp [bo,eqGuard,binOp,Op.stringOp];grind)
def abV(a b:List UInt8):RD P (bo .neq t x y (.string (bs a)) (.string (bs b))) w K X=K (.bool (decide (¬ a=b))):=
 gR (by simp [bo,eqGuard,binOp,Op.stringOp];grind)
end
section
variable{P:Program}{t:TypeId}{x y:Operand}{w:Z}{K:Y->Prop}{X:Y->Z->Prop}
def xP(a b:List UInt8)(h:a.length+b.length<=4294967296):RD P (bo .add t x y (.string (bs a)) (.string (bs b))) w K X=K (.string (bs (a++b))):=by
 refine gR ?_;have c:¬ (IntKind.i64.max<(((bs a).size+(bs b).size:Nat):Int)):=by
  have d:(bs a).size=a.length:=by simp [ByteArray.size]
  have f:(bs b).size=b.length:=by simp [ByteArray.size]
  have g:IntKind.i64.max=9223372036854775807:=zd;omega
 have e:bs a++bs b=bs (a++b):=by
  apply ByteArray.ext;grind [ByteArray.data_append]
 simp only[bo,eqGuard,binOp,Op.stringOp,a3X];show(if ((bs a).size+(bs b).size:Nat) > IntKind.i64.max then _ else _:Sem Y).run P w=_;rw[bU c,e];rfl
end
def bR(w:Z)(b:Nat)(o:Obj):Z:={ w with heap:=w.heap.setIfInBounds b o }
theorem vy(w:Z)(b:Nat)(o:Obj):(bR w b o).heap.size=w.heap.size:=by simp [bR]
theorem Nn{o:Obj}(h:b<w.heap.size):(w.alloc o).heap[b]?=w.heap[b]?:=by
 show(w.heap.push o)[b]?=_;grind
theorem tW{o:Obj}(h:b=w.heap.size):(w.alloc o).heap[b]?=O o:=by
 grind [blk_alloc_new]
theorem qI{o:Obj}(h:b=c)(a:b<w.heap.size):(bR w c o).heap[b]?=O o:=by
 grind [bR]
theorem jg{o:Obj}(h:¬ b=c):(bR w c o).heap[b]?=w.heap[b]?:=by
 simp [bR,Ne.symm h]
theorem Te(w:Z)(b:Nat):w.drew.heap[b]?=w.heap[b]?:=rfl
theorem Cq(w:Z):w.drew.heap.size=w.heap.size:=rfl
def vz{T:TypeId}(h:w.heap[b]?=O (ah cs T (0,0)))(v:Y):w.setCell ⟨b,o,V⟩ v=bR w b (ah (cs.setIfInBounds o v) T (0,0)):=by
 unfold a7Q bR
 congr 1
 grind
def Tf(P:Program)(T:TypeId):Bool:=
 match P.underlying T with
 | some (.struct _)=>ae
 | some (.array _ _)=>ae
 | some _=>G
 | none=>ae
def Tg(P:Program)(T:TypeId)(n:Nat):Bool:=
 (match P.underlying T with
 | some (.struct _)=>G
 | some (.array _ _)=>G
 | _=>ae) && (match P.info? T with
 | some i=>i.size == n
 | none=>ae)
def sized(P:Program)(T:TypeId)(n:Nat):Bool:=
 match P.info? T with
 | some i=>i.size == n
 | none=>ae
def Xp(x:Option Obj)(o:Nat)(K:Y->Prop)(D:Prop):RT (K,D):=
 match x with
 | some (ah cs _ _)=>(match cs[o]? with | some v=>K v | none=>D)
 | _=>D
def No(x:Option Obj)(o n:Nat)(K:Y->Prop)(D:Prop):RT (K,D):=
 match x with
 | some (ah cs _ _)=>if o+n<=cs.size then K (.agg ((cs.toList.drop o).take n).toArray) else D
 | _=>D
def pF(cs:Array Y)(o:Nat):List Y->Array Y
 | []=>cs
 | v::r=>pF (cs.setIfInBounds o v) (o+1) r
section mem
variable{P:Program}{T:TypeId}{b o:Nat}{w:Z}{K:Y->Prop}{X:Y->Z->Prop}
def abW(h:Tf P T=G)(w:Z):(isAgg T).run P w = .ok ae w:=by
 unfold Tf at h;unfold isAgg underlying;simp only[a3X,program,a56,a3W];grind [a4y,a3W]
theorem Fo(h:sized P T n=G)(w:Z):(sizeOf T).run P w = .ok n w:=by
 unfold sized at h;unfold sizeOf typeInfo;simp only[a3X,program,a56,a3W];split at h
 .rename_i i hi;rw[hi];simp only[a4y,a3W];grind
 grind
def avN(h:Tg P T n=G):sized P T n=true:=by
 unfold Tg at h;simp only[a39] at h;exact h.2
def avO(h:Tg P T n=G)(w:Z):(isAgg T).run P w = .ok G w:=by
 unfold Tg at h;simp only[a39] at h;have h:=h.1;unfold isAgg underlying;simp only[a3X,program,a56,a3W];split at h
 .rename_i a;rw[a];rfl
 .rename_i a;rw[a];rfl
 grind
def kh(a:Tf P T=G):RD P (a32 T (au (O ⟨b,o,V⟩))) w K X=Xp (w.heap[b]?) o K (GR P (a32 T (au (O ⟨b,o,V⟩))) w K X):=by
 unfold Xp;split
 .rename_i cs t z c;split
  .rename_i v hv;refine gR ?_;simp only[a32,a6V,loadVar,a3X,a4y,a3W,abW a,Bool.false_eq_true,if_false,load,a56,cellOf c hv]
  .rfl
 .rfl
def abX(a:Tg P T n=G):RD P (a32 T (au (O ⟨b,o,V⟩))) w K X=No (w.heap[b]?) o n K (GR P (a32 T (au (O ⟨b,o,V⟩))) w K X):=by
 unfold No;split
 .rename_i cs t z c;split
  .rename_i g;refine gR ?_;have d:((cs.toList.drop o).take n).length=n:=zg;have f:∀ j v,((cs.toList.drop o).take n)[j]?=O v->w.cell? ((⟨b,o,V⟩:Addr).add j)=O v:=by
    intro j v hv;rw[List.getElem?_take] at hv;split at hv
    .rw[List.getElem?_drop] at hv;have e:(⟨b,o,V⟩:Addr).add j=⟨b,o+j,V⟩:=by unfold Addr.add;split<;>simp_all
     rw[e];exact cellOf c (by simpa using hv)
    .cases hv
   have:=run_loadCells_list (P:=P) w ⟨b,o,V⟩ ((cs.toList.drop o).take n) f;rw[d] at this;simp only[a32,a6V,loadVar,a3X,a4y,a3W,avO a,if_true,Fo (avN a),this]
  .rfl
 .rfl
def akk{U:TypeId}:∀ (vs:List Y) (i:Nat) (cs:Array Y) (w:Z),w.heap[b]?=O (ah cs U (0,0))->o+i+vs.length<=cs.size->(vs.all a4V)=G ->
  (storeCells ⟨b,o,V⟩ vs i).run P w = .ok () (bR w b (ah (pF cs (o+i) vs) U (0,0)))
 | [],i,cs,w,a,_,_=>by
  have j:=bn a;have:bR w b (ah cs U (0,0))=w:=by
   unfold bR;cases w
   congr 1
   grind
  simp [storeCells,pF,this]
 | v::vs,i,cs,w,a,d,c=>by
  simp only[List.length_cons] at d;simp only[List.all_cons,a39] at c;have f:w.cell? ⟨b,o+i,V⟩=O cs[o+i]:=(by grind [cellOf]);have hu:(bR w b (ah (cs.setIfInBounds (o+i) v) U (0,0))).heap[b]?=O (ah (cs.setIfInBounds (o+i) v) U (0,0)):=qI J (bn a);have ih:=akk vs (i+1) (cs.setIfInBounds (o+i) v) _ hu zg c.2;have e:(⟨b,o,V⟩:Addr).add i=⟨b,o+i,V⟩:=by unfold Addr.add;split<;>simp_all
  have g:∀ x y,bR (bR w b x) b y=bR w b y:=by
   intro x y;unfold bR;simp
  rw[g] at ih;simp only[storeCells,a3X,e,pF];have k:(store ⟨b,o+i,V⟩ v).run P w = .ok () (bR w b (ah (cs.setIfInBounds (o+i) v) U (0,0))):=by
   rw[<- vz a];have h:=jV a (o+i);cases v<;>first | (simp [a4V] at c;done) | simp [store,a56,f,h]
  grind [a3W]
def Th(x:Option Obj)(w:Z)(b o n:Nat)(v:Y)(K:Z->Prop)(D:Prop):RT (K,D):=
 match x with
 | some (ah cs U z)=>if z=(0,0)/\v.cells.toList.length=n/\o+n<=cs.size/\(v.cells.toList.all a4V)=G then K (bR w b (ah (pF cs o v.cells.toList) U (0,0))) else D
 | _=>D
def oy(a:sized P T n=G)(v:Y){K:Z->Prop}:WU P (a5e T (au (O ⟨b,o,V⟩)) v) w K X=Th (w.heap[b]?) w b o n v K (WU0 P (a5e T (au (O ⟨b,o,V⟩)) v) w K X):=by
 unfold Th;split
 .rename_i cs U z c;split
  .rename_i h;obtain⟨rfl,e,f,d⟩:=h;refine Td ?_;have g:v.cells.size=n:=zo;have:=akk (P:=P) (b:=b) (o:=o) v.cells.toList 0 cs w c zo d;simp only[a5e,a6V,storeVar,a3X,a4y,a3W,Fo a];grind
  .rfl
 .rfl
def Au(P:Program)(T:TypeId):Option Y:=(P.info? T).bind (·.zero)
def Fp(h:Au P T=O z)(w:Z):(zeroValue T).run P w = .ok z w:=by
 unfold Au at h;unfold zeroValue typeInfo;simp only[a3X,program,a56,a3W];grind [a4y,a3W]
def Av(h:Au P T=O z){K:Y->Z->Prop}:WR P (Instr.alloc T G u) w K X=K (au (O ⟨w.heap.size,0,V⟩)) (w.alloc (ah z.cells T)):=by
 refine vw ?_;simp only[Instr.alloc,a3X,Fp h,a3W,newVar,newRow,newObj,a56,a4y];rfl
def abY{K:Y->Z->Prop}:WR P (Instr.box T v) w K X=K (au (O ⟨w.heap.size,0,V⟩)) (w.alloc (ah v.cells T)):=by
 refine vw ?_;simp only[Instr.box,a3X,a3W,newVar,newRow,newObj,a56,a4y];rfl
end mem
def yH{p:Prop}(h:p:=by grind [jg,qI,Nn,tW,Te,size_alloc,vy,Cq,bn]):p:=h
end Sx
