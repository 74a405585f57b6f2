/- A part of one proof (Base, Sx3, Sx4, SxL). -/
import Derived.Test.YtoegidfbnkaabaaGreatDoorPkKAA
import Derived.WalkKit
import Derived.Lib.Hide
import Derived.Deep.QuietTactic
import Derived.BigQuiet
import Derived.Deep.RegionLaw
set_option linter.all false
set_option maxRecDepth 100000
set_option maxHeartbeats 8000000
open Option renaming some → O, none → V
open Go renaming Value → Y, World → Z
open Bool renaming true → A, false → ae
open Go.Obj renaming cells → ah
open Go.Ending renaming returned → ai
open Go.Value renaming iface → ak, tuple → aq, pointer → au
open Go.Result renaming andThen_ok → a0K
open Go.Sem renaming run_bind → a0L, run_pure → a1n, run → a29
open List renaming mem_cons → a0N, mem_cons_self → a0O, mem_append → a0P, map_cons → a2d
open Go.Instr renaming loadAt → a0Q, storeAt → a1X, sureAddr → a4o
open Bool renaming and_eq_true → a0W
open Go.Region renaming wanted → a1y, noSelect_spec → a3d
open Go.Value renaming oneCell' → a1I
open Array renaming getD_eq_getD_getElem? → a1V
open Nat renaming eq_of_beq_eq_true → a27
open Go.Exit renaming jump → a4i
open Go.World renaming setCell → a4G
open Go.Op renaming intCmp → a4M
namespace Go.Proofs.YtoegidfbnkaabaaGreatDoor
open Go.RowKit
variable{K:Y->Prop}{R:Ending->Z->Prop}{W w w':Z}{X:Y->Z->Prop}{a:Act}{b base c d i k m n o pb:Nat}{cs iK:Array Y}{fn:Func}{res:Z->Prop}{u v z:Y}{us fw:List Nat}{FZ:Bool}{xs:List Y}
theorem cellOf{T:TypeId}{z:Nat×Nat}(h:w.heap[b]?=O (ah cs T z))
  (hv:cs[o]?=O v):w.cell? ⟨b,o,V⟩=O v:=by
 grind [World.cell?]
theorem jO{T:TypeId}(h:w.heap[b]?=O (ah cs T (0,0)))(o:Nat):w.frozen? ⟨b,o,V⟩=false:=by
 grind [World.frozen?]
theorem bn{o:Obj}(h:w.heap[b]?=O o):b<w.heap.size:=by
 grind
theorem blk_alloc_new(w:Z)(o:Obj):(w.alloc o).heap[w.heap.size]?=O o:=by
 show(w.heap.push o)[w.heap.size]?=_;simp
theorem dS{o x:Obj}(h:w.heap[b]?=O x):(w.alloc o).heap[b]?=O x:=by
 have:=bn h;show(w.heap.push o)[b]?=_;grind
theorem size_alloc(w:Z)(o:Obj):(w.alloc o).heap.size=w.heap.size+1:=by
 show(w.heap.push o).size=_;simp
theorem size_setCell(w:Z)(a:Addr)(v:Y):(w.setCell a v).heap.size=w.heap.size:=by simp [a4G]
def size_drew(w:Z):w.drew.heap.size=w.heap.size:=rfl
theorem OI(w:Z)(n:Nat):(w.drewN n).heap.size=w.heap.size:=rfl
def AN{T:TypeId}{z:Nat×Nat}(h:w.heap[b]?=O (ah cs T z))(v:Y) :
  (w.setCell ⟨b,o,V⟩ v).heap[b]?=O (ah (cs.setIfInBounds o v) T z):=by
 grind [a4G]
theorem blk_setCell_other{a:Addr}(h:b≠a.block)(v:Y):(w.setCell a v).heap[b]?=w.heap[b]?:=by
 simp [a4G,Array.getElem?_modify,Ne.symm h]
theorem ZT{a:Addr}(h:w.cell? a=O v)(hw:∀ (b:Nat) (o:Obj),w.heap[b]?=O o->w'.heap[b]?=O o):w'.cell? a=O v:=by
 grind [World.cell?,World.cell?_of_block]
structure bD(M:Nat->Obj->Prop)(w w':Z):Prop where
 os:w'.os=w.os
 tape:w'.tape=w.tape
 output:w'.output=w.output
 size:w.heap.size<=w'.heap.size
 block:∀ b o,w.heap[b]?=O o->¬ M b o->w'.heap[b]?=O o
theorem bD.refl(M:Nat->Obj->Prop)(w:Z):bD M w w:=⟨J,J,J,Nat.le_refl _,zg⟩
theorem bD.trans{M:Nat->Obj->Prop}{a b c:Z}(h:bD M a b)(k:bD M b c):bD M a c:=
 ⟨k.os.trans h.os,k.tape.trans h.tape,k.output.trans h.output,Nat.le_trans h.size k.size,(by grind [block])⟩
theorem bD.mono{M c:Nat->Obj->Prop}{a b:Z}(h:bD M a b)(hm:∀ i o,a.heap[i]?=O o->M i o->c i o):bD c a b:=
 ⟨h.os,h.tape,h.output,h.size,(by grind [block])⟩
theorem bD.alloc{M:Nat->Obj->Prop}{a b:Z}(h:bD M a b)(o:Obj):bD M a (b.alloc o):=
 ⟨h.os,h.tape,h.output,by rw[size_alloc];have:=h.size;omega,(by grind [dS,block])⟩
theorem bD.drew{M:Nat->Obj->Prop}{a b:Z}(h:bD M a b):bD M a b.drew:=⟨h.os,h.tape,h.output,h.size,h.block⟩
theorem bD.drewN{M:Nat->Obj->Prop}{a b:Z}(h:bD M a b)(n:Nat):bD M a (b.drewN n):=⟨h.os,h.tape,h.output,h.size,h.block⟩
theorem bD.L7{M:Nat->Obj->Prop}{a b:Z}(h:bD M a b){p:Addr}(c:a.heap.size<=p.block)(v:Y):bD M a (b.setCell p v):=
 ⟨h.os,h.tape,h.output,by rw[size_setCell];exact h.size,(by grind [blk_setCell_other,bn,block])⟩
def bD.atF{M:Nat->Obj->Prop}{a b:Z}(h:bD M a b){p:Addr}(c:∀ o,M p.block o)(v:Y):bD M a (b.setCell p v):=
 ⟨h.os,h.tape,h.output,by rw[size_setCell];exact h.size,(by grind [blk_setCell_other,block])⟩
def bD.grownBy{a b:Z}{r:Option Nat}(h:a.grownBy b r):bD (fun i _=>O i=r) a b:=
 ⟨h.os,h.tape,h.output,h.size,(by grind [bn,World.grownBy.block])⟩
theorem OK{x:Y}{t:TypeId}(c:b=w.heap.size):∀ (j:Nat) (u:Y),[x][j]?=O u->(w.alloc (ah #[x] t)).cell? ((⟨b,0,V⟩:Addr).add j)=O u:=by
 subst c;intro j u a;cases j with
 | zero=>
  simp at a;subst a;exact cellOf (o:=0) (blk_alloc_new w _) J
 | succ j=>grind
def aiv{x:Y}{t:TypeId}(a:b=w.heap.size):∀ (j:Nat) (u:Y),[x][j]?=O u->(w.alloc (ah #[x] t)).drew.cell? ((⟨b,0,V⟩:Addr).add j)=O u:=OK a
def OL{e:TypeId}{size:Nat}(h:w.ownsRow base e size v n xs)(o:Obj):(w.alloc o).drew.ownsRow base e size v n xs:=h.alloc o
abbrev Ext(w w':Z):Prop:=bD (fun _ _=>False) w w'
theorem bD.ext(h:Ext w w')(b:Nat)(o:Obj)(a:w.heap[b]?=O o):w'.heap[b]?=O o:=h.block b o a id
theorem bD.toM{M:Nat->Obj->Prop}(h:Ext w w'):bD M w w':=(by grind [mono])
def Ma{e:TypeId}{size:Nat}(h:W.ownsRow base e size v (k+1) xs):∃ g cap,v = .slice (O ⟨g,0,V⟩) (k+1) cap:=by
 rcases h.2 with⟨_,a⟩| ⟨g,cap,_,rfl,_⟩<;>grind
theorem ZU{e:TypeId}{size:Nat}(h:w.ownsRow base e size v n xs)(d:pb<=base):w.ownsRow pb e size v n xs:=by
 obtain⟨a,b | ⟨g,cap,cur,c,f,r⟩⟩:=h
 .exact⟨a,.inl b⟩
 .exact⟨a,.inr ⟨g,cap,cur,c,zo,r⟩⟩
def VH{P:Program}(w:Z)(base:Nat)(t ty e:TypeId)(i:TypeInfo)(z:Y)(size bytes:Nat)(ht:P.underlying t=O (.slice e))(l:P.info? e=O i)(r:i.zero=O z)
  (o:i.size=size) (s:i.bytes=bytes) (x:z.cells.size=size) (y:0<size)
  (v:Y) (n:Nat) (xs:List Y) (h:w.ownsRow base e size v n xs)
  (a:Addr) (m c:Nat) (news:List Y) (p:news.length=m*size) (q:∀ j u,news[j]?=O u->w.cell? (a.add j)=O u) (B:∀ u∈news,u.oneCell'=A)
  (C:n+m<=maxLen) (D:(n+m)*bytes<=140737488355328) (E:base<=w.heap.size) :
  ∃ v' w',(Builtin.append_ #[t,t] ty #[v,.slice (O a) m c]).run P w = .ok v' w'/\w'.ownsRow base e size v' (n+m) (xs++news)/\w.grownBy w' v.ownBlock /\
   (v'.ownBlock=v.ownBlock\/∀ k,v'.ownBlock=O k->w.heap.size<=k):=by
 have F:=h;rcases h.2 with⟨rfl,rfl⟩| ⟨g,cap,cur,rfl,H,I,K,L,M,N⟩
 .have hx:xs=[]:=List.eq_nil_of_length_eq_zero (by simpa using h.1);subst hx;obtain⟨v',w',f,d,b,_⟩:=run_append_own (P:=P) w w.heap.size t ty e i z size bytes ht l r o s x y _ 0 [] (World.ownsRow_nil _ _ _ _) a m c news p q B C D zo;exact⟨v',w',f,ZU d E,b,.inr fun k hk=>(d.lt k hk).1⟩
 .by_cases G:n+m<=cap
  .obtain⟨w',f,d,b⟩:=run_append_fits (P:=P) w base t ty e i size ht l o g n cap xs F a m c news p q B G;exact⟨_,w',f,d,b,.inl J⟩
  .obtain⟨v',w',f,d,b⟩:=run_append_arg_grows (P:=P) w t ty e i z size bytes ht l r o s x y ⟨g,0,V⟩ n cap xs h.1 (F.cells J) a m c news p q zo C D;exact⟨v',w',f,ZU d E,⟨b.os,b.tape,b.output,b.size,(by grind [World.grownBy.block])⟩,.inr fun k hk=>(d.lt k hk).1⟩
def aiw{P:Program}{ops:Array Oper}{o:Oper}{K:Act->Z->Prop}{Q:Exit->Act->Z->Prop}{E:Prop}
  (R:o.guard=V) (s x:Operand) (t:TypeId)
  (d:o.op = .call { callee:=.builtin .append,args:=#[s,x],argTypes:=#[t,t] })
  (base:Nat) (e:TypeId) (i:TypeInfo) (z:Y) (size bytes:Nat) (ht:P.underlying t=O (.slice e)) (f:P.info? e=O i) (g:i.zero=O z)
  (l:i.size=size) (p:i.bytes=bytes) (q:z.cells.size=size) (r:0<size)
  (v:Y) (n:Nat) (xs:List Y) (y:a.eval s=v) (B:w.ownsRow base e size v n xs)
  (b:Addr) (m c:Nat) (news:List Y) (hx:a.eval x = .slice (O b) m c) (C:news.length=m*size) (D:∀ j u,news[j]?=O u->w.cell? (b.add j)=O u) (F:∀ u∈news,u.oneCell'=A)
  (G:n+m<=maxLen) (H:(n+m)*bytes<=140737488355328) (I:base<=w.heap.size)
  (h:∀ v' w',w'.ownsRow base e size v' (n+m) (xs++news)->w.grownBy w' v.ownBlock->(v'.ownBlock=v.ownBlock\/∀ k,v'.ownBlock=O k->w.heap.size<=k)->K (a.put o.dst v') w') :
  if a1y o (yielded ops a.tmps)=A then Oper.wp P o a w K Q else E:=by
 rw[zip (by grind [a1y])];obtain⟨v',w',hr,L,M,N⟩:=VH (P:=P) w base t o.type e i z size bytes ht f g l p q r v n xs B b m c news C D F G H I;unfold Oper.wp execOp;simp only[d,resolve,invoke,builtin,a0L,a1n,a0K,List.map_toArray,a2d,List.map_nil,y,hx,hr];exact h v' w' L M N
def Ry{P:Program}{ops:Array Oper}{rest:List Oper}{o:Oper}{Q:Exit->Act->Z->Prop}(d:o.guard=V)(s x:Operand)(t:TypeId)
  (f:o.op = .call { callee:=.builtin .append,args:=#[s,x],argTypes:=#[t,t] })
  (base:Nat) (e:TypeId) (i:TypeInfo) (z:Y) (size bytes:Nat) (ht:P.underlying t=O (.slice e)) (g:P.info? e=O i) (l:i.zero=O z)
  (p:i.size=size) (q:i.bytes=bytes) (r:z.cells.size=size) (y:0<size)
  (v:Y) (n:Nat) (xs:List Y) (B:a.eval s=v) (C:w.ownsRow base e size v n xs)
  (b:Addr) (m c:Nat) (news:List Y) (hx:a.eval x = .slice (O b) m c) (D:news.length=m*size) (E:∀ j u,news[j]?=O u->w.cell? (b.add j)=O u) (F:∀ u∈news,u.oneCell'=A)
  (G:n+m<=maxLen) (H:(n+m)*bytes<=140737488355328) (I:base<=w.heap.size)
  (h:∀ v' w',w'.ownsRow base e size v' (n+m) (xs++news)->w.grownBy w' v.ownBlock->(v'.ownBlock=v.ownBlock\/∀ k,v'.ownBlock=O k->w.heap.size<=k)->wpList P ops Q rest (a.put o.dst v') w'):wpList P ops Q (o::rest) a w:=
 wpList_plain d fun K L=>by
  obtain⟨v',w',hr,M,N,R⟩:=VH (P:=P) w base t o.type e i z size bytes ht g l p q r y v n xs C b m c news D E F G H I;unfold Oper.wp execOp;simp only[f,resolve,invoke,builtin,a0L,a1n,a0K,List.map_toArray,a2d,List.map_nil,B,hx,hr];exact L _ _ zg
def exists_least{p:Nat->Prop}:∀ n,p n->∃ m,p m/\∀ k,p k->m<=k:=by
 intro n;induction n using Nat.strongRecOn with
 | _ n ih=>
  grind
open Classical in
noncomputable def least (I:Nat->Act->Z->Prop) (a:Act) (w:Z):Nat:=
 if h:∃ n,I n a w then Classical.choose (exists_least (p:=fun n=>I n a w) _ (Classical.choose_spec h)) else 0
def aix{I:Nat->Act->Z->Prop}(h:∃ n,I n a w):I (least I a w) a w:=by
 unfold least;grind
def least_le{I:Nat->Act->Z->Prop}(h:I n a w):least I a w<=n:=by
 unfold least;rw[dif_pos ⟨n,h⟩];grind
def wp_loop_ghost{P:Program}{Q:Exit->Act->Z->Prop}{c:Code}(I:Nat->Act->Z->Prop)(b:∃ n,I n a w)
  (round:∀ n a w,I n a w->c.wp P (Exit.then (fun a' w'=>∃ m,m<n/\I m a' w') Q) a w):(Code.loop c).wp P Q a w:=
 wp_loop (fun a w=>∃ n,I n a w) (least I) b fun a w h=>
  wp_mono (round _ a w (aix h)) fun e a' w' d=>by
   cases e with
   | normal=>obtain⟨m,hm,f⟩:=d;exact⟨⟨m,f⟩,Nat.lt_of_le_of_lt (least_le f) hm⟩
   | _=>exact d
def atH{P:Program}{Q:Exit->Act->Z->Prop}{c rest:Code}(l:Nat)(b:Nat->Act->Z->Prop)(g:findLabel c l=O rest)
  (first:c.wp P (a4i l (fun a w=>∃ n,b n a w) Q) a w)
  (pass:∀ n a w,b n a w->rest.wp P (a4i l (fun a' w'=>∃ m,m<n/\b m a' w') Q) a w):(Code.scope c).wp P Q a w:=
 wp_scope_jumps l (fun a w=>∃ n,b n a w) (least b) g first fun a w h=>
  wp_mono (pass _ a w (aix h)) fun e a' w' d=>by
   cases e with
   | goto l'=>obtain⟨e,m,hm,f⟩:=d;exact⟨e,⟨m,f⟩,Nat.lt_of_le_of_lt (least_le f) hm⟩
   | _=>exact d
def atI{P:Program}{Q:Exit->Act->Z->Prop}{c rest:Code}(l:Nat)(b:Nat->Act->Z->Prop)(f:findLabel c l=O rest)
  (first:(∀ n a w,b n a w->rest.wp P (a4i l (fun a w=>∃ n,b n a w) Q) a w)->c.wp P (a4i l (fun a w=>∃ n,b n a w) Q) a w)
  (pass:∀ n a w,b n a w->rest.wp P (a4i l (fun a' w'=>∃ m,m<n/\b m a' w') Q) a w):(Code.scope c).wp P Q a w:=
 atH l b f (first fun n a w h=>wp_mono (pass n a w h) fun e a' w' d=>by
  cases e with
  | goto l'=>obtain⟨e,m,_,g⟩:=d;exact⟨e,m,g⟩
  | _=>exact d) pass
def atJ{l:Nat}{b:Act->Z->Prop}{Q:Exit->Act->Z->Prop}:a4i l b Q .ret a w=Q .ret a w:=rfl
abbrev bs(l:P.Bs):ByteArray:=⟨l.toArray⟩
namespace Sx
open Go
def atL{C:mv}{o:Oper}{e:Env}{s:Sem Y}{next:Env->Prop}{next':Act->Prop}
  (b:execOp a.eval o=(do pure (.value (<- s)))) (c:∀ v,next (e.put o.dst v)->next' (a.put o.dst v))
  (h:RD C.P s w (pD C o fun v=>next (e.put o.dst v)) (fun _ _=>False)):o.still C.P a w next':=by
 unfold Oper.still;rw[b,Rq];unfold RD at h;cases hr:s.run C.P w with
 | ok v w'=>
  rw[hr] at h;obtain⟨rfl,h⟩:=h;exact⟨J,Rr (K:=fun v=>next (e.put o.dst v)) (K':=fun v=>next' (a.put o.dst v)) zg h⟩
 | halt x w'=>
  grind
theorem Rz{P:Program}{o:Oper}{next':Act->Prop}
  (b:execOp a.eval o=pure (.value v)) (h:next' (a.put o.dst v)):o.still P a w next':=by
 unfold Oper.still;rw[b];exact⟨J,h⟩
def aiy{C:mv}(G:Good C){vs:List Nat}{o:Oper}{e:Env}{next:Env->Prop}{next':Act->Prop}
  (hr:Rel vs a e) (d:∀ v,next (e.put o.dst v)->next' (a.put o.dst v)) (h:r9 C o e w next):o.still C.P a w next':=by
 have he:=hr.eval;unfold r9 at h;split at h
 .rename_i x b;exact Rz (by rw[he];grind [execOp]) (d _ h)
 .rename_i x b;exact Rz (by rw[he];grind [execOp]) (d _ h)
 .rename_i c x y b;split at h
  .rename_i f;exact Rz (v:=e.eval x) (by rw[he];unfold execOp;rw[b];simp only[f];rfl) (d _ h)
  .rename_i f;exact Rz (v:=e.eval y) (by rw[he];unfold execOp;rw[b];simp only[f];rfl) (d _ h)
  grind
 .rename_i x b;obtain⟨g,i⟩:=ZM b h;grind [Rz]
 .rename_i k args Df b;split at h
  .rename_i hk;unfold Oper.still;have:(execOp a.eval o).run C.P w = .ok (.enter k (jW e args)) w:=by
    rw[he];unfold execOp;rw[b];simp only[resolve,Jy,Env.eval,Deferred.ofValue,Array.empty_append];show(callFunc k (jW e args++#[])).run C.P w=_;rw[Array.append_empty];exact Rs (G.calls k hk) _ _
   rw[this];obtain⟨v,g,i⟩:=h;exact⟨J,v,g,Rr (K:=fun v=>next (e.put o.dst v)) (K':=fun v=>next' (a.put o.dst v)) zg i⟩
  grind
 .split at h
  .rename_i s j;exact atL (by grind [ZK]) d h
  grind
structure kM(us:List Nat)(n:Bool)(e e':Env):Prop where
 get:∀ i,i ∉ us->e'.f i=e.f i
 defs:n=A->e'.defers=e.defers
theorem kM.refl(vs:List Nat)(n:Bool)(a:Env):kM vs n a a:=⟨zg,zg⟩
theorem kM.trans{vs:List Nat}{n m:Bool}{a b c:Env}(h:kM vs n a b)(k:kM us m b c):kM (vs++us) (n && m) a c:=
 ⟨fun i d=>by simp only[a0P,not_or] at d;rw[k.get i d.2,h.get i d.1],fun e=>by
  simp only[a0W] at e;rw[k.defs e.2,h.defs e.1]⟩
theorem kM.mono{vs:List Nat}{n m:Bool}{a b:Env}(h:kM vs n a b)(hv:∀ i∈vs,i∈us)(c:m=A->n=A):kM us m a b:=
 ⟨(by grind [get]),(by grind [defs])⟩
theorem aiz(f:Nat->Y)(h:i≠d)(v:Y):Jw f d v i=f i:=by
 grind [Jw,Nat.beq,absurd,a27]
theorem kM.put{vs:List Nat}{n:Bool}{a b:Env}(h:kM vs n a b){d:Option Nat}(c:∀ t,d=O t->t∈vs)(v:Y):kM vs n a (b.put d v):=by
 cases d with
 | none=>exact h
 | some t=>
  refine⟨fun i e=>?_,h.defs⟩;have:i≠t:=zg;show Jw b.f t v i=_;grind [aiz,get]
def kM.next{n:Bool}{a b c:Env}{o:Oper}(h:kM us n a b)(f:∀ t,o.dst=O t->t∈us)(g:n=A->xy o=ae)
  (e:∃ v,c=b.put o.dst v\/∃ d,xy o=A/\c=({ b with defers:=d::b.defers }:Env).put o.dst v):kM us n a c:=by
 obtain⟨v,rfl | ⟨d,hid,rfl⟩⟩:=e
 .grind [put]
 .have i:kM us n a { b with defers:=d::b.defers }:=⟨h.get,zg⟩;grind [put]
def JA(x:Exit)(vs:List Nat)(a:Act)(e:Env):Prop:=
 match x with
 | .panic _=>Rel [] a e
 | _=>Rel vs a e
def vY(x:Exit)(us:List Nat)(n:Bool)(e0 e:Env):Prop:=
 match x with
 | .panic _=>n=A->e.defers=e0.defers
 | _=>kM us n e0 e
def Rel.atM{vs:List Nat}{e:Env}(h:Rel vs a e):Rel [] a e:=⟨h.get,h.defs,zg⟩
theorem JA.of{x:Exit}{vs:List Nat}{e:Env}(h:Rel vs a e):JA x vs a e:=by cases x<;>first | exact h | exact h.atM
theorem JA.get{x:Exit}{vs:List Nat}{a:Act}{e:Env}(h:JA x vs a e):∀ i,a.tmps.getD i undef=e.f i:=by cases x<;>exact Rel.get h
theorem JA.defs{x:Exit}{vs:List Nat}{a:Act}{e:Env}(h:JA x vs a e):a.defers=e.defers:=by cases x<;>exact Rel.defs h
theorem vY.of{x:Exit}{n:Bool}{e0 e:Env}(h:kM us n e0 e):vY x us n e0 e:=by cases x<;>first | exact h | exact h.defs
theorem vY.defs{x:Exit}{us:List Nat}{n:Bool}{e0 e:Env}(h:vY x us n e0 e)(a:n=A):e.defers=e0.defers:=by
 cases x with
 | panic b=>exact h a
 | _=>exact kM.defs h a
theorem vY.trans{x:Exit}{vs us:List Nat}{n m:Bool}{a b c:Env}(h:kM vs n a b)(k:vY x us m b c):vY x (vs++us) (n && m) a c:=by
 cases x with
 | panic d=>exact fun e=>by simp only[a0W] at e;exact(k e.2).trans (h.defs e.1)
 | _=>exact kM.trans h k
theorem vY.mono{x:Exit}{vs us:List Nat}{n m:Bool}{a b:Env}(h:vY x vs n a b)(hv:∀ i∈vs,i∈us)(c:m=A->n=A):vY x us m a b:=by
 cases x with
 | panic d=>exact fun e=>h (c e)
 | _=>exact kM.mono h hv c
abbrev Po(vs us:List Nat)(n:Bool)(e0:Env)(Q:Exit->Env->Z->Prop):Exit->Act->Z->Prop:=fun x a' w'=>∃ e',JA x vs a' e'/\vY x us n e0 e'/\Q x e' w'
def ZX{C:mv}(G:Good C){ops:Array Oper}{Q:Exit->Env->Z->Prop}{vs us:List Nat}{n:Bool}{e0:Env}(hv:∀ i∈us,i∈vs):∀ (l:List Oper) (a:Act) (e:Env) (w:Z),
  (∀ o∈l,∀ t,o.dst=O t->t∈us)->(n=A->∀ o∈l,xy o=ae)->Rel vs a e->kM us n e0 e->xx C ops Q l e w ->
  wpList C.P ops (Po vs us n e0 Q) l a w
 | [],a,e,w,_,_,hr,b,h=>⟨e,hr,b,h⟩
 | o::l,a,e,w,d,j,hr,b,h=>by
  have ih:=fun a e w=>ZX G (ops:=ops) (Q:=Q) (vs:=vs) (us:=us) (n:=n) (e0:=e0) hv l a e w zg zg;have c:=d o (a0O ..);unfold xx at h;unfold wpList;rw[hr.yield];split at h
  .rename_i hw;rw[zip hw];exact .inl (ZN G hr zg (fun e' a' w' f _ g hx=>ih a' e' w' f (b.next c zg g) hx) (by grind [JA.of,vY.of,panic]) h)
  .rename_i hw;rw[bO (by simp [hw])];exact ih _ _ _ (hr.put (fun t ht=>hv t (c t ht)) _) (b.put c _) h
def aiA{C:mv}(G:Good C){ops:Array Oper}{w:Z}{Q:Env->Prop}{vs us:List Nat}{n:Bool}{e0:Env}(hv:∀ i∈us,i∈vs):∀ (l:List Oper) (a:Act) (e:Env),
  (∀ o∈l,∀ t,o.dst=O t->t∈us)->Rel vs a e->kM us n e0 e->AL C ops w Q l e ->
  wpStill C.P ops w (fun a'=>∃ e',Rel vs a' e'/\kM us n e0 e'/\Q e') l a
 | [],a,e,_,hr,b,h=>⟨e,hr,b,h⟩
 | o::l,a,e,d,hr,b,h=>by
  have ih:=fun a e=>aiA G (ops:=ops) (w:=w) (Q:=Q) (vs:=vs) (us:=us) (n:=n) (e0:=e0) hv l a e zg;have c:=d o (a0O ..);unfold AL at h;unfold wpStill;rw[hr.yield];split at h
  .rename_i hw;rw[zip hw];exact aiy G hr (fun v hx=>ih _ _ (hr.put (fun t ht=>hv t (c t ht)) v) (b.put c v) hx) h
  .rename_i hw;rw[bO (by simp [hw])];exact ih _ _ (hr.put (fun t ht=>hv t (c t ht)) _) (b.put c _) h
theorem RA(l:List Oper)(o:Oper)(a:o∈l)(t:Nat)(ht:o.dst=O t):t∈qN l:=by
 induction l with
 | nil=>grind
 | cons x l ih=>
  grind [qN,a0O,List.mem_cons_of_mem]
def atN{l:List Oper}{n:Bool}(h:n=(l.all fun o=>!xy o)):n=A->∀ o∈l,xy o=false:=by
 grind
def atO{C:mv}(G:Good C){id:Nat}{ops:Array Oper}{Q:Exit->Env->Z->Prop}{vs:List Nat}{e:Env}(hv:∀ i∈qN ops.toList,i∈vs)(hr:Rel vs a e)(h:xx C ops Q ops.toList e w) :
  (Code.region id ops ae).wp C.P (Po vs (qN ops.toList) (ops.toList.all fun o=>!xy o) e Q) a w:=
 wp_region_list (ZX G hv ops.toList a e w (RA _) (atN J) hr (kM.refl _ _ _) h)
def atP{C:mv}(G:Good C){id:Nat}{ops:Array Oper}{Q:Exit->Env->Z->Prop}{vs:List Nat}{e:Env}(hv:∀ i∈qN ops.toList,i∈vs)(hr:Rel vs a e)(hd:VB ops n=A)
  (h:AL C ops w.drew (fun a'=>xx C ops Q (ops.toList.drop n) a' w.drew) (ops.toList.take n) e) :
  (Code.region id ops A).wp C.P (Po vs (qN ops.toList) (ops.toList.all fun o=>!xy o) e Q) a w:=by
 have h1:=aiA G (us:=qN ops.toList) (n:=ops.toList.all fun o=>!xy o) (e0:=e) hv (ops.toList.take n) a e (by grind [RA,List.mem_of_mem_take]) hr (kM.refl _ _ _) h;unfold VB at hd;have e:ops=ops.toList.toArray:=zs;split at hd
 .rename_i hn;refine wp_region_still G.mixed hd ?_;have ht:ops.toList.take n=ops.toList:=(by grind [List.take_of_length_le]);have hdp:ops.toList.drop n=[]:=zg;rw[ht,hdp] at h1;exact h1
 .rw[e] at hd ⊢;refine wp_region_still_tail n G.mixed hd ?_;refine ZY (fun a' hx=>?_) _ _ h1;obtain⟨e',ll,ql,hx⟩:=hx;exact ZX G hv (ops.toList.drop n) a' e' _ (by grind [RA,List.mem_of_mem_drop]) zg ll ql hx
where
 ZY {P:Program} {ops:Array Oper} {w:Z} {Q Q':Act->Prop} (hq:∀ a,Q a->Q' a):∀ (l:List Oper) (a:Act),wpStill P ops w Q l a->wpStill P ops w Q' l a
  | [],a,h=>hq a h
  | o::l,a,h=>by
   unfold wpStill at h ⊢;split
   .rename_i hw;rw[zip hw] at h;exact Oper.still_mono (fun a hx=>ZY hq l a hx) h
   .rename_i hw;rw[bO hw] at h;exact ZY hq l _ h
def aiB{C:mv}{vs:List Nat}{o:Oper}{e:Env}{S:Z->Prop}{next:Env->Prop}{ops:Array Oper}(hr:Rel vs a e)(hw:a1y o (yielded ops a.tmps)=A)(h:sd C o e S next) :
  ∃ v,YieldsIf C.P ops S o v a/\next (e.put o.dst v):=by
 have he:=hr.eval;unfold sd at h;split at h
 .rename_i x b;exact⟨_,.inl ⟨hw,fun w _=>by rw[he];unfold execOp;rw[b];rfl⟩,h⟩
 .rename_i x b;exact⟨_,.inl ⟨hw,fun w _=>by rw[he];unfold execOp;rw[b];rfl⟩,h⟩
 .rename_i c x y b;split at h
  .rename_i g;exact⟨e.eval x,.inl ⟨hw,fun w _=>by rw[he];unfold execOp;rw[b];simp only[g];rfl⟩,h⟩
  .rename_i g;exact⟨e.eval y,.inl ⟨hw,fun w _=>by rw[he];unfold execOp;rw[b];simp only[g];rfl⟩,h⟩
  grind
 .rename_i x b;obtain⟨d,f⟩:=ZM b h;exact⟨_,.inl ⟨hw,fun w _=>by rw[he,d];rfl⟩,f⟩
 .split at h
  .rename_i s i;obtain⟨v,d,f⟩:=h;exact⟨v,.inl ⟨hw,fun w j=>by rw[he,ZK i,Rq,d w j]⟩,Rr (K:=fun v=>next (e.put o.dst v)) (fun _ h=>h) f⟩
  .split at h
   .rename_i s i;obtain⟨v,d,f⟩:=h;exact⟨v,.inl ⟨hw,fun w j=>by rw[he,ain (atu i),Rq,d w j]⟩,f⟩
   grind
theorem RB:∀ {l:List Nat} {t:Nat},t∈l->rA t l=A
 | j::r,t,h=>by
  unfold rA;cases a:Nat.beq t j
  .rw[cond_false];rcases a0N.1 h with h | h
   .subst h;simp at a
   .exact RB h
  .rfl
abbrev VI(dl vs us:List Nat)(n:Bool)(e0:Env)(Q:Exit->Env->Z->Prop)(x:Exit)(a:Act)(w:Z):Prop:=
 match x with
 | .panic b=>(n=A->a.defers=e0.defers)/\∀ f,(∀ t,rA t dl=ae->f t=a.tmps.getD t undef)->Q (.panic b) ⟨f,a.defers⟩ w
 | x=>Po vs us n e0 Q x a w
def VJ{vs:List Nat}{n:Bool}{e0:Env}{Q:Exit->Env->Z->Prop}{c:List PanicEntry}{d:Option Nat}(e:∀ t,d=O t->rA t fw=A)(h:VI fw vs us n e0 Q (.panic c) (a.put d v) w):VI fw vs us n e0 Q (.panic c) a w:=by
 cases d with
 | none=>exact h
 | some t0=>
  refine⟨h.1,fun f b=>h.2 f fun t ht=>?_⟩;have g:t≠t0:=zg;rw[b t ht];simp only[Act.put,a1V];grind
def aiC{C:mv}(G:Good C){ops:Array Oper}{Q:Exit->Env->Z->Prop}{S:Z->Prop}{m:Option Nat}{vs us:List Nat}{n:Bool}{e0:Env}(hv:∀ i∈us,i∈vs)(g:Region.noSelect ops=A)
  (H:∀ (i:Nat) (o:Oper),ops[i]?=O o->∀ t,o.dst=O t->t∈us) (N:∀ (i:Nat) (o:Oper),ops[i]?=O o->∀ t,o.dst=O t->t∈qN ops.toList) (R:n=A->∀ (i:Nat) (o:Oper),ops[i]?=O o->xy o=ae) :
  ∀ (l:List Nat) (listed:Array Bool) (a:Act) (e:Env) (w:Z),Rel vs a e->kM us n e0 e->(ug m listed=A->S w)->mJ C ops Q S m l listed e w ->
   Jz C.P .any ops (VI (qN ops.toList) vs us n e0 Q) S m l.length listed a w
 | [],listed,a,e,w,hr,p,k,h=>by
  unfold mJ at h;split at h
  .rename_i q;exact⟨q,e,hr,p,h⟩
  grind
 | i::l,listed,a,e,w,hr,p,k,h=>by
  have ih:=aiC G (Q:=Q) (S:=S) (m:=m) (vs:=vs) (us:=us) (n:=n) (e0:=e0) hv g H N R l;unfold mJ at h;split at h
  .grind
  .rename_i o b;have I:=H i o b;have T:∀ v,Rel vs (a.put o.dst v) (e.put o.dst v):=(by grind [Rel.put]);have kN:∀ v,kM us n e0 (e.put o.dst v):=(by grind [kM.put]);rw[<- hr.yield] at h;split at h
   .rename_i q;have q:Region.ready .any ops listed=[i]:=zg;refine⟨zg,fun j L=>?_⟩;have VD:=(mem_ready.1 L).1;rw[q] at L;have:j=i:=zg;subst this;have U:ug m (listed.setIfInBounds j A)=A->ug m listed=true:=fun M=>by
     cases m with
     | none=>rfl
     | some m=>
      simp only[ug,Bool.not_eq_true'] at M ⊢;by_cases u:j=m
      .grind
      .rw[getD_set_ne A u] at M;omega
    unfold wpOp;rw[b];dsimp only;split at h
    .grind
    .rename_i hw;rw[zip hw];refine .inl ?_;split at h
     .refine Oper.wp_of_still (K:=fun a'=>(ug m (listed.setIfInBounds j A)=A->S w)/\Jz C.P .any ops (VI (qN ops.toList) vs us n e0 Q) S m l.length (listed.setIfInBounds j A) a' w) zg (aiy G hr (fun v hx=>?_) h);grind
     .split at h
      .exact ZN G hr zg (fun e' a' w' y _ z hx=>⟨zg,ih _ _ _ _ y (p.next I zg z) zg hx.2⟩) (fun W w' hx=>⟨fun B=>by rw[hr.defs];grind [kM.defs],fun f D=>by
        rw[hr.defs];have hx:=hx f;have B:(fun t=>cond (rA t (qN ops.toList)) (f t) (e.f t))=f:=funext fun t=>by
         cases hm:rA t (qN ops.toList)
         .rw[cond_false,D t hm,hr.get]
         .rfl
        grind⟩) h
      .rename_i qQ;exact ZN G hr zg (fun e' a' w' y _ z hx=>⟨zg,ih _ _ _ _ y (p.next I zg z) zg hx⟩) (fun W w' hx=>⟨fun B=>by rw[hr.defs];grind [kM.defs],fun f D=>by
        rw[hr.defs];have hx:=hx f;have B:(fun t=>cond (rA t (qN ops.toList)) (f t) (e.f t))=f:=funext fun t=>by
         cases hm:rA t (qN ops.toList)
         .rw[cond_false,D t hm,hr.get]
         .rfl
        grind⟩) h
   .split at h
    .grind
    .rename_i E;simp only[a0W] at E;have r:i∈Region.ready .any ops listed:=zg;have s:=Region.free_spec b E.1.2;rcases atE E.2 with⟨d,c2,c3⟩| ⟨d,c2⟩
     .split at h
      .rename_i hw;exact aip b (a3d g) (fun c a w h=>VJ (by grind [RB]) h) d l.length listed a w s c2 r (.inr ⟨hw,J⟩) (k c3) zg
      .rename_i hw;obtain⟨v,F,hx⟩:=aiB (ops:=ops) hr hw h;exact aip b (a3d g) (fun c a w h=>VJ (by grind [RB]) h) d l.length listed a w s c2 r F (k c3) zg
     .have U:ug m (listed.setIfInBounds i A)=ug m listed:=by
       cases m with
       | none=>rfl
       | some m'=>simp only[ug];rw[getD_set_ne A (d m' J)]
      split at h
      .rename_i hw;exact air b (a3d g) (fun c a w h=>VJ (by grind [RB]) h) d l.length listed a w s r (.inr ⟨hw,J⟩) k zg
      .rename_i hw;obtain⟨x,X⟩:∃ x,o.op = .move x:=by
        grind [ZI]
       have h':sd C o e (fun _=>True) (fun a'=>mJ C ops Q S m l (listed.setIfInBounds i A) a' w):=by
        grind [sd]
       obtain⟨v,F,hx⟩:=aiB (ops:=ops) hr hw h';exact air b (a3d g) (fun c a w h=>VJ (by grind [RB]) h) d l.length listed a w s r F k zg
def atS{C:mv}(G:Good C){id:Nat}{ops:Array Oper}{Q:Exit->Env->Z->Prop}{vs:List Nat}{e:Env}(hv:∀ i∈qN ops.toList,i∈vs)(hr:Rel vs a e)(b:(fw.length == ops.size && Region.noSelect ops)=A)
  (h:HD fun S=>S w.drew/\mJ C ops Q S (ZJ m) fw (Array.replicate ops.size ae) e w.drew) :
  (Code.region id ops A).wp C.P (Po vs (qN ops.toList) (ops.toList.all fun o=>!xy o) e Q) a w:=by
 simp only[a0W,beq_iff_eq] at b;obtain⟨S,f,h⟩:=h;have hm:∀ (i:Nat) (o:Oper),ops[i]?=O o->o∈ops.toList:=zg;have c:=aiC G (us:=qN ops.toList) (n:=ops.toList.all fun o=>!xy o) (e0:=e) hv b.2 (by grind [RA]) (by grind [RA]) zg fw _ a e _ hr (kM.refl _ _ _) zg h;rw[b.1] at c;refine wp_mono (wp_region_any G.mixed (aio _ _ _ _ c)) fun x a' w' d=>?_;cases x with
 | panic g=>exact⟨⟨fun i=>a'.tmps.getD i undef,a'.defers⟩,⟨zg,J,zg⟩,d.1,zg⟩
 | _=>exact d
theorem ZZ(i:Nat):∀ l:List Nat,rA i l=A↔i∈l
 | []=>by simp [rA]
 | j::r=>by
  unfold rA;cases a:Nat.beq i j
  .rw[cond_false,ZZ i r,a0N];have:i≠j:=fun e=>by subst e;simp at a
   grind
  .rw[cond_true];grind [a27]
def Z0{a a':Env}{vs:List Nat}(h:kM vs A a a')(live:List Nat) :
  fr a vs live (jk (zG a' live)) a'.f=a':=by
 have c:∀ (l:List Nat) (i:Nat),i∈l->jk (zG a' l) i=a'.f i:=by
  intro l i;induction l with
  | nil=>grind
  | cons j r ih=>
   intro hx;simp only[zG,a2d,jk];by_cases e:j=i
   .grind
   .rw[bO e];rcases a0N.1 hx with hx | hx
    .omega
    .exact ih hx
 have b:=h.defs J;cases a' with
 | mk f' df=>
 cases a with
 | mk f0 d=>
 simp only at b c;subst b;simp only[fr]
 congr 1
 funext i
 unfold Rp;cases g:rA i live
 .rw[cond_false];cases k:rA i vs
  .rw[cond_false];exact(h.get i (by grind [ZZ])).symm
  grind
 .rw[cond_true];grind [ZZ]
def JB{K:Env->Prop}:∀ (l:List Nat) (a:Env),qi l a K->K a
 | [],_,h=>h
 | i::r,a,h=>by
  have key:∀ c:Bool,a.f i = .bool c->a.put (O i) (.bool c)=a:=by
   intro c b;cases a with
   | mk f df=>
   simp only at b;simp only[Env.put]
   congr 1
   grind [Jw,Nat.beq,aiz]
  unfold qi BS at h;split at h
  .rename_i c b;cases c
   .have:=JB r _ (h.2 J);grind
   .have:=JB r _ (h.1 J);grind
  grind
def aiE{vs:List Nat}{n:Bool}{e0:Env}{Q:Exit->Env->Z->Prop}{x:Exit}(h:Po vs us n e0 Q x a w)(hv:∀ i∈us,i∈fw)(b:FZ=A->n=A):Po vs fw FZ e0 Q x a w:=by
 grind [vY.mono]
def AP{C:mv}(G:Good C){vs:List Nat}:∀ (c:Code) (Q:Exit->Env->Z->Prop) (a:Act) (e:Env) (w:Z),(∀ i∈wr c,i∈vs)->Rel vs a e->gz C c Q e w ->
  c.wp C.P (Po vs (wr c) (nd c) e Q) a w
 | .skip,Q,a,e,w,hv,hr,h=>wp_skip ⟨e,hr,kM.refl _ _ _,h⟩
 | .region id ops draw,Q,a,e,w,hv,hr,h=>by
  unfold gz at h;cases draw with
  | false=>exact atO G hv hr h
  | true=>
   dsimp only at h;split at h
   .grind
   .split at h
    .rename_i U;exact atS G hv hr U h
    grind
   .split at h
    .rename_i W;exact atP G hv hr W h
    grind
 | .seq x y,Q,a,e,w,hv,hr,h=>by
  have H:∀ i∈wr x,i∈vs:=fun i j=>hv i (a0P.2 (.inl j));have K:∀ i∈wr y,i∈vs:=fun i j=>hv i (a0P.2 (.inr j));have L:nd (.seq x y)=A->nd x=true:=fun e=>by simp only[nd,a0W] at e;grind
  unfold gz at h;split at h
  .refine wp_seq (wp_mono (AP G x _ a e w H hr h) fun z a' w' g=>?_);obtain⟨e',o,k,g⟩:=g;cases z with
   | normal=>
    refine wp_mono (AP G y Q a' e' w' K o g) fun z r R p=>?_;obtain⟨s,t,u,p⟩:=p;exact⟨s,t,vY.trans k u,p⟩
   | _=>exact⟨e',o,k.mono (fun i j=>a0P.2 (.inl j)) L,g⟩
  .rename_i live hj;split at h
   .rename_i E;split at h
    .unfold JN at h;refine wp_seq (wp_mono (AP G x _ a e w H hr h) fun z a' w' g=>?_);obtain⟨e',o,k,g⟩:=g;cases z with
     | normal=>
      have B:=k;rw[E] at B;have g:=g e'.f;have g:=JB _ _ g;rw[Z0 B live] at g;refine wp_mono (AP G y Q a' e' w' K o g) fun z r R p=>?_;obtain⟨s,t,u,p⟩:=p;exact⟨s,t,vY.trans k u,p⟩
     | _=>exact⟨e',o,k.mono (fun i j=>a0P.2 (.inl j)) L,g⟩
    .unfold JS at h;obtain⟨d,h,X⟩:=h;refine wp_seq (wp_mono (AP G x _ a e w H hr h) fun z a' w' g=>?_);obtain⟨e',o,k,g⟩:=g;cases z with
     | normal=>
      have B:=k;rw[E] at B;have g:=X _ _ g e'.f;have g:=JB _ _ g;rw[Z0 B live] at g;refine wp_mono (AP G y Q a' e' w' K o g) fun z r R p=>?_;obtain⟨s,t,u,p⟩:=p;exact⟨s,t,vY.trans k u,p⟩
     | _=>exact⟨e',o,k.mono (fun i j=>a0P.2 (.inl j)) L,g⟩
   grind
 | .cond c x y,Q,a,e,w,hv,hr,h=>by
  have ht:a.eval c = .bool A->gz C x Q e w->(Code.cond c x y).wp C.P (Po vs (wr (.cond c x y)) (nd (.cond c x y)) e Q) a w:=fun M h=>
   wp_cond_true M (wp_mono (AP G x Q a e w (fun i j=>hv i (a0P.2 (.inl j))) hr h) fun z a' w' g=>aiE g (fun i j=>a0P.2 (.inl j)) (fun e=>by simp only[nd,a0W] at e;grind))
  have hf:a.eval c = .bool ae->gz C y Q e w->(Code.cond c x y).wp C.P (Po vs (wr (.cond c x y)) (nd (.cond c x y)) e Q) a w:=fun M h=>
   wp_cond_false M (wp_mono (AP G y Q a e w (fun i j=>hv i (a0P.2 (.inr j))) hr h) fun z a' w' g=>aiE g (fun i j=>a0P.2 (.inr j)) (fun e=>by simp only[nd,a0W] at e;grind))
  unfold gz at h;rw[<- hr.eval] at h;split at h
  .unfold BS at h;split at h
   .rename_i b D;cases b with
    | true=>grind
    | false=>grind
   grind
  grind
 | .block id c,Q,a,e,w,hv,hr,h=>by
  unfold gz at h;refine wp_block (wp_mono (AP G c _ a e w hv hr h) fun z a' w' g=>?_);obtain⟨e',o,k,g⟩:=g;cases z with
  | exit N=>
   unfold FW tid at g;dsimp only at g;cases D:Nat.beq N id with
   | true=>
    rw[D] at g;have q:N=id:=a27 D;simp only[Exit.inBlock,zip q];exact⟨e',o,k,g⟩
   | false=>
    rw[D] at g;have q:¬ N=id:=fun e=>by subst e;simp at D
    simp only[Exit.inBlock,bO q];exact⟨e',o,k,g⟩
  | _=>exact⟨e',o,k,g⟩
 | .exit id,Q,a,e,w,hv,hr,h=>wp_exit ⟨e,hr,kM.refl _ _ _,h⟩
 | .ret,Q,a,e,w,hv,hr,h=>wp_ret ⟨e,hr,kM.refl _ _ _,h⟩
 | .loop c,Q,a,e,w,hv,hr,h=>by
  unfold gz at h;split at h
  .rename_i E;obtain⟨I,⟨n0,h0⟩,Me⟩:=h;refine wp_loop_ghost (fun n a' w'=>∃ e',Rel vs a' e'/\kM (wr c) A e e'/\I n (jk (zG e' (C.live (Ht c)))) w') (by grind [kM.refl]) ?_;rintro n a1 w1 ⟨q,qn,S,j⟩;have F:=Me n _ q.f w1 j;have F:=JB _ _ F;rw[Z0 S] at F;refine wp_mono (AP G c _ a1 q w1 hv qn F) fun z a' w' g=>?_;obtain⟨e',o,k,g⟩:=g;rw[E] at k;have T:vY z (wr c) A e e':=(vY.trans S k).mono zg zg;cases z with
   | normal=>
    obtain⟨m,hm,j⟩:=g;exact⟨m,hm,e',o,T,j⟩
   | _=>exact⟨e',o,T.mono (fun i j=>j) zg,g⟩
  grind
 | .rangeFunc _ _ _ _,_,_,_,_,_,_,h=>h.elim
 | .scope c,Q,a,e,w,hv,hr,h=>by
  unfold gz at h;refine wp_scope_straight (wp_mono (AP G c _ a e w hv hr h) fun z a' w' g=>?_);obtain⟨e',o,k,g⟩:=g;cases z with
  | goto l=>exact g.elim
  | _=>exact⟨e',o,k,g⟩
 | .label l,Q,a,e,w,hv,hr,h=>wp_label ⟨e,hr,kM.refl _ _ _,h⟩
 | .goto _,_,_,_,_,_,_,h=>h.elim
 | .refuse _,_,_,_,_,_,_,h=>h.elim
def Hw(P:Program):List ResultVar->Array Y->Z->List Y->(List Y->Prop)->Prop
 | [],_,_,acc,K=>K acc
 | .tmp t::rs,tm,w,acc,K=>Hw P rs tm w (acc++[tm.getD t undef]) K
 | .cell a t::rs,tm,w,acc,K=>RD P (a0Q t (tm.getD a undef)) w (fun v=>Hw P rs tm w (acc++[v]) K) (fun _ _=>False)
def one:List Y->Y
 | [v]=>v
 | l=>aq l.toArray
def VP(tm:Array Y):ResultVar->Sem Y
 | .tmp t=>pure (tm.getD t undef)
 | .cell a t=>do loadVar t (<- asAddr (tm.getD a undef))
def Z5{P:Program}{tm:Array Y}{w:Z}:∀ (l:List ResultVar) (acc:List Y) (K:List Y->Prop),Hw P l tm w acc K ->
  ∃ vs,(l.mapM (VP tm)).run P w=Result.ok vs w/\K (acc++vs)
 | [],acc,K,h=>⟨[],J,by grind [Hw]⟩
 | .tmp t::l,acc,K,h=>by
  obtain⟨vs,b,c⟩:=Z5 l _ K h;refine⟨tm.getD t undef::vs,?_,by simpa using c⟩;rw[List.mapM_cons];simp only[VP,a0L,a1n,a0K];rw[b];rfl
 | .cell a t::l,acc,K,h=>by
  unfold Hw RD at h;cases hr:(a0Q t (tm.getD a undef)).run P w with
  | halt x w'=>grind
  | ok v w'=>
   rw[hr] at h;obtain⟨rfl,h⟩:=h;obtain⟨vs,b,c⟩:=Z5 l _ K h;refine⟨v::vs,?_,zg⟩;rw[List.mapM_cons];have e:(VP tm (.cell a t)).run P w' = .ok v w':=by
    rw[<- hr];show(do loadVar t (<- asAddr (tm.getD a undef)):Sem Y).run P w'=_;unfold a0Q;generalize tm.getD a undef=u at *;unfold a0Q at hr;cases u with
    | pointer p=>
     cases p with
     | none=>simp only[a0L] at hr;cases hr
     | some p=>rfl
    | _=>simp only[a0L] at hr;cases hr
   grind [a0L,a1n,a0K]
def RG{P:Program}{K:List Y->Prop}(h:Hw P fn.results.toList iK w [] K) :
  ∃ l,(results fn iK).run P w = .ok (one l) w/\K l:=by
 obtain⟨vs,a,c⟩:=Z5 _ _ _ h;refine⟨vs,?_,zg⟩;unfold results;show(Sem.bind (fn.results.mapM (VP iK)) fun vs=>pure (if h:vs.size=1 then vs[0] else aq vs)).run P w=_;rw[Sem.run_bind',Array.mapM_eq_mapM_toList];simp only[Sem.run_map];rw[a];simp only[a0K,a1n]
 congr 1
 unfold one;split
 .rename_i b
  match vs,b with
  | [v],_=>rfl
 grind
def uX(P:Program):List ResultVar->(Nat->Y)->Z->List Y->(List Y->Prop)->Prop
 | [],_,_,acc,K=>K acc
 | .tmp t::rs,f,w,acc,K=>uX P rs f w (acc++[f t]) K
 | .cell a t::rs,f,w,acc,K=>RD P (a0Q t (f a)) w (fun v=>uX P rs f w (acc++[v]) K) (fun _ _=>False)
def Mf{P:Program}{tm:Array Y}{f:Nat->Y}(h:∀ i,tm.getD i undef=f i)(w:Z):∀ (l:List ResultVar) (acc:List Y) (K:List Y->Prop),uX P l f w acc K->Hw P l tm w acc K
 | [],acc,K,hk=>hk
 | .tmp t::l,acc,K,hk=>by
  unfold uX at hk;unfold Hw;rw[h];exact Mf h w l _ K hk
 | .cell a t::l,acc,K,hk=>by
  unfold uX RD at hk;unfold Hw RD;rw[h];cases hr:(a0Q t (f a)).run P w with
  | ok v w'=>rw[hr] at hk;exact⟨hk.1,Mf h w l _ K hk.2⟩
  | halt x w'=>grind
def JC(P:Program)(fn:Func)(R:Ending->Z->Prop):Exit->Env->Z->Prop
 | .normal,a,w | .ret,a,w=>tid (uX P fn.results.toList a.f w [] fun l=>R (ai (one l)) w)
 | .panic b,_,w=>R (.panicked b) w
 | _,_,_=>False
def OO:List Y->Nat->Y
 | [],_=>undef
 | v::_,0=>v
 | _::r,i+1=>OO r i
def v8(args:List Y):Env:={ f:=OO args,defers:=[] }
def aiG:∀ (l:List Y) (i:Nat),OO l i=l.getD i undef
 | [],i=>by simp [OO]
 | v::r,0=>rfl
 | v::r,i+1=>by
  unfold OO;rw[aiG r i];simp
def Z6{args:List Y}{vs:List Nat}(hv:vs.all (fun i=>decide (i<n))=A)(a:args.length<=n) :
  Rel vs { tmps:=args.toArray++Array.replicate (n-args.toArray.size) undef,defers:=[] } (v8 args):=by
 refine⟨fun i=>?_,J,fun i b=>?_⟩
 .show _=OO args i;rw[aiG];simp only[a1V,List.getD_eq_getElem?_getD,Array.getElem?_append];grind
 grind
def calls{C:mv}(G:Good C){f:FuncId}{c:Code}{args:List Y}(k:C.P.funcs[f]?=O fn)(m:fn.body=O c)
  (n:nd c=A) (hv:((wr c).all fun i=>decide (i<fn.ntmps))=A) (o:args.length<=fn.ntmps) (h:gz C c (JC C.P fn R) (v8 args) w):Calls C.P f args.toArray w R:=by
 refine calls_of_wp k m (wp_mono (AP G c _ _ (v8 args) w zg (Z6 hv o) h) fun e a' w' p=>?_);obtain⟨e',b,q,a⟩:=p;have d:a'.defers=[]:=by rw[b.defs];exact q.defs n
 cases e with
 | normal=>obtain⟨l,g,j⟩:=RG (Mf b.get w' _ _ _ a);exact⟨d,_,g,j⟩
 | ret=>obtain⟨l,g,j⟩:=RG (Mf b.get w' _ _ _ a);exact⟨d,_,g,j⟩
 | panic r=>exact⟨d,a⟩
 | _=>exact a.elim
def LV(P:Program)(res:Z->Prop)(R:Ending->Z->Prop):List Deferred->FrameMode->Z->Prop
 | [],.returning,w=>res w
 | [],.panicking chain,w=>R (.panicked chain) w
 | [],.run,_=>False
 | d::ds,u,w=>u≠.run/\∃ b cap f args,d.target = .fn b cap/\(invoke d.target d.args).run P w = .ok (.enter f args) w /\
  CallsD P f args u w fun
   | ai _,a,w'=>LV P res R ds (settle a) w'
   | .panicked chain,a,w'=>LV P res R ds (raised a chain) w'
   | .outgrown,_,_=>False
theorem CallsD.mono{P:Program}{f:FuncId}{args:Array Y}{u:FrameMode}{R a:Ending->FrameMode->Z->Prop}(h:CallsD P f args u w R)
  (hr:∀ e u w,R e u w->a e u w):CallsD P f args u w a:=
 fun c cs b=>let ⟨e,d,w',fr,g,i⟩:=h c cs b; zg
def RI{P:Program}{fn:Func}{tm:Array Y}{f:Nat->Y}(a:∀ i,tm.getD i undef=f i){R:Ending->Z->Prop}:∀ (ds:List Deferred) (u:FrameMode) (w:Z),
  LV P (fun w=>uX P fn.results.toList f w [] fun l=>R (ai (one l)) w) R ds u w->Leaves P fn tm R ds u w
 | [],.returning,w,h=>by obtain⟨l,b,c⟩:=RG (Mf a w _ _ _ h);exact⟨_,b,c⟩
 | [],.panicking _,w,h=>h
 | [],.run,w,h=>h.elim
 | d::ds,u,w,h=>by
  obtain⟨b,g,cap,f,args,c,j,k⟩:=h;refine⟨b,g,cap,f,args,c,j,CallsD.mono k fun e m w' he=>?_⟩;cases e with
  | returned v=>exact RI a ds _ _ he
  | panicked n=>exact RI a ds _ _ he
  | outgrown=>grind
def Mg(P:Program)(fn:Func)(R:Ending->Z->Prop):Exit->Env->Z->Prop
 | .normal,a,w | .ret,a,w=>LV P (fun w=>uX P fn.results.toList a.f w [] fun l=>R (ai (one l)) w) R a.defers .returning w
 | .panic b,a,w=>LV P (fun w=>uX P fn.results.toList a.f w [] fun l=>R (ai (one l)) w) R a.defers (.panicking b) w
 | _,_,_=>False
def atT{C:mv}(G:Good C){f:FuncId}{c:Code}{args:List Y}(d:C.P.funcs[f]?=O fn)(g:fn.body=O c)
  (hv:((wr c).all fun i=>decide (i<fn.ntmps))=A) (j:args.length<=fn.ntmps) (h:gz C c (Mg C.P fn R) (v8 args) w):Calls C.P f args.toArray w R:=by
 refine calls_of_wp_defers d g (wp_mono (AP G c _ _ (v8 args) w zg (Z6 hv j) h) fun e a' w' k=>?_);obtain⟨e',a,l,b⟩:=k;cases e with
 | normal=>show Leaves _ _ _ _ _ _ _;rw[a.defs];exact RI a.get _ _ _ b
 | ret=>show Leaves _ _ _ _ _ _ _;rw[a.defs];exact RI a.get _ _ _ b
 | panic m=>show Leaves _ _ _ _ _ _ _;rw[a.defs];exact RI a.get _ _ _ b
 | _=>exact b.elim
def atU{C:mv}(G:Good C){f:FuncId}{c:Code}{args:List Y}{S:Prop}(d:C.P.funcs[f]?=O fn)(e:fn.body=O c)
  (g:nd c=A) (hv:((wr c).all fun i=>decide (i<fn.ntmps))=A) (j:args.length<=fn.ntmps) (b:List Nat) (he:qi b (v8 args) (fun a=>gz C c (JC C.P fn R) a w)=S) (h:S):Calls C.P f args.toArray w R:=
 calls G d e g hv j (JB b _ (he ▸ h))
def atV{C:mv}(G:Good C){f:FuncId}{c:Code}{args:List Y}{S:Prop}(d:C.P.funcs[f]?=O fn)(e:fn.body=O c)
  (hv:((wr c).all fun i=>decide (i<fn.ntmps))=A) (g:args.length<=fn.ntmps) (b:List Nat) (he:qi b (v8 args) (fun a=>gz C c (Mg C.P fn R) a w)=S) (h:S):Calls C.P f args.toArray w R:=
 atT G d e hv g (JB b _ (he ▸ h))
def BT{P:Program}{res:Z->Prop}{R:Ending->Z->Prop}{k:FuncId}{cap args:Array Y}{ds:List Deferred}{u:FrameMode}{w:Z}(hk:zE P k=A)(hu:u≠.run)
  (h:CallsD P k (args++cap) u w fun
   | ai _,a,w'=>LV P res R ds (settle a) w'
   | .panicked chain,a,w'=>LV P res R ds (raised a chain) w'
   | .outgrown,_,_=>False):LV P res R ({ target:=.fn (.func k) cap,args:=args }::ds) u w:=
 ⟨hu,_,_,k,args++cap,J,Rs hk (args++cap) w,h⟩
def Z7{P:Program}:LV P res R [] .returning w=res w:=rfl
def Z8{P:Program}{a:List PanicEntry}:LV P res R [] (.panicking a) w=R (.panicked a) w:=rfl
def VQ(f:Fn)(x y:Array Y)(K:Fn->Array Y->Array Y->Prop):DF (.func f x y) K=K f x y:=rfl
def atW{C:mv}(G:Good C){f:FuncId}{c:Code}{args:List Y}{u:FrameMode}{S:Prop}(n:C.P.funcs[f]?=O fn)(o:fn.body=O c)
  (p:nd c=A) (hv:((wr c).all fun i=>decide (i<fn.ntmps))=A) (q:args.length<=fn.ntmps) (m:List Nat) (he:qi m (v8 args) (fun a=>gz C c (JC C.P fn R) a w)=S) (h:S) :
  CallsD C.P f args.toArray u w fun e r w'=>r=u/\R e w':=by
 have h:=JB m _ (he ▸ h);refine callsD_of_wp n o (wp_mono (AP G c _ _ (v8 args) w zg (Z6 hv q) h) fun e a' w' s=>?_);obtain⟨e',d,t,b⟩:=s;have g:a'.defers=[]:=by rw[d.defs];exact t.defs p
 cases e with
 | normal=>obtain⟨l,j,k⟩:=RG (Mf d.get w' _ _ _ b);exact⟨g,_,j,k⟩
 | ret=>obtain⟨l,j,k⟩:=RG (Mf d.get w' _ _ _ b);exact⟨g,_,j,k⟩
 | panic x=>exact⟨g,b⟩
 | _=>exact b.elim
def cq{C:mv}(G:Good C){f:FuncId}{c:Code}{args:List Y}{S:Prop}(b:C.P.funcs[f]?=O fn)(d:fn.body=O c)
  (hk:(nd c && ((wr c).all fun i=>decide (i<fn.ntmps)) && Nat.ble args.length fn.ntmps)=A) (he:qi [] (v8 args) (fun a=>gz C c (JC C.P fn R) a w)=S) (h:S):Calls C.P f args.toArray w R:=by
 simp only[a0W] at hk;exact atU G b d hk.1.1 hk.1.2 (Nat.le_of_ble_eq_true hk.2) [] he h
abbrev bo(op:BinOp)(t:TypeId)(x y:Operand)(a b:Y):Sem Y:=do eqGuard op t x y a b;binOp op t a b
def F3(P:Program)(s:Sem Y)(w:Z)(K:Y->Prop)(X:Y->Z->Prop):Prop:=RD P s w K X
def WU0(P:Program)(s:Sem Unit)(w:Z)(K:Z->Prop)(X:Y->Z->Prop):Prop:=WU P s w K X
def WR0(P:Program)(s:Sem Y)(w:Z)(K:Y->Z->Prop)(X:Y->Z->Prop):Prop:=WR P s w K X
def ig{P:Program}{s:Sem Y}(h:s.run P w = .ok v w):RD P s w K X=K v:=by
 unfold RD;grind
def atX{P:Program}{s:Sem Y}(h:s.run P w = .halt (.panic v) w'):RD P s w K X=X v w':=by
 unfold RD;grind
def xB{P:Program}{s:Sem Y}{K:Y->Z->Prop}(h:s.run P w = .ok v w'):WR P s w K X=K v w':=by
 unfold WR;grind
def RL{P:Program}{s:Sem Unit}{K:Z->Prop}(h:s.run P w = .ok () w'):WU P s w K X=K w':=by
 unfold WU;grind
def jF(a:Addr)(K:Y->Prop):NC (au (O a)) K=K (au (O a)):=rfl
def aaa(t:TypeId)(x:Y)(K:Y->Prop):NC (ak t x) K=K (ak t x):=rfl
def aab(f:FuncId)(x y:Array Y)(K:Y->Prop):NC (.func (.func f) x y) K=K (.func (.func f) x y):=rfl
def OP(a B:Prop):BS (.bool A) a B=a:=by simp [BS]
def OQ(a B:Prop):BS (.bool ae) a B=B:=by simp [BS]
def F4{p:Prop}[Decidable p](a B:Prop)(h:p):BS (.bool (decide p)) a B=a:=by simp [BS,h]
def F5{p:Prop}[Decidable p](a B:Prop)(h:¬ p):BS (.bool (decide p)) a B=B:=by simp [BS,h]
def aac{p:Prop}[Decidable p](a B:Prop):BS (.bool (decide p)) a B=((p->a)/\(¬ p->B)):=by simp [BS]
section
variable{P:Program}{t:TypeId}{x y:Operand}{w:Z}{K:Y->Prop}{X:Y->Z->Prop}
def aad(k:IntKind)(a b:Int):RD P (bo .add t x y (.int k a) (.int k b)) w K X=K (.int k (k.wrap (a+b))):=
 ig (by simp [bo,eqGuard,binOp,Op.intArith])
def aae(k:IntKind)(a b:Int):RD P (bo .sub t x y (.int k a) (.int k b)) w K X=K (.int k (k.wrap (a-b))):=
 ig (by simp [bo,eqGuard,binOp,Op.intArith])
def aaf(k:IntKind)(a b:Int):RD P (bo .mul t x y (.int k a) (.int k b)) w K X=K (.int k (k.wrap (a*b))):=
 ig (by simp [bo,eqGuard,binOp,Op.intArith])
def aag(k:IntKind)(a b:Int):RD P (bo .lss t x y (.int k a) (.int k b)) w K X=K (.bool (decide (a<b))):=
 ig (by simp [bo,eqGuard,binOp,a4M])
def aah(k:IntKind)(a b:Int):RD P (bo .leq t x y (.int k a) (.int k b)) w K X=K (.bool (decide (a<=b))):=
 ig (by simp [bo,eqGuard,binOp,a4M])
def aai(k:IntKind)(a b:Int):RD P (bo .gtr t x y (.int k a) (.int k b)) w K X=K (.bool (decide (b<a))):=
 ig (by simp [bo,eqGuard,binOp,a4M])
def aaj(k:IntKind)(a b:Int):RD P (bo .geq t x y (.int k a) (.int k b)) w K X=K (.bool (decide (b<=a))):=
 ig (by simp [bo,eqGuard,binOp,a4M])
def aak(k:IntKind)(a b:Int):RD P (bo .eql t x y (.int k a) (.int k b)) w K X=K (.bool (decide (a=b))):=
 ig (by simp [bo,eqGuard,binOp,a4M];grind)
def aal(k:IntKind)(a b:Int):RD P (bo .neq t x y (.int k a) (.int k b)) w K X=K (.bool (decide (¬ a=b))):=
 ig (by simp [bo,eqGuard,binOp,a4M];grind)
def aam(b:Bool):RD P (Op.unary .not (.bool b)) w K X=K (.bool !b):=ig J
def aan(k:IntKind)(n:Int):RD P (Op.unary .neg (.int k n)) w K X=K (.int k (k.wrap (0-n))):=ig J
def aao(a b:List UInt8):RD P (bo .eql t x y (.string (bs a)) (.string (bs b))) w K X=K (.bool (decide (a=b))):=
 ig (by simp [bo,eqGuard,binOp,Op.stringOp];grind)
def aap(a b:List UInt8):RD P (bo .neq t x y (.string (bs a)) (.string (bs b))) w K X=K (.bool (decide (¬ a=b))):=
 ig (by simp [bo,eqGuard,binOp,Op.stringOp];grind)
end
section
variable{P:Program}{t:TypeId}{x y:Operand}{w:Z}{K:Y->Prop}{X:Y->Z->Prop}
def Mh(a b:List UInt8)(h:a.length+b.length<=4294967296):RD P (bo .add t x y (.string (bs a)) (.string (bs b))) w K X=K (.string (bs (a++b))):=by
 refine ig ?_;have c:¬ (IntKind.i64.max<(((bs a).size+(bs b).size:Nat):Int)):=by
  have d:(bs a).size=a.length:=by simp [ByteArray.size]
  have f:(bs b).size=b.length:=by simp [ByteArray.size]
  have g:IntKind.i64.max=9223372036854775807:=zd;omega
 have e:bs a++bs b=bs (a++b):=by
  apply ByteArray.ext;grind [ByteArray.data_append]
 simp only[bo,eqGuard,binOp,Op.stringOp,a0L];show(if ((bs a).size+(bs b).size:Nat) > IntKind.i64.max then _ else _:Sem Y).run P w=_;rw[bO c,e];rfl
end
def bT(w:Z)(b:Nat)(o:Obj):Z:={ w with heap:=w.heap.setIfInBounds b o }
theorem uY(w:Z)(b:Nat)(o:Obj):(bT w b o).heap.size=w.heap.size:=by simp [bT]
theorem Mi{o:Obj}(h:b<w.heap.size):(w.alloc o).heap[b]?=w.heap[b]?:=by
 show(w.heap.push o)[b]?=_;grind
theorem tz{o:Obj}(h:b=w.heap.size):(w.alloc o).heap[b]?=O o:=by
 grind [blk_alloc_new]
theorem qo{o:Obj}(h:b=c)(a:b<w.heap.size):(bT w c o).heap[b]?=O o:=by
 grind [bT]
theorem jh{o:Obj}(h:¬ b=c):(bT w c o).heap[b]?=w.heap[b]?:=by
 simp [bT,Ne.symm h]
theorem RM(w:Z)(b:Nat):w.drew.heap[b]?=w.heap[b]?:=rfl
theorem BU(w:Z):w.drew.heap.size=w.heap.size:=rfl
def uZ{T:TypeId}(h:w.heap[b]?=O (ah cs T (0,0)))(v:Y):w.setCell ⟨b,o,V⟩ v=bT w b (ah (cs.setIfInBounds o v) T (0,0)):=by
 unfold a4G bT
 congr 1
 grind
def VR(P:Program)(T:TypeId):Bool:=
 match P.underlying T with
 | some (.struct _)=>ae
 | some (.array _ _)=>ae
 | some _=>A
 | none=>ae
def RN(P:Program)(T:TypeId)(n:Nat):Bool:=
 (match P.underlying T with
 | some (.struct _)=>A
 | some (.array _ _)=>A
 | _=>ae) && (match P.info? T with
 | some i=>i.size == n
 | none=>ae)
def sized(P:Program)(T:TypeId)(n:Nat):Bool:=
 match P.info? T with
 | some i=>i.size == n
 | none=>ae
def VS(x:Option Obj)(o:Nat)(K:Y->Prop)(D:Prop):RT (K,D):=
 match x with
 | some (ah cs _ _)=>(match cs[o]? with | some v=>K v | none=>D)
 | _=>D
def Mj(x:Option Obj)(o n:Nat)(K:Y->Prop)(D:Prop):RT (K,D):=
 match x with
 | some (ah cs _ _)=>if o+n<=cs.size then K (.agg ((cs.toList.drop o).take n).toArray) else D
 | _=>D
def oV(cs:Array Y)(o:Nat):List Y->Array Y
 | []=>cs
 | v::r=>oV (cs.setIfInBounds o v) (o+1) r
section mem
variable{P:Program}{T:TypeId}{b o:Nat}{w:Z}{K:Y->Prop}{X:Y->Z->Prop}
def aiK(h:VR P T=A)(w:Z):(isAgg T).run P w = .ok ae w:=by
 unfold VR at h;unfold isAgg underlying;simp only[a0L,program,a29,a0K];grind [a1n,a0K]
theorem F6(h:sized P T n=A)(w:Z):(sizeOf T).run P w = .ok n w:=by
 unfold sized at h;unfold sizeOf typeInfo;simp only[a0L,program,a29,a0K];split at h
 .rename_i i a;rw[a];simp only[a1n,a0K];grind
 grind
def atY(h:RN P T n=A):sized P T n=true:=by
 unfold RN at h;simp only[a0W] at h;exact h.2
def atZ(h:RN P T n=A)(w:Z):(isAgg T).run P w = .ok A w:=by
 unfold RN at h;simp only[a0W] at h;have h:=h.1;unfold isAgg underlying;simp only[a0L,program,a29,a0K];split at h
 .rename_i a;rw[a];rfl
 .rename_i a;rw[a];rfl
 grind
def ke(a:VR P T=A):RD P (a0Q T (au (O ⟨b,o,V⟩))) w K X=VS (w.heap[b]?) o K (F3 P (a0Q T (au (O ⟨b,o,V⟩))) w K X):=by
 unfold VS;split
 .rename_i cs t z c;split
  .rename_i v hv;refine ig ?_;simp only[a0Q,a4o,loadVar,a0L,a1n,a0K,aiK a,Bool.false_eq_true,if_false,load,a29,cellOf c hv]
  .rfl
 .rfl
def aaq(a:RN P T n=A):RD P (a0Q T (au (O ⟨b,o,V⟩))) w K X=Mj (w.heap[b]?) o n K (F3 P (a0Q T (au (O ⟨b,o,V⟩))) w K X):=by
 unfold Mj;split
 .rename_i cs t z c;split
  .rename_i g;refine ig ?_;have d:((cs.toList.drop o).take n).length=n:=zg;have f:∀ j v,((cs.toList.drop o).take n)[j]?=O v->w.cell? ((⟨b,o,V⟩:Addr).add j)=O v:=by
    intro j v hv;rw[List.getElem?_take] at hv;split at hv
    .rw[List.getElem?_drop] at hv;have e:(⟨b,o,V⟩:Addr).add j=⟨b,o+j,V⟩:=by unfold Addr.add;split<;>simp_all
     rw[e];exact cellOf c (by simpa using hv)
    .cases hv
   have:=run_loadCells_list (P:=P) w ⟨b,o,V⟩ ((cs.toList.drop o).take n) f;rw[d] at this;simp only[a0Q,a4o,loadVar,a0L,a1n,a0K,atZ a,if_true,F6 (atY a),this]
  .rfl
 .rfl
def aiL{U:TypeId}:∀ (vs:List Y) (i:Nat) (cs:Array Y) (w:Z),w.heap[b]?=O (ah cs U (0,0))->o+i+vs.length<=cs.size->(vs.all a1I)=A ->
  (storeCells ⟨b,o,V⟩ vs i).run P w = .ok () (bT w b (ah (oV cs (o+i) vs) U (0,0)))
 | [],i,cs,w,a,_,_=>by
  have j:=bn a;have:bT w b (ah cs U (0,0))=w:=by
   unfold bT;cases w
   congr 1
   grind
  simp [storeCells,oV,this]
 | v::vs,i,cs,w,a,d,c=>by
  simp only[List.length_cons] at d;simp only[List.all_cons,a0W] at c;have f:w.cell? ⟨b,o+i,V⟩=O cs[o+i]:=(by grind [cellOf]);have hu:(bT w b (ah (cs.setIfInBounds (o+i) v) U (0,0))).heap[b]?=O (ah (cs.setIfInBounds (o+i) v) U (0,0)):=qo J (bn a);have ih:=aiL vs (i+1) (cs.setIfInBounds (o+i) v) _ hu zg c.2;have e:(⟨b,o,V⟩:Addr).add i=⟨b,o+i,V⟩:=by unfold Addr.add;split<;>simp_all
  have g:∀ x y,bT (bT w b x) b y=bT w b y:=by
   intro x y;unfold bT;simp
  rw[g] at ih;simp only[storeCells,a0L,e,oV];have k:(store ⟨b,o+i,V⟩ v).run P w = .ok () (bT w b (ah (cs.setIfInBounds (o+i) v) U (0,0))):=by
   rw[<- uZ a];have h:=jO a (o+i);cases v<;>first | (simp [a1I] at c;done) | simp [store,a29,f,h]
  grind [a0K]
def RO(x:Option Obj)(w:Z)(b o n:Nat)(v:Y)(K:Z->Prop)(D:Prop):RT (K,D):=
 match x with
 | some (ah cs U z)=>if z=(0,0)/\v.cells.toList.length=n/\o+n<=cs.size/\(v.cells.toList.all a1I)=A then K (bT w b (ah (oV cs o v.cells.toList) U (0,0))) else D
 | _=>D
def nY(a:sized P T n=A)(v:Y){K:Z->Prop}:WU P (a1X T (au (O ⟨b,o,V⟩)) v) w K X=RO (w.heap[b]?) w b o n v K (WU0 P (a1X T (au (O ⟨b,o,V⟩)) v) w K X):=by
 unfold RO;split
 .rename_i cs U z c;split
  .rename_i h;obtain⟨rfl,e,f,d⟩:=h;refine RL ?_;have g:v.cells.size=n:=zo;have:=aiL (P:=P) (b:=b) (o:=o) v.cells.toList 0 cs w c zo d;simp only[a1X,a4o,storeVar,a0L,a1n,a0K,F6 a];grind
  .rfl
 .rfl
def zK(P:Program)(T:TypeId):Option Y:=(P.info? T).bind (·.zero)
def EG(h:zK P T=O z)(w:Z):(zeroValue T).run P w = .ok z w:=by
 unfold zK at h;unfold zeroValue typeInfo;simp only[a0L,program,a29,a0K];grind [a1n,a0K]
def zM(h:zK P T=O z){K:Y->Z->Prop}:WR P (Instr.alloc T A u) w K X=K (au (O ⟨w.heap.size,0,V⟩)) (w.alloc (ah z.cells T)):=by
 refine xB ?_;simp only[Instr.alloc,a0L,EG h,a0K,newVar,newRow,newObj,a29,a1n];rfl
def aar{K:Y->Z->Prop}:WR P (Instr.box T v) w K X=K (au (O ⟨w.heap.size,0,V⟩)) (w.alloc (ah v.cells T)):=by
 refine xB ?_;simp only[Instr.box,a0L,a0K,newVar,newRow,newObj,a29,a1n];rfl
end mem
def yH{p:Prop}(h:p:=by grind [jh,qo,Mi,tz,RM,size_alloc,uY,BU,bn]):p:=h
end Sx
