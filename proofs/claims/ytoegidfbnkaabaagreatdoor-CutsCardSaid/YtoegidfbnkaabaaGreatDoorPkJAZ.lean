/- A part of one proof (KG1, KG2, KG3, KG4, KG5, KG6, KG7, KG8, ShX3b, KG9). -/
import Derived.Test.YtoegidfbnkaabaaGreatDoorPkJAY
set_option linter.all false
set_option maxRecDepth 100000
set_option maxHeartbeats 8000000
open Option renaming some → O, none → V
open Go renaming Value → Y, World → Z
open Bool renaming true → A
open Go.Obj renaming cells → ae
open Go.Ending renaming returned → ah
open Go.Value renaming nilIface → ai, iface → aj, tuple → ak
open Go.Calls renaming mono → aZJ
open Nat renaming le_refl → aZK, le_trans → aZL, zero_le → aZY
open List renaming drop_eq_getElem_cons → aZP, mem_append → aZW, mem_singleton → aZ4, append_assoc → a0d, drop_length → a0y, modify_succ_cons → a0U
open Go.Value.slice renaming injEq → aZZ
open Option renaming map_eq_some_iff → aZ7, none → a2d
open Go.Builtin renaming append_ → a0e
open Go.Proofs.Tryz renaming prog → a9K
namespace Go.Proofs.YtoegidfbnkaabaaGreatDoor
open P
open Go.RowKit Sx
variable{F:Nat->Prop}{M N b base c g i j k m n pb:Nat}{X:Y->Z->Prop}{bl fx:List Nat}{cs iB:Array Y}{iv v vv:Y}{gj xs:List Y}{gy:List Bd}{yZ:Mk}{w w' w0:Z}{wd:Bs}
def Tryz.aOF:(Tryz.prog.info? 198).map (fun i=>(i.zero,i.size,i.bytes))=O (O (.agg #[aT [],aT [],ai,bV]),4,72):=zk
def afP(c:w.ownsRow base 198 4 v n xs){l:List Y}
  (d:w.heap[b]?=aM l.toArray 198) (q:l.length=4) (r:∀ u∈l,u.oneCell'=A)
  (s:n<=900000000) (f:base<=w.heap.size) {K:Y->Z->Prop}
  (h:∀ v' w',w'.ownsRow base 198 4 v' (n+1) (xs++l)->w.grownBy w' v.ownBlock->(v'.ownBlock=v.ownBlock\/∀ k,v'.ownBlock=O k->w.heap.size<=k)->K v' w') :
  WR a9K (a0e #[194,194] 194 #[v,cR b 1 m]) w K X:=by
 obtain⟨i,g,a⟩:=aZ7.1 Tryz.aOF;simp only[Prod.mk.injEq] at a;obtain⟨j,o,p⟩:=a;exact Sx.C3 (m:=1) (t:=194) (e:=198) zk g j o p J zo c d zo zg zo zo f h
def I1(w:Z)(v:Y)(s:List Nat)(bl:List Nat):Prop:=(s=[]/\v = bV/\bl=[])\/∃ b cap cs,bl=[b]/\s≠[]/\v = cR b s.length cap/\w.heap[b]?=aM cs 3/\cs.size=cap/\s.length<=cap/\cs.toList.take s.length=um s
def qs(w:Z):List Y->List P.In->List Nat->Prop
 | vs,[],sb=>vs=[]/\sb=[]
 | vs,i::r,sb=>∃ cv sv bl rest a,vs=[.string (bs i.word),.string (bs i.name),cv,sv]++rest/\sb=bl++a/\xO cv i.const/\I1 w sv i.s bl/\qs w rest r a
def tg:Option Nat->Y
 | none=>.int .i64 (-1)
 | some k=>.int .i64 (k:Int)
structure fJ(base mb vb:Nat)(iv vv:Y)(gj:List Y)(sb:List Nat)(cut:Int)(w:Z)(k:Mk):Prop where
 cell:w.heap[mb]?=aM #[zi (k.slots:Nat),iv,vv,zi cut] 247
 lo:base<=mb
 row:w.ownsRow base 198 4 iv k.ins.length gj
 ins:qs w gj k.ins sb
 vars:vv = cR vb k.vars.length k.vars.length/\w.heap[vb]?=O (ae (k.vars.map tg).toArray 3 (0,0))
 I2:base<=vb
 sep:∀ b∈sb,b≠vb
 I3:sb.Nodup
def GM(base mb vb:Nat)(b:Nat)(o:Obj):Prop:=b=mb\/b=vb\/(base<=b/\∃ cs,o = ae cs 198 (0,0))
abbrev iy(base mb vb:Nat)(w w':Z):Prop:=bB (GM base mb vb) w w'
theorem I1.bH{s:List Nat}(h:I1 w v s bl)(hk:∀ b∈bl,∀ cs:Array Y,w.heap[b]?=aM cs 3->w'.heap[b]?=aM cs 3):I1 w' v s bl:=by
 rcases h with h | ⟨b,cap,cs,rfl,a,c,d,e⟩
 .exact .inl h
 .exact .inr yH
theorem qs.bH{w w':Z}:∀ {l:List P.In} {vs:List Y} {sb:List Nat},qs w vs l sb->(∀ b∈sb,∀ cs:Array Y,w.heap[b]?=aM cs 3->w'.heap[b]?=aM cs 3)->qs w' vs l sb
 | [],vs,sb,h,_=>h
 | i::r,vs,sb,⟨cv,sv,bl,rest,a,c,d,e,g,f⟩,hk=>⟨cv,sv,bl,rest,a,c,d,e,(by grind [List.mem_append_left,I1.bH]),qs.bH f yH⟩
def qs.snoc{w:Z}{i:P.In}{l0:List Y}{b0:List Nat}:∀ {l:List P.In} {vs:List Y} {sb:List Nat},qs w vs l sb->qs w l0 [i] b0->qs w (vs++l0) (l++[i]) (sb++b0)
 | [],vs,sb,⟨b,c⟩,a=>zg
 | x::r,vs,sb,⟨cv,sv,bl,rest,d,b,c,e,f,g⟩,a=>⟨cv,sv,bl,rest++l0,d++b0,zg,zg,e,f,qs.snoc g a⟩
section
variable{base mb vb:Nat}{iv vv:Y}{gj:List Y}{sb:List Nat}{cut:Int}{w w':Z}{k:Mk}
def fJ.own(h:fJ base mb vb iv vv gj sb cut w k)(d:bB (fun b _=>b=mb) w w'){a:Int}(f:w'.heap[mb]?=aM #[zi (n:Nat),iv,vv,zi a] 247):fJ base mb vb iv vv gj sb a w' { k with slots:=n }:=by
 have j:∀ {b:Nat} {cs:Array Y} {T:Nat},T≠247->w.heap[b]?=aM cs T->w'.heap[b]?=aM cs T:=fun{b cs T} l c=>d.block b _ c fun e=>by
  rw[e,h.cell] at c;grind
 refine⟨f,h.lo,⟨h.row.1,?_⟩,h.ins.bH yH,(by grind [vars]),h.I2,h.sep,h.I3⟩
 .rcases h.row.2 with m | ⟨b,cap,cur,rfl,g,o,i⟩
  .exact yH
  .exact .inr ⟨b,cap,cur,J,g,yH,i⟩
def K8(h:fJ base mb vb iv vv gj sb cut w k)(r:k.slots<=64):Calls a9K 104 #[pp mb] w fun e w'=>iy base mb vb w w'/\match k.slot with
  | none=>e=gR (.fault 4)
  | some (s,k')=>e = ah (.int .i64 (s:Nat))/\fJ base mb vb iv vv gj sb cut w' k':=by
 have f:=h.cell;have lc:=bg f;refine aOA ?_;obtain⟨w1,j⟩:=cd (bO w mb (ae #[zi ((k.slots+1:Nat):Int),iv,vv,zi cut] 247));have g:bB (fun b _=>b=mb) w w1:=yF;have a:w1.heap[mb]?=aM #[zi ((k.slots+1:Nat):Int),iv,vv,zi cut] 247:=yH;have t:=h.own g (n:=k.slots+1) a;have l:iy base mb vb w w1:=g.mono fun b o _ e=>.inl e;have m:=bg a;have p:(k.slots:Int)+1=((k.slots+1:Nat):Int):=zo;have q:bO w mb (ae (oF #[zi (k.slots:Nat),iv,vv,zi cut] 0 (Value.int .i64 ((k.slots:Int)+1)).cells.toList) 247 (0,0))=w1:=by rw[j,<- p];rfl
 refine cH f ?_;rw[q];unfold Mk.slot;by_cases i:64<k.slots+1
 .rw[zip i];have c:((k.slots+1:Nat):Int) > 64:=zo;refine⟨fun _ _=>False,?_,by rintro _ _ h;exact h.elim⟩;refine du a c ?_;exact⟨l,J⟩
 .rw[bZ i];have c:¬ ((k.slots+1:Nat):Int) > 64:=zo;refine⟨fun _ w'=>w'=w1,?_,?_⟩
  .exact lP a c
  .rintro s w2 rfl d;refine cH a ?_;exact yF
def K9(h:fJ base mb vb iv vv gj sb cut w k){nm:Bs}{cv sv:Y}{con:Option Tm}{s:List Nat}(m:xO cv con)(L:I1 w sv s bl)(hd:∀ b∈bl,b ∉ sb/\b≠vb)(hn:k.ins.length<=100000) :
  Calls a9K 105 #[pp mb,aT wd,aT nm,cv,sv] w fun e w'=>e = ah (ak #[])/\iy base mb vb w w'/\∃ S U,fJ base mb vb S vv U (sb++bl) cut w' (k.put wd nm con s):=by
 have y:=h.cell;have lc:=bg y;have sT:=h.lo;obtain⟨pa,pc,z⟩:=gV h.row;have M:cv = ai\/∃ t u,cv = aj t u:=by
  cases con with
  | none=>exact .inl m
  | some t=>
   cases t with
   | atom s=>exact .inr ⟨_,_,m⟩
   | int s=>exact .inr ⟨_,_,m⟩
   | var i=>exact m.elim
   | comp s l=>exact m.elim
 obtain⟨sa,sn,sc,B⟩:∃ a n c,sv = .slice a n c:=by
  rcases L with⟨-,d,-⟩| ⟨b,cap,cs,-,-,d,-⟩<;>exact zg
 have KP:cv.oneCell'=true:=by rcases M with rfl | ⟨_,_,rfl⟩<;>rfl
 refine aOz ?_;have N:=y;rw[z] at N;obtain⟨l0,C⟩:∃ l0:List Y,l0=[aT wd,aT nm,cv,sv]:=⟨_,J⟩;obtain⟨w1,D⟩:=cd (w.alloc (ae l0.toArray 198 (0,0)));have p:Ext w w1:=yF;have s1:w1.heap.size=w.heap.size+1:=yH;have g1:w1.heap[w.heap.size]?=aM l0.toArray 198:=yH;rw[C] at D;have main:∀ {K:Y->Z->Prop} {X:Y->Z->Prop},(∀ v' w3,w3.ownsRow base 198 4 v' (k.ins.length+1) (gj++l0)->w1.grownBy w3 iv.ownBlock->(v'.ownBlock=iv.ownBlock\/∀ j,v'.ownBlock=O j->w1.heap.size<=j)->K v' w3) ->
   WR a9K (a0e #[194,194] 194 #[iv,cR w.heap.size 1 1]) w1 K X:=fun W=>
  afP (jJ p.ext h.row) g1 zg (by
   rw[C];intro u hu;simp only[List.mem_cons,List.not_mem_nil,or_false] at hu;rcases hu with rfl | rfl | rfl | rfl
   .rfl
   .rfl
   .omega
   .rw[B];rfl) zo zo W
 rcases M with rfl | ⟨ct,cu,rfl⟩;all_goals
  rw[B] at D;refine du N B ?_;rw[<- D,<- z];refine main fun v' w3 E q hv=>?_;obtain⟨P,pc',Dx⟩:=gV E;subst Dx;have Q:∀ {b:Nat} {cs:Array Y} {T:Nat},T≠198->w.heap[b]?=aM cs T->w3.heap[b]?=aM cs T:=fun{b cs T} hT f=>by
   have r:=p.ext _ _ f;rw[q.block b (bg r) (fun he=>?_)]
   .exact r
   .rcases h.row.2 with⟨d,-⟩| ⟨b',cap,cur,d,F,g,H⟩
    .rw[d] at he;cases he
    .rw[d] at he;cases he;rw[f] at g;injection g with g;injection g with _ g _;exact hT g
  have c3:=Q zd y;have l3:=bg c3;have x:=c3;rw[z] at x;refine cH @x ?_;obtain⟨R,I⟩:=cd (bO w3 mb (ae #[zi (k.slots:Nat),.slice P (k.ins.length+1) pc',vv,zi cut] 247));rw[<- I];have yh:∀ {b:Nat} {cs:Array Y} {T:Nat},T≠247->w3.heap[b]?=aM cs T->R.heap[b]?=aM cs T:=yH;have KZ:=q.size;refine⟨?_,.slice P (k.ins.length+1) pc',gj++l0,?_⟩
  .rw[I];refine⟨q.os.trans p.os,q.tape.trans p.tape,q.output.trans p.output,by rw[uC];omega,fun b o f hm=>?_⟩;have r:=p.ext _ _ f;rw[iY (fun e=>hm (.inl e)),q.block b (bg r) (fun he=>?_)]
   .exact r
   .rcases h.row.2 with⟨d,-⟩| ⟨b',cap,cur,d,F,g,H⟩
    .rw[d] at he;cases he
    .rw[d] at he;cases he;rw[f] at g;exact hm (.inr zg)
  .refine⟨by rw[I];exact pS J l3,h.lo,?_,?_,?_,h.I2,fun b f=>?_,?_⟩
   .show R.ownsRow base 198 4 _ (k.ins++[_]).length _;rw[List.length_append,List.length_singleton];refine⟨E.1,?_⟩;rcases E.2 with d | ⟨b,cap,cur,d,F,g,H⟩
    .exact yH
    .exact .inr ⟨b,cap,cur,d,F,yH,H⟩
   .refine qs.snoc (h.ins.bH yH) ⟨_,sv,bl,[],[],by rw[C];rfl,zg,m,(by grind [I1.bH]),J,J⟩
   .exact⟨h.vars.1,yh zd (Q zd h.vars.2)⟩
   .rcases aZW.1 f with f | f
    .exact h.sep b f
    .exact zg
   .rw[List.nodup_append];refine⟨h.I3,?_,zg⟩;rcases L with⟨-,-,rfl⟩| ⟨b,cap,cs,rfl,-⟩<;>simp
end
def Tryz.aOI:(Tryz.prog.info? 3).map (fun i=>(i.zero,i.size,i.bytes))=O (O (zi 0),1,8):=zk
def ap6(d:w.ownsRow base 3 1 v n xs){a:Y}
  (f:w.heap[b]?=aM #[a] 3) (q:a.oneCell'=A)
  (r:n<=100000000) (g:base<=w.heap.size) {K:Y->Z->Prop}
  (h:∀ v' w',w'.ownsRow base 3 1 v' (n+1) (xs++[a])->w.grownBy w' v.ownBlock->(v'.ownBlock=v.ownBlock\/∀ k,v'.ownBlock=O k->w.heap.size<=k)->K v' w') :
  WR a9K (a0e #[45,45] 45 #[v,cR b 1 m]) w K X:=by
 obtain⟨i,j,c⟩:=aZ7.1 Tryz.aOI;simp only[Prod.mk.injEq] at c;obtain⟨l,o,p⟩:=c;refine Sx.C3 (m:=1) (t:=45) (e:=3) zk j l o p J zo d f J (fun u hu=>?_) zo zo g h;grind
def ap7{name:Bs}{n:Int}{args:List Ex}(h:eL F w v (.mk pb name n k args))(hk:pb<256) :
  Calls a9K 137 #[v] w fun e w'=>w'=w/\∃ u,e = ah u/\xO u (O (Ce pb name n)):=by
 unfold eL at h;obtain⟨b,av,di,rfl,f,c,g,hx⟩:=h;refine aOB ?_;by_cases d:pb=110
 .have a:(pb:Int)=110:=zo;refine du c @a ?_;refine⟨_,J,?_⟩;unfold Ce;rw[zip d];rfl
 .have a:¬ (pb:Int)=110:=zo;refine du c @a ?_;refine⟨_,J,?_⟩;unfold Ce;rw[bZ d];rfl
def uu(base mb vb:Nat)(vv:Y)(sb:List Nat)(cut:Int)(w:Z)(r:Option Mk)(e:Ending)(w':Z):Prop:=
 iy base mb vb w w'/\match r with
  | none=>e=gR (.fault 4)
  | some k'=>e = ah (ak #[])/\∃ a c bl,(∀ b∈bl,w.heap.size<=b)/\fJ base mb vb a vv c (sb++bl) cut w' k'
section
variable{base mb vb:Nat}{iv vv:Y}{gj:List Y}{sb:List Nat}{cut:Int}{w w':Z}{k:Mk}
theorem qs.lt{w:Z}:∀ {l:List P.In} {vs:List Y} {sb:List Nat},qs w vs l sb->∀ b∈sb,b<w.heap.size
 | [],_,_,⟨_,c⟩,b,a=>yH
 | i::r,vs,sb,⟨cv,sv,bl,rest,f,g,c,h,d,e⟩,b,a=>by
  rw[c] at a;rcases aZW.1 a with a | a
  .rcases d with⟨-,-,rfl⟩| ⟨j,cap,cs,rfl,-,-,k,-⟩<;>grind
  .exact qs.lt e b a
theorem fJ.ext(h:fJ base mb vb iv vv gj sb cut w k)(a:Ext w w'):fJ base mb vb iv vv gj sb cut w' k:=
 ⟨a.ext _ _ h.cell,h.lo,jJ a.ext h.row,h.ins.bH (by grind [bB.ext]),(by grind [vars,bB.ext]),h.I2,h.sep,h.I3⟩
def Ft(h:fJ base mb vb iv vv gj sb cut w k){nm:Bs}{cv:Y}{con:Option Tm}{s:List Nat}(d:s≠[])(f:xO cv con)(g:k.ins.length<=100000)(q:vb<w.heap.size){K:Ending->Z->Prop}
  (i:∀ w',iy base mb vb w w'->(∃ j l,fJ base mb vb j vv l (sb++[w.heap.size]) cut w' (k.put wd nm con s))->K (ah (ak #[])) w') :
  Calls a9K 105 #[pp mb,aT wd,aT nm,cv,cR w.heap.size s.length s.length] (w.alloc (ae (um s).toArray 3 (0,0))) K:=by
 have a:Ext w (w.alloc (ae (um s).toArray 3 (0,0))):=yF;have m:(um s).length=s.length:=zs;have n:(w.alloc (ae (um s).toArray 3 (0,0))).heap[w.heap.size]?=O (ae (um s).toArray 3 (0,0)):=yH;refine aZJ (K9 (h.ext a) (bl:=[w.heap.size]) f (.inr ⟨w.heap.size,s.length,_,J,d,J,n,zs,aZK _,by rw[<- m];exact List.take_length⟩) (fun b c=>?_) g) ?_
 .rw[aZ4] at c;subst c;exact⟨fun hm=>by have:=h.ins.lt _ hm;omega,zo⟩
 .rintro e w' ⟨rfl,o,p⟩;exact i w' ((bB.mono a fun _ _ _ h=>h.elim).trans o) p
def fJ.ap8(h:fJ base mb vb iv vv gj sb cut w k){s:Nat}(e:j<k.vars.length)(a:vb<w.heap.size):fJ base mb vb iv vv gj sb cut (bO w vb (ae ((k.vars.map tg).toArray.setIfInBounds j (zi (s:Nat))) 3 (0,0))) { k with vars:=k.vars.set j (O s) } /\
  iy base mb vb w (bO w vb (ae ((k.vars.map tg).toArray.setIfInBounds j (zi (s:Nat))) 3 (0,0))):=by
 obtain⟨f,g⟩:=h.vars;have hk:∀ {b:Nat} {cs:Array Y} {T:Nat},(T≠3\/b≠vb)->w.heap[b]?=aM cs T->(bO w vb (ae ((k.vars.map tg).toArray.setIfInBounds j (zi (s:Nat))) 3 (0,0))).heap[b]?=aM cs T:=yH;refine⟨⟨(by grind [cell]),h.lo,⟨h.row.1,?_⟩,h.ins.bH (by grind [sep]),.intro ?_ ?_,h.I2,h.sep,h.I3⟩,(bB.refl _ _).bO (.inl fun _=>.inr (.inl J))⟩
 .rcases h.row.2 with i | ⟨b,cap,cur,rfl,c,l,d⟩
  .exact yH
  .exact .inr ⟨b,cap,cur,J,c,yH,d⟩
 .grind
 .rw[pS J a];grind [List.map_set,tg]
theorem fJ.kX(h:fJ base mb vb iv vv gj sb cut w k)(d:iy base mb vb w w'):∀ (b:Nat) (o:Obj),True->C5 o->w.heap[b]?=O o->w'.heap[b]?=O o:=fun b o _ c a=>by
 cases o with
 | cells cs t z=>
  obtain⟨ht,rfl⟩:=c;refine d.block _ _ a ?_;rintro (e | e | ⟨-,cs',e⟩)
  .rw[e,h.cell] at a;grind
  .rw[e,h.vars.2] at a;grind
  grind
 | _=>exact c.elim
def fJ.ex(h:fJ base mb vb iv vv gj sb cut w k)(a:iy base mb vb w w'){x:Ex}(hx:eL (fun _=>True) w v x):eL (fun _=>True) w' v x:=eL.mono zg (h.kX a) _ _ hx
end
section
variable{base mb vb:Nat}{iv vv:Y}{gj:List Y}{sb:List Nat}{cut:Int}{w w':Z}{k:Mk}
def aOJ(h:fJ base mb vb iv vv gj sb cut w k){x:Ex}{name:Bs}{n:Int}{kv:Nat}{args:List Ex}(M:x = .mk pb name n kv args)(N:pb≠99)(C:gZ k.vars.length x)(hx:eL (fun _=>True) w v x){s:Nat}(D:k.ins.length<=100000) :
  Calls a9K 106 #[pp mb,v,zi (s:Nat)] w (uu base mb vb vv sb cut w (yG x s k)):=by
 suffices H:∀ R:Ending->Z->Prop,(∀ m w',uu base mb vb vv sb cut w (yG x s k) m w'->R m w')->Calls a9K 106 #[pp mb,v,zi (s:Nat)] w R from H _ fun _ _ h=>h;intro R c;subst M;have P:=hx;unfold gZ at C;obtain⟨o1,o2,o3,o4,o5,o6,o7,o8⟩:=C;unfold eL at hx;obtain⟨b,av,di,rfl,hF,e,hs,lR⟩:=hx;have lb:=bg e;have f:=h.cell;have lc:=bg f;obtain⟨Q,g⟩:=h.vars;have lv:=bg g;have i:Ext w w.drew.drew:=yF;refine ap3 ?_;by_cases o:pb=118
 .have l:(pb:Int)=118:=zo;have S:=o4 o;have vz:(kv:Int)<(k.vars.length:Int):=zo;have p:(kv:Int).toNat=kv:=zo;have d:(k.vars.map tg).toArray[kv]?=O (tg k.vars[kv]):=zg;have T:(k.vars.map tg).toArray.size=k.vars.length:=zs;have E:=fun s=>h.ext i |>.ap8 (s:=s) S (by rw[BE,BE];exact lv);obtain⟨a,F⟩:=cd ((k.vars.map tg).toArray);rw[<- F] at g d T;rw[<- F] at E;unfold yG at c;rw[zip o] at c;have U:k.vars.getD kv V=k.vars[kv]:=zg;rw[U] at c;rw[Q] at f;cases I:k.vars[kv] with
  | none=>
   rw[I] at c d;have d:a[kv]?=O (zi (-1)):=d;refine dH e @l f (zA g (zA d @p)) ?_;obtain⟨r1,r2⟩:=E s;exact c _ _ ⟨yF,J,iv,gj,[],yH,zg⟩
  | some j=>
   rw[I] at c d;have d:a[kv]?=O (zi (j:Int)):=d;refine dH e @l f (zA g (zA d @p)) ?_;refine⟨fun w'=>Ext w w',i,?_⟩;rw[ju];refine cO (pq mb 2) (fun w' K=>eR) ?_;refine cO (cR vb k.vars.length k.vars.length) (fun w' K=>by have L:=K.ext _ _ f;have:=bg L;exact fa L) ?_;refine dH e g d @p ?_;refine⟨i.alloc _,?_⟩;refine Ft (h.ext i) (wd:=[115,97,109,101]) (nm:=[]) (cv:=ai) (con:=V) (s:=[s,j]) zs J D (yH) ?_;rintro w3 q ⟨r,z,B⟩;refine bE ?_;exact c _ _ ⟨(bB.mono i fun _ _ _ h=>h.elim).trans q,J,r,z,[w.heap.size],yH,B⟩
 .have l:¬ (pb:Int)=118:=zo;have W:¬ (pb:Int)=99:=zo;unfold yG at c;rw[bZ o,bZ N] at c;refine iZ e @l @W ?_;refine aZJ (ap7 P zo) ?_;rintro m w1 ⟨rfl,u,rfl,hu⟩;have X:u = ai\/∃ t y,u = aj t y:=by
   unfold Ce at hu;split at hu<;>exact .inr ⟨_,_,hu⟩
  rcases X with rfl | ⟨ct,cy,rfl⟩;all_goals
   refine bE ?_;refine Ft h (wd:=[99,111,110,115,116]) (nm:=[]) (con:=O (Ce pb name n)) (s:=[s]) zs hu D lv ?_;rintro w3 q ⟨r,z,B⟩;refine bE ?_;exact c _ _ ⟨q,J,r,z,[_],yH,B⟩
end
abbrev od(base:Nat)(w:Z)(v:Y)(l:List Nat):Prop:=w.ownsRow base 3 1 v l.length (um l)
section
variable{base mb vb ba:Nat}{iv vv v:Y}{gj:List Y}{sb l:List Nat}{cut:Int}{w w':Z}{k:Mk}
def od.one(s:Nat):od w.heap.size (w.alloc (ae #[zi (s:Int)] 3)) (cR w.heap.size 1 1) [s]:=
 ⟨J,.inr ⟨w.heap.size,1,_,J,aZK _,sx J,aZK _,zd,J,J⟩⟩
theorem od.nil:od ba w bV []:=⟨J,yH⟩
theorem od.bH(h:od ba w v l)(hk:∀ (g:Nat) (cs:Array Y),ba<=g->w.heap[g]?=aM cs 3->w'.heap[g]?=aM cs 3):od ba w' v l:=by
 refine⟨h.1,?_⟩;rcases h.2 with a | ⟨g,cap,cur,a,b,d,c⟩
 .exact yH
 .exact .inr ⟨g,cap,cur,a,b,yH,c⟩
theorem od.fr(h:od ba w v l)(a:iy base mb vb w w')(hm:mb<ba)(hv:vb<ba):od ba w' v l:=h.bH fun g cs c b=>a.block _ _ b (by
 rintro (e | e | ⟨-,cs',e⟩)<;>grind)
def od.own(h:od ba w v l)(a:v.ownBlock=O b):ba<=b/\b<w.heap.size/\∃ cs,w.heap[b]?=aM cs 3:=by
 rcases h.2 with⟨c,-⟩| ⟨g,cap,cur,c,d,e,f⟩
 .rw[c] at a;cases a
 .rw[c] at a;injection a with a;exact yH
def od.sin(h:od ba w v l)(c:l=[]->v = bV):∃ bl,I1 w v l bl/\∀ b∈bl,v.ownBlock=O b:=by
 by_cases d:l=[]
 .exact⟨[],.inl zg,zg⟩
 .rcases h.2 with⟨rfl,e⟩| ⟨g,cap,cur,rfl,f,i,j,k,m,n⟩
  .grind
  .exact⟨[g],.inr yH,fun b a=>by rw[aZ4] at a;subst a;rfl⟩
def od.push(h:od ba w v l)(f:ba<=w.heap.size)(k:l.length<=1000){s:Nat}{K:Y->Z->Prop}
  (g:∀ v' w',od ba w' v' (l++[s])->bB (fun b _=>v.ownBlock=O b) w w'->(v'.ownBlock=v.ownBlock\/∀ j,v'.ownBlock=O j->w.heap.size<=j)->K v' w') :
  WR a9K (a0e #[45,45] 45 #[v,cR w.heap.size 1 1]) (w.alloc (ae #[zi (s:Int)] 3)) K X:=by
 have a:Ext w (w.alloc (ae #[zi (s:Int)] 3)):=yF;refine ap6 (base:=ba) (jJ a.ext h) (sx J) J zo (by rw[size_alloc];omega) fun v' w' m c hv=>g v' w' ?_ ?_ ?_
 .grind
 .have:=c.size;have s1:=a.size;refine⟨c.os.trans a.os,c.tape.trans a.tape,c.output.trans a.output,zo,fun b o i hm=>?_⟩;have d:=a.ext _ _ i;rw[c.block b (bg d) (fun e=>hm e.symm)];exact d
 exact yH
def fJ.G2(h:fJ base mb vb iv vv gj sb cut w k){x:Option Nat}(d:bB (fun b _=>x=O b) w w')(hx:∀ b,x=O b->∃ cs,w.heap[b]?=aM cs 3)(e:∀ b∈sb,x≠O b)(hv:x≠O vb):fJ base mb vb iv vv gj sb cut w' k:=by
 have f:∀ {b:Nat} {cs:Array Y} {T:Nat},T≠3->w.heap[b]?=aM cs T->w'.heap[b]?=aM cs T:=(by grind [bB.block]);refine⟨(by grind [cell]),h.lo,⟨h.row.1,?_⟩,h.ins.bH (by grind [bB.block]),(by grind [vars,bB.block]),h.I2,h.sep,h.I3⟩;rcases h.row.2 with g | ⟨b,cap,cur,rfl,a,i,c⟩
 .exact yH
 .exact .inr ⟨b,cap,cur,J,a,yH,c⟩
def iy.own{x:Option Nat}(h:iy base mb vb w0 w)(a:bB (fun b _=>x=O b) w w')(hx:∀ b,x=O b->w0.heap.size<=b):iy base mb vb w0 w':=
 ⟨a.os.trans h.os,a.tape.trans h.tape,a.output.trans h.output,aZL h.size a.size,(by grind [bg,bB.block])⟩
theorem fJ.oT(h:fJ base mb vb iv vv gj sb cut w k)(c:iy base mb vb w w'){T:Nat}(a:w.heap[b]?=aM cs T)(d:T≠247/\T≠3/\T≠198):w'.heap[b]?=aM cs T:=c.block _ _ a (by
 rintro (e | e | ⟨-,cs',e⟩)
 .rw[e,h.cell] at a;grind
 .rw[e,h.vars.2] at a;grind
 grind)
theorem bB.dZ{M:Nat->Obj->Prop}(h:Ext w w'):bB M w w':=yF
end
def P.CJ(k:Mk)(i:Nat)(ls:List Nat)(a:Mk):Prop:=∀ q,k.rT (i+q)=match a.rT q with
 | none=>V
 | some (l',k')=>O (ls++l',k')
def P.CJ.zero(k:Mk):P.CJ k 0 [] k:=fun q=>by
 grind
theorem P.CJ.step{k a:Mk}{s:Nat}(h:P.CJ k i fx yZ)(b:yZ.slot=O (s,a)):P.CJ k (i+1) (fx++[s]) a:=fun q=>by
 have:=h (q+1);rw[Nat.add_assoc,Nat.add_comm 1 q,this];have e:yZ.rT (q+1)=match yZ.slot with
  | none=>V
  | some (s,m)=>match m.rT q with
   | none=>V
   | some (l,m)=>O (s::l,m):=rfl
 grind
theorem P.CJ.none{k a:Mk}{i n:Nat}{ls:List Nat}(h:P.CJ k i ls a)(c:a.slot=a2d)(d:i<n):k.rT n=a2d:=by
 have:=h (n-i-1+1);have b:i+(n-i-1+1)=n:=zo;rw[b] at this;rw[this];have e:a.rT (n-i-1+1)=match a.slot with
  | a2d=>a2d
  | some (s,m)=>match m.rT (n-i-1) with
   | a2d=>a2d
   | some (l,m)=>O (s::l,m):=rfl
 grind
def P.CJ.done{k:Mk}(h:P.CJ k i fx yZ):k.rT i=O (fx,yZ):=by
 have:=h 0;rw[Nat.add_zero] at this;grind [Mk.rT]
def Uc:∀ (l:List Ex) (j:Nat) (a:j<l.length),fH (l.drop j)=iA l[j]+fH (l.drop (j+1))
 | x::l,0,_=>by simp [fH]
 | x::l,j+1,a=>by simpa using Uc l j zg
def Yr:∀ (l:List Ex) (j:Nat),fH (l.drop j)<=fH l
 | [],j=>zg
 | x::l,0=>zs
 | x::l,j+1=>by have:=Yr l j;grind [fH]
section
variable{base mb vb:Nat}{cut:Int}
def ap9:∀ (n:Nat) (x:Ex),iA x<=n->∀ {iv vv:Y} {gj:List Y} {sb:List Nat} {w:Z} {k:Mk} {N s:Nat} {v:Y},fJ base mb vb iv vv gj sb cut w k->GK N k->N+iA x<=90000->gZ k.vars.length x->eL (fun _=>True) w v x->s<64 ->
  Calls a9K 106 #[pp mb,v,zi (s:Nat)] w (uu base mb vb vv sb cut w (yG x s k))
 | 0,x,hn,_,_,_,_,_,_,_,_,_,_,_,_,_,_,_=>by cases x;simp [iA] at hn
 | n+1,.mk kind name nn kv args,hn,iv,vv,gj,sb,w,k,N,s,v,h,hk,hN,dx,hx,aXy=>by
  have ih:=ap9 n;by_cases Yq:kind=99
  .suffices H:∀ R:Ending->Z->Prop,(∀ C w',uu base mb vb vv sb cut w (yG (.mk kind name nn kv args) s k) C w'->R C w')->Calls a9K 106 #[pp mb,v,zi (s:Nat)] w R from H _ fun _ _ h=>h;intro R c;have oH:=hx;unfold gZ at dx;obtain⟨o1,o2,o3,o4,o5,o6,o7,o8⟩:=dx;unfold eL at hx;obtain⟨b,av,di,rfl,hF,q,hs,lR⟩:=hx;have lb:=bg q;have Gm:=lR.E9;obtain⟨aa,ac,rfl⟩:=hs.sl;have hc:=h.cell;have lc:=bg hc;obtain⟨kz,jU⟩:=h.vars;have lv:=bg jU;simp only[iA] at hn hN;have e1:(kind:Int)=99:=zo;unfold yG at c;rw[bZ zo,zip Yq] at c;refine ap3 ?_;refine du q @e1 ?_;have dB:Ext w (w.alloc (ae #[zi (s:Int)] 3)):=yF;refine⟨fun m z w'=>∃ i ls l v1,z 65=zi ((i:Nat):Int)/\z 6=v1/\i<=args.length/\m=args.length-i/\ls.length=i/\P.CJ k i ls l/\fJ base mb vb iv vv gj sb cut w' l/\iy base mb vb w w'/\od w.heap.size w' v1 (s::ls)/\GK N l/\l.vars=k.vars/\∀ y∈ls,y<64,
    ⟨_,0,[],k,_,J,J,aZY _,J,J,P.CJ.zero k,h.ext dB,yF,od.one s,hk,J,zg⟩,?_⟩
   intro m z d w3 hI;refine toPr ?_;obtain⟨i,ls,l,v1,o,M,hi,rfl,Gt,iH,h1,Q,D,S,Pq,afR⟩:=hI;have h6':=M;obtain⟨ra,rc,rfl⟩:=gV D;have Qu:=Q.size;by_cases hlt:i<args.length
   .have ql:((i:Nat):Int)<(di.length:Int):=zo;refine du o ql ?_;refine aZJ (K8 h1 S.slots) ?_;rintro e w4 ⟨r,a⟩;cases E:l.slot with
    | none=>
     rw[E] at a;rw[iH.none E hlt] at c;have a:e=gR (.fault 4):=a;subst a;exact c _ _ ⟨yF,J⟩
    | some p=>
     obtain⟨s1,k2⟩:=p;rw[E] at a;obtain⟨he,h2⟩:e = ah (zi (s1:Nat))/\fJ base mb vb iv vv gj sb cut w4 k2:=a;subst he;obtain⟨q1,q2,q3,-⟩:=S.slot E;refine cH M ?_;have T:=D.fr r lc lv;have Lb:=r.size;refine T.push zo zg fun v5 w5 Qh iP xH=>?_;have B:=fun b=>T.own (b:=b);have yi:∀ b∈sb,(Value.slice ra (s::ls).length rc).ownBlock≠O b:=fun b q he=>by
      have:=(B b he).1;have:=h.ins.lt _ q;omega
     refine cH o ?_;refine⟨_,?_,i+1,ls++[s1],k2,v5,by simp [jd],by simp [jd],zo,J,by simp;omega,iH.step E,h2.G2 iP (fun b e=>(B b e).2.2) yi (fun e=>by have:=(B _ e).1;omega),iy.own (Q.trans r) iP (fun b e=>(B b e).1),Qh,q1,q3.trans Pq,?_⟩<;>grind
   .have lQ:i=args.length:=zo;subst lQ;have Ma:=iH.done;rw[Ma] at c;have c:∀ C w',uu base mb vb vv sb cut w (rU args ls (l.put [115,112,108,105,116] name V (s::ls))) C w'->R C w':=c;have eK:=h.oT Q q zd;have aOK:¬ (args.length:Int)<(di.length:Int):=zo;refine dH o M aOK eK ?_;obtain⟨bl,G7,oK⟩:=D.sin (fun h=>by cases h);have B:=fun b=>D.own (b:=b);refine aZJ (K9 h1 (wd:=[115,112,108,105,116]) (nm:=name) (cv:=ai) (con:=V) (s:=s::ls) J G7 (fun y hy=>?_) (aZL S.len zo)) ?_
    .have:=(B y (oK y hy)).1;exact⟨fun hm=>by have:=h.ins.lt _ hm;omega,zo⟩
    rintro e w4 ⟨rfl,r,Lc,Ld,h4⟩;have F:=Q.trans r;have hb4:=h.oT F q zd;have T:=D.fr r lc lv;obtain⟨U,qC⟩:=cd (l.put [115,112,108,105,116] name V (s::ls));rw[<- qC] at h4 c;have aOM:GK (N+1) U:=by
     rw[qC];exact S.put ⟨zs,o1,by simp [Cf],zg,zg⟩
    have aXA:U.vars=k.vars:=by rw[qC];exact Pq
    refine cH hb4 ?_;refine⟨fun m z w'=>∃ j f Bq Br I W,z 85=zi ((j:Nat):Int)/\j<=args.length/\m=args.length-j/\fJ base mb vb Bq vv Br (sb++bl++I) cut w' f/\(∀ b∈I,w.heap.size<=b)/\iy base mb vb w w'/\od w.heap.size w' (.slice ra (s::ls).length rc) (s::ls) /\
      rU args ls U=rU (args.drop j) (ls.drop j) f/\GK W f/\W+fH (args.drop j)<=N+1+fH args/\f.vars.length=k.vars.length,
     ⟨_,0,U,Lc,Ld,[],N+1,J,aZY _,J,zg,yH,F,T,J,aOM,aZK _,zg⟩,?_⟩
    intro m z1 d1 w5 hI;refine toPr ?_;obtain⟨j,f,Bq,Br,I,W,NO,hj,rfl,h5,Ud,K,Ue,heq,xR,hNj,CL⟩:=hI;have sz5:=K.size;by_cases L:j<args.length
    .have ql:j<di.length:=zo;obtain⟨sb1,IK,e3,e4,e5,e6⟩:=hs.at' ql;obtain⟨u,e7,hu⟩:=eO.at' j L lR;rw[e7] at e6;simp only[aZZ,true_and] at e3;obtain⟨rfl,rfl⟩:=e3;have jW:((j:Nat):Int).toNat=j:=zo;have aON:(((j:Nat):Int)+1).toNat=j+1:=zo;have I4:=h.oT K e5 zd;have fM:((j:Nat):Int)<(di.length:Int):=zo;obtain⟨g,gc,gu,ge,gh,gt⟩:=SX Ue (t:=j+1) zg;simp only[aZZ,true_and] at ge;obtain⟨rfl,rfl⟩:=ge;have aXB:j<ls.length:=zo;have gt2:gu[j+1]?=O (zi ((ls[j]:Nat):Int)):=zg;have AZ:(((j:Nat):Int)+1)<(((s::ls).length:Nat):Int):=zg;refine dH M NO fM (zA @I4 (zA @e6 (zA @jW (zA @aON (zA @gh (zA @gt2 AZ)))))) ?_;have Bt:gZ f.vars.length args[j]:=by rw[CL];exact o8.at L
     have PA:=Uc args j L;have afW:=Yr args j;have VR:iA args[j]<=n:=zo;refine aZJ (ih args[j] VR h5 xR zo Bt (h.ex K hu) (by grind [List.getElem_mem])) ?_;rintro e w6 ⟨pI,a⟩;have X:rU (args.drop j) (ls.drop j) f=match yG args[j] ls[j] f with
       | none=>V
       | some m=>rU (args.drop (j+1)) (ls.drop (j+1)) m:=by
      grind [aZP,rU]
     cases ht:yG args[j] ls[j] f with
     | none=>
      rw[ht] at a X;rw[heq,X] at c;have a:e=gR (.fault 4):=a;subst a;exact c _ _ ⟨yF,J⟩
     | some k6=>
      rw[ht] at a X;obtain⟨he,tj,tl,CM,Yu,G8⟩:=a;subst he;obtain⟨g1,g2⟩:=acW _ _ _ _ _ ht xR (afR _ (List.getElem_mem _)) Bt;refine cH NO ?_;refine⟨_,?_,j+1,k6,tj,tl,I++CM,W+iA args[j],by simp [jd],zo,J,by rw[<- a0d];exact G8,fun y hy=>?_,K.trans pI,Ue.fr pI lc lv,heq.trans X,g1,zo,g2.trans CL⟩<;>grind
    .have L:j=args.length:=zo;subst L;have fM:¬ (args.length:Int)<(di.length:Int):=zo;rw[heq,a0y,rU] at c;refine du NO fM ?_;refine c _ _ ⟨K,J,Bq,Br,bl++I,fun y hy=>?_,zg⟩;exact yH
  .exact aOJ h J Yq dx hx (aZL hk.len zo)
end
def aqb(base mb vb:Nat)(vv:Y)(sb:List Nat)(cut:Int)(w:Z)(r:Option (Nat×Mk))(e:Ending)(w':Z):Prop:=
 iy base mb vb w w'/\match r with
  | none=>e=gR (.fault 4)
  | some (s,k')=>e = ah (.int .i64 (s:Int))/\∃ a c bl,(∀ b∈bl,w.heap.size<=b)/\fJ base mb vb a vv c (sb++bl) cut w' k'
def P.uw(k:Mk)(xs:List Ex)(i:Nat)(ls:List Nat)(a:Mk):Prop:=rV xs k=match rV (xs.drop i) a with
 | none=>V
 | some (l',k')=>O (ls++l',k')
def P.uw.zero(k:Mk)(xs:List Ex):P.uw k xs 0 [] k:=by
 grind [P.uw,rV]
theorem P.uw.eq{a:Mk}{xs:List Ex}{i:Nat}(b:i<xs.length):rV (xs.drop i) a=match Ae xs[i] a with
 | none=>V
 | some (s,m)=>match rV (xs.drop (i+1)) m with
  | none=>V
  | some (l,m)=>O (s::l,m):=by grind [aZP,rV]
theorem P.uw.step{k a:Mk}{xs:List Ex}{s:Nat}(h:P.uw k xs i fx yZ)(b:i<xs.length)(c:Ae xs[i] yZ=O (s,a)):P.uw k xs (i+1) (fx++[s]) a:=by
 grind [P.uw,P.uw.eq,rV,eq]
theorem P.uw.none{k a:Mk}{xs:List Ex}{i:Nat}{ls:List Nat}(h:P.uw k xs i ls a)(b:i<xs.length)(c:Ae xs[i] a=a2d):rV xs k=a2d:=by
 grind [P.uw,P.uw.eq,eq]
def P.uw.done{k:Mk}{xs:List Ex}(h:P.uw k xs xs.length fx yZ):rV xs k=O (fx,yZ):=by
 unfold P.uw at h;rw[h,a0y,rV];simp
def P.VK(k:Mk):Prop:=∀ j,j<k.vars.length->∃ t:Nat,k.vars[j]?=O (O t)
section
variable{base mb vb:Nat}{cut:Int}
theorem od.aOO{s a:Nat}{l:List Nat}(h:od pb w (cR g n c) (a::l))(d:w.heap[g]?=aM iB 3) :
  od pb (bO w g (ae (iB.setIfInBounds 0 (zi (s:Int))) 3 (0,0))) (cR g n c) (s::l):=by
 refine⟨zs,?_⟩;rcases h.2 with⟨b,-⟩| ⟨q,cap,cur,b,i,f,j,k,m,o⟩
 .grind
 .simp only[aZZ,Option.some.injEq,Addr.mk.injEq,and_true] at b;obtain⟨rfl,rfl,rfl⟩:=b;rw[d] at f;cases f;refine .inr ⟨g,c,_,J,i,pS J (bg d),j,k,by simp [m],?_⟩;have e:(iB.setIfInBounds 0 (zi (s:Int))).toList=iB.toList.set 0 (zi (s:Int)):=zs;have p:iB.toList.take ((s::l).length*1)=um (a::l):=o;grind [List.take_set]
def aqc:∀ (n:Nat) (x:Ex),iA x<=n->∀ {iv vv:Y} {gj:List Y} {sb:List Nat} {w:Z} {k:Mk} {N:Nat} {v:Y},fJ base mb vb iv vv gj sb cut w k->GK N k->N+iA x<=90000->P.VK k->gZ k.vars.length x->eL (fun _=>True) w v x ->
  Calls a9K 139 #[pp mb,v] w (aqb base mb vb vv sb cut w (Ae x k))
 | 0,x,hn,_,_,_,_,_,_,_,_,_,_,_,_,_,_=>by cases x;simp [iA] at hn
 | n+1,.mk kind name nn kv args,hn,iv,vv,gj,sb,w,k,N,v,h,hk,hN,rC,dx,hx=>by
  have ih:=aqc n;suffices H:∀ R:Ending->Z->Prop,(∀ en w',aqb base mb vb vv sb cut w (Ae (.mk kind name nn kv args) k) en w'->R en w')->Calls a9K 139 #[pp mb,v] w R from H _ zg;intro R i;have oH:=hx;unfold gZ at dx;obtain⟨o1,o2,o3,o4,o5,o6,o7,o8⟩:=dx;unfold eL at hx;obtain⟨b,av,di,rfl,hF,f,hs,lR⟩:=hx;have lb:=bg f;have Gm:=lR.E9;obtain⟨aa,ac,rfl⟩:=hs.sl;have hc:=h.cell;have lc:=bg hc;obtain⟨kz,jU⟩:=h.vars;have lv:=bg jU;simp only[iA] at hn hN;have dC:Ext w w.drew:=yF;refine aOC ?_;unfold Ae at i;by_cases GJ:kind=118
  .have M:(kind:Int)=118:=zo;have yQ:=o4 GJ;obtain⟨t,ht⟩:=rC kv yQ;rw[zip GJ,List.getD_eq_getElem?_getD,ht] at i;have vz:(kv:Int)<(k.vars.length:Int):=zo;have oR:(kv:Int).toNat=kv:=zo;have jC:(k.vars.map tg).toArray[kv]?=O (zi ((t:Nat):Int)):=by grind [tg]
   have La:(k.vars.map tg).toArray.size=k.vars.length:=zs;obtain⟨a,hA⟩:=cd ((k.vars.map tg).toArray);rw[<- hA] at jU jC La;rw[kz] at hc;refine dH f @M hc (zA jU (zA jC @oR)) ?_;exact i _ _ ⟨yF,J,iv,gj,[],yH,by rw[List.append_nil];exact h.ext dC⟩
  .have M:¬ (kind:Int)=118:=zo;rw[bZ GJ] at i;by_cases uY:kind=99
   .have e2:(kind:Int)=99:=zo;have e2b:¬ (kind:Int)≠99:=zo;rw[bZ zo] at i;refine iZ f @M @e2 ?_;have dB:Ext w (w.alloc (ae #[zi 0] 3)):=yF;refine⟨fun m z w'=>∃ j o Bq Br q Q ls v1,z 44=zi ((j:Nat):Int)/\z 6=v1/\j<=args.length/\m=args.length-j/\ls.length=j/\fJ base mb vb Bq vv Br (sb++q) cut w' o/\(∀ b∈q,w.heap.size<=b/\v1.ownBlock≠O b)/\iy base mb vb w w'/\od w.heap.size w' v1 (0::ls) /\
      P.uw k args j ls o/\GK Q o/\Q+fH (args.drop j)<=N+fH args/\o.vars=k.vars/\∀ y∈ls,y<64,
     ⟨_,0,k,iv,gj,[],N,[],_,J,J,aZY _,J,J,by rw[List.append_nil];exact h.ext dB,yH,yF,od.one 0,P.uw.zero k args,hk,aZK _,J,zg⟩,?_⟩
    intro m z d w3 hI;refine toPr ?_;obtain⟨j,o,Bq,Br,q,Q,ls,v1,NQ,S,hj,rfl,Gt,h3,Ud,pJ,T,mg,U,hNj,CL,afR⟩:=hI;obtain⟨ra,rc,rfl⟩:=gV T;have Qu:=pJ.size;have W:=fun b=>T.own (b:=b);by_cases r:j<args.length
    .have ql:j<di.length:=zo;obtain⟨sb1,IK,e3,e4,e5,e6⟩:=hs.at' ql;obtain⟨u,e7,hu⟩:=eO.at' j r lR;rw[e7] at e6;simp only[aZZ,true_and] at e3;obtain⟨rfl,rfl⟩:=e3;have jW:((j:Nat):Int).toNat=j:=zo;have I4:=h.oT pJ e5 zd;have fM:((j:Nat):Int)<(di.length:Int):=zo;refine dH NQ fM @I4 (zA @e6 @jW) ?_;have Bt:gZ o.vars.length args[j]:=by rw[CL];exact o8.at r
     have PA:=Uc args j r;have afW:=Yr args j;refine aZJ (ih args[j] zo h3 U zo (by grind [P.VK]) Bt (h.ex pJ hu)) ?_;rintro e C ⟨l,c⟩;have Lb:=l.size;cases ht:Ae args[j] o with
     | none=>
      rw[ht] at c;rw[mg.none r ht] at i;have c:e=gR (.fault 4):=c;subst c;refine bE ?_;exact i _ _ ⟨yF,J⟩
     | some p=>
      obtain⟨s1,E⟩:=p;rw[ht] at c;obtain⟨he,Lc,Ld,nj,NR,D⟩:=c;subst he;obtain⟨g1,g2,g3⟩:=acY _ _ _ _ _ ht U Bt;have F:=T.fr l lc lv;have aqd:=fun b=>F.own (b:=b);have aOP:=D.ins.lt;refine cH S ?_;have X:∀ b∈sb++q++nj,(Value.slice ra (0::ls).length rc).ownBlock≠O b:=fun b f he=>by
       rcases aZW.1 f with f | f
       .rcases aZW.1 f with f | f
        .have:=(W b he).1;have:=h.ins.lt _ f;omega
        grind
       grind
      refine F.push zo zg fun v5 I Qh K xH=>?_;refine cH NQ ?_;refine⟨_,?_,j+1,E,Lc,Ld,q++nj,Q+iA args[j],ls++[s1],v5,zg,zg,zo,J,zg,?_,fun y hy=>?_,iy.own yF K yH,Qh,mg.step r ht,g1,zo,g2.trans CL,fun y hy=>?_⟩
      .omega
      .rw[<- a0d];exact D.G2 K yH X zg
      .exact yH
      grind
    .have r:j=args.length:=zo;subst r;have fM:¬ (args.length:Int)<(di.length:Int):=zo;rw[mg.done] at i;simp only at i;refine du NQ fM ?_;refine aZJ (K8 h3 U.slots) ?_;rintro e C ⟨l,c⟩;have Lb:=l.size;cases B:o.slot with
     | none=>
      rw[B] at c i;have c:e=gR (.fault 4):=c;subst c;exact i _ _ ⟨yF,J⟩
     | some p=>
      obtain⟨s1,E⟩:=p;rw[B] at c i;obtain⟨he,D⟩:e = ah (zi (s1:Nat))/\fJ base mb vb Bq vv Br (sb++q) cut C E:=c;subst he;obtain⟨q1,q2,q3,-⟩:=U.slot B;have F:=T.fr l lc lv;have aqd:=fun b=>F.own (b:=b);obtain⟨g,gc,gu,ge,gh,gt⟩:=SX F (t:=0) zs;simp only[aZZ,true_and] at ge;obtain⟨rfl,rfl⟩:=ge;have lg:=bg gh;have gsz:0<gu.size:=by
       grind
      have qz:(0:Int)<(((0::ls).length:Nat):Int):=zg;obtain⟨I,nZ⟩:=cd (bO C g (ae (gu.setIfInBounds 0 (zi (s1:Int))) 3 (0,0)));have Ue:od w.heap.size I (.slice (O ⟨g,0,V⟩) (0::ls).length rc) (s1::ls):=by grind [od.aOO]
      have K:bB (fun b _=>O g=O b) C I:=yF;have X:∀ b∈sb++q,O g≠O b:=fun b f he=>by
       rcases aZW.1 f with f | f
       .have:=(W b he).1;have:=h.ins.lt _ f;omega
       .exact(Ud b f).2 he
      have h5:=D.G2 K yH X (fun e=>by have:=(W _ e).1;omega);have pH:iy base mb vb w I:=iy.own yF K (fun b e=>(W b e).1);have Th:=h.oT pH f zd;refine iZ S @gh @gsz ?_;rw[<- nZ];refine du S Th ?_;rw[<- nZ];obtain⟨bl,G7,oK⟩:=Ue.sin (fun h=>by cases h);refine aZJ (K9 h5 (wd:=[109,97,107,101]) (nm:=name) (cv:=ai) (con:=V) (s:=s1::ls) J G7 (fun y hy=>?_) (aZL q1.len zo)) ?_
      .have h1:=oK y hy;exact⟨fun hm=>X y hm h1,zg⟩
      rintro e w6 ⟨rfl,pI,tj,tl,G8⟩;have aOQ:=Ue.fr pI lc lv;obtain⟨g',gc',gu',L,gh',gt'⟩:=SX aOQ (t:=0) zs;simp only[aZZ,Option.some.injEq,Addr.mk.injEq,and_true,true_and] at L;obtain⟨rfl,-,rfl⟩:=L;have gt2:gu'[0]?=O (zi (s1:Int)):=zg;refine iZ S @gh' @gt2 ?_;refine i _ _ ⟨yF,J,tj,tl,q++bl,fun y hy=>?_,zg⟩;exact yH
   .have e2:¬ (kind:Int)=99:=zo;rw[zip uY] at i;refine iZ f @M @e2 ?_;refine aZJ (K8 h hk.slots) ?_;rintro e C ⟨l,c⟩;have Lb:=l.size;cases B:k.slot with
    | none=>
     rw[B] at c i;have c:e=gR (.fault 4):=c;subst c;exact i _ _ ⟨l,J⟩
    | some p=>
     obtain⟨s1,E⟩:=p;rw[B] at c i;obtain⟨he,D⟩:e = ah (zi (s1:Nat))/\fJ base mb vb iv vv gj sb cut C E:=c;subst he;obtain⟨q1,q2,q3,-⟩:=hk.slot B;refine bE ?_;refine aZJ (ap7 (h.ex l oH) zo) ?_;rintro en I ⟨rfl,u,rfl,hu⟩;have uk:u = ai\/∃ t y,u = aj t y:=by
      unfold Ce at hu;split at hu<;>exact .inr ⟨_,_,hu⟩
     rcases uk with rfl | ⟨ct,cy,rfl⟩;all_goals
      refine bE ?_;refine Ft D (wd:=[112,117,116]) (nm:=[]) (con:=O (Ce kind name nn)) (s:=[s1]) zs hu (aZL q1.len zo) zo ?_;rintro w6 pI ⟨tj,tl,G8⟩;refine bE ?_;exact i _ _ ⟨yF,J,tj,tl,[_],yH,G8⟩
end
def xU:List P.In->Nat
 | []=>0
 | i::r=>(if i.s=[] then 0 else 1)+xU r
def afX:∀ (a b:List P.In),xU (a++b)=xU a+xU b
 | [],b=>by simp [xU]
 | i::a,b=>by
  rw[List.cons_append,xU,xU,afX a b];omega
def qs.Qx{w:Z}:∀ {l:List P.In} {vs:List Y} {sb:List Nat},qs w vs l sb->sb.length=xU l
 | [],_,_,⟨_,a⟩=>by subst a;rfl
 | i::r,vs,sb,⟨cv,sv,bl,rest,f,g,a,h,c,d⟩=>by
  rw[a,List.length_append,qs.Qx d,xU];rcases c with⟨e,-,rfl⟩| ⟨b,cap,cs,rfl,e,-⟩<;>grind
theorem qs.land{w:Z}{i:P.In}{r:List P.In}{s2:List Nat}{g:Nat}(z:i.s≠[]):∀ {l:List P.In} {vs:List Y} {s1:List Nat},qs w vs (l++i::r) (s1++g::s2)->s1.length=xU l->(s1++g::s2).Nodup ->
  ∃ cap cs,vs[l.length*4+3]?=O (cR g i.s.length cap)/\w.heap[g]?=aM cs 3/\cs.size=cap/\i.s.length<=cap/\cs.toList.take i.s.length=um i.s /\
   ∀ (w':Z) (cs':Array Y) (s':List Nat),(∀ b∈s1++g::s2,b≠g->∀ cs:Array Y,w.heap[b]?=aM cs 3->w'.heap[b]?=aM cs 3)->w'.heap[g]?=aM cs' 3->cs'.size=cap->s'.length=i.s.length->cs'.toList.take s'.length=um s' ->
    qs w' vs (l++{ i with s:=s' }::r) (s1++g::s2)
 | [],vs,s1,h,c,m=>by
  have B:s1=[]:=List.length_eq_zero_iff.1 c;subst B;obtain⟨cv,sv,bl,rest,n,d,f,o,j,t⟩:=h;rcases j with⟨k,-,-⟩| ⟨b,cap,cs,rfl,k,rfl,C,D,E,F⟩
  .exact yH
  .have f:g::s2=b::n:=f;cases f;refine⟨cap,cs,zg,C,D,E,F,fun w' cs' s' hk p q u ht=>?_⟩;have M:g ∉ s2:=by
    grind
   refine⟨cv,_,[g],rest,s2,d,J,o,.inr ⟨g,cap,cs',J,fun e=>?_,zg,p,q,zg,ht⟩,(by grind [List.mem_cons_of_mem,bH])⟩;grind
 | x::l,vs,s1,h,c,m=>by
  obtain⟨cv,sv,bl,rest,n,d,f,o,j,t⟩:=h;have key:∃ a,s1=bl++a/\n=a++g::s2/\a.length=xU l:=by
   rw[xU] at c;rcases j with⟨k,-,rfl⟩| ⟨b,cap,cs,rfl,k,-⟩
   .grind
   .rw[bZ k] at c;cases s1 with
    | nil=>grind
    | cons y a=>
     grind
  obtain⟨a,rfl,rfl,H⟩:=key;rw[a0d] at m;have I:=List.nodup_append.1 m;obtain⟨cap,cs,q1,q2,q3,q4,K,L⟩:=qs.land z t H I.2.1;refine⟨cap,cs,?_,q2,q3,q4,K,fun w' cs' s' hk p q u ht=>?_⟩
  .rw[d,List.length_cons,show(l.length+1)*4+3=4+(l.length*4+3) from by omega];grind
  .refine⟨cv,sv,bl,rest,a++g::s2,d,a0d _ _ _,o,j.bH fun b N cs hx=>?_,L w' cs' s' yH p q u ht⟩;exact yH
def Fu(mb vb:Nat)(w:Z)(f:Y)(j:Nat)(sb:List Nat):Prop:=∃ xb a,f = .func (.func 160) #[] #[pp xb,pp a] /\
 w.heap[xb]?=aM #[pp mb] 245/\w.heap[a]?=aM #[zi (j:Int)] 3/\a≠vb/\a ∉ sb
section
variable{base mb vb ba:Nat}{iv vv v:Y}{gj:List Y}{sb l:List Nat}{cut:Int}{w w':Z}{k:Mk}
theorem Fu.fr{f:Y}(c:Fu mb vb w f j sb)(h:fJ base mb vb iv vv gj sb cut w k)(d:iy base mb vb w w')(l:∀ b∈bl,w.heap.size<=b):Fu mb vb w' f j (sb++bl):=by
 obtain⟨xb,g,rfl,m,a,i,n⟩:=c;refine⟨xb,g,J,(by grind [fJ.oT]),d.block _ _ a ?_,i,fun hm=>?_⟩
 .rintro (e | e | ⟨-,cs',e⟩)
  .rw[e,h.cell] at a;grind
  .omega
  grind
 grind
def Fu.G2{f:Y}(c:Fu mb vb w f j sb)(m:g∈sb)(hx:∃ cs,w.heap[g]?=aM cs 3)(a:bB (fun b _=>O g=O b) w w'):Fu mb vb w' f j sb:=by
 obtain⟨xb,d,rfl,h,i,k,l⟩:=c;refine⟨xb,d,J,a.block _ _ h (fun e=>?_),a.block _ _ i (fun e=>?_),k,l⟩<;>grind
def Uf(h:fJ base mb vb iv vv gj sb cut w k)(l:k.ins.length<=100000)(wd:Bs):Calls a9K 138 #[pp mb,aT wd] w fun e w'=>iy base mb vb w w' /\
  ∃ b c g f,e = ah f/\w.heap.size<=g/\fJ base mb vb b vv c (sb++[g]) cut w' (k.put wd [] V [0])/\Fu mb vb w' f k.ins.length (sb++[g]):=by
 suffices H:∀ R:Ending->Z->Prop,(∀ e w',(iy base mb vb w w'/\∃ b c g f,e = ah f/\w.heap.size<=g/\fJ base mb vb b vv c (sb++[g]) cut w' (k.put wd [] V [0])/\Fu mb vb w' f k.ins.length (sb++[g]))->R e w') ->
  Calls a9K 138 #[pp mb,aT wd] w R from H _ fun _ _ h=>h
 intro R m;have d:=h.cell;have lc:=bg d;have lv:=bg h.vars.2;obtain⟨x,pc,n⟩:=gV h.row;refine aOD ?_;have i:=d;rw[n] at i;refine cH i ?_;obtain⟨a,o⟩:=cd (bO ((w.alloc (ae #[pp mb] 245)).alloc (ae #[zi 0] 3)) (w.heap.size+1) (ae #[zi (k.ins.length:Int)] 3));rw[<- o,size_alloc];have j:Ext w a:=yF;have p:a.heap.size=w.heap.size+1+1:=yH;have g1:a.heap[w.heap.size]?=aM #[pp mb] 245:=yH;have g2:a.heap[w.heap.size+1]?=aM #[zi (k.ins.length:Int)] 3:=yH;have q:=h.ext j;have r:Fu mb vb a (.func (.func 160) #[] #[pp w.heap.size,pp (w.heap.size+1)]) k.ins.length sb:=⟨_,_,J,g1,g2,zo,fun hm=>by have:=h.ins.lt _ hm;omega⟩;rw[<- p];refine Ft q (wd:=wd) (nm:=[]) (cv:=ai) (con:=V) (s:=[0]) zs J l zo ?_;rintro y t ⟨b,c,u⟩;refine bE ?_;exact m _ _ ⟨(bB.dZ j).trans t,b,c,a.heap.size,_,J,zo,u,(by grind [aZ4,Fu.fr])⟩
def Ug{f:Y}{l r:List P.In}{i:P.In}{s1 s2:List Nat}(h:fJ base mb vb iv vv gj sb cut w k)(I:Fu mb vb w f j sb)(L:k.ins=l++i::r)(hl:l.length=j)(z:i.s.length=1)(m:sb=s1++g::s2)(M:s1.length=xU l){K:Ending->Z->Prop}
  (N:∀ w',bB (fun b _=>O g=O b) w w'->(∃ cs,w.heap[g]?=aM cs 3)->fJ base mb vb iv vv gj sb cut w' (k.land j)->K (ah (ak #[])) w') :
  ∃ x y,f = .func (.func 160) #[] #[x,y]/\Calls a9K 160 #[x,y] w K:=by
 have Q:i.s≠[]:=zg;have B:=h.ins;rw[L,m] at B;have a:=h.I3;rw[m] at a;obtain⟨cap,cs,q1,q2,q3,q4,q5,R⟩:=B.land Q M a;obtain⟨xb,yb,rfl,g1,g2,g3,g4⟩:=I;refine⟨_,_,J,?_⟩;have C:=h.cell;have lg:=bg q2;obtain⟨pa,pc,yX⟩:=gV h.row;have lQ:k.ins.length=l.length+1+r.length:=zg;have S:(j:Int)<(k.ins.length:Int):=zo;have U:(j:Int).toNat=j:=zo;have D:=h.row;rcases D.2 with⟨n,E⟩| ⟨W,o,cur,n,E,F,X,h5,h6,h7⟩
 .omega
 have H:=C;rw[n] at H;have lib:=bg F;have ns:cur[j*4+3]?=O (cR g i.s.length cap):=by
  grind
 have VR:0<cs.size:=zo;refine aOE ?_;refine dH @g1 @g2 H (zA F (zA S (zA @U (zA ns (zA z (zA @q2 VR)))))) ?_;obtain⟨c,p⟩:=cd (bO w.drew g (ae (cs.setIfInBounds 0 (zi (k.ins.length:Int))) 3 (0,0)));rw[<- p];have d:bB (fun b _=>O g=O b) w c:=yF;have q:c.heap[g]?=aM (cs.setIfInBounds 0 (zi (k.ins.length:Int))) 3:=yH;have hb:∀ {b:Nat} {cs:Array Y} {T:Nat},T≠3->w.heap[b]?=aM cs T->c.heap[b]?=aM cs T:=yH;have KZ:g∈sb:=zg;have t:(k.land j).ins=l++{ i with s:=[k.ins.length] }::r:=by
  unfold Mk.land;simp only;have:=WV (fun x:P.In=>{ x with s:=[k.ins.length] }) l (i::r) 0;grind
 have hlen:(k.land j).ins.length=k.ins.length:=zg;refine N c d yH ⟨hb zo C,h.lo,?_,?_,⟨h.vars.1,d.block _ _ h.vars.2 (fun e=>?_)⟩,h.I2,h.sep,h.I3⟩
 .rw[hlen];exact⟨D.1,.inr ⟨W,o,cur,n,E,yH,X,h5,h6,h7⟩⟩
 .rw[t,m];refine R c _ [k.ins.length] yH q zg zg ?_;have e:(cs.setIfInBounds 0 (zi (k.ins.length:Int))).toList=cs.toList.set 0 (zi (k.ins.length:Int)):=zs;have u:cs.toList.take [k.ins.length].length=um i.s:=zg;rw[e,List.take_set,u];obtain⟨x,hx⟩:=List.length_eq_one_iff.1 z;grind
 .injection e with e;exact h.sep g KZ e
end
open Go.Proofs.YtoegidfbnkaabaaGreatDoor.Sx
section
variable{p0 p1 p2 p3 p4 p5 p6 p7:Y}{w:Z}{R:Ending->Z->Prop}
def Ui:=cz w R [p0,p1,p2] (gc [(3,[15,27]),(14,[73])] [] [28,45,60,61,66,67,74,82,83,110,111,157,158]) Tryz.func107
end
theorem aqj{α:Type}(f:α->α):∀ (a b:List α) (q:Nat),q<a.length->(a++b).modify q f=a.modify q f++b
 | [],b,q,h=>zg
 | x::a,b,0,h=>zs
 | x::a,b,q+1,h=>by
  rw[List.cons_append,a0U,a0U,aqj f a b q zg];rfl
def P.aqk(b:Bd)(c:Nat)(m:Mk):rW [b] c m=kS b c m:=by
 unfold rW;cases kS b c m with
 | none=>rfl
 | some m=>simp [rW]
def P.aql{m:Mk}{w:Bs}(a:j<m.ins.length):∃ X,((m.put w [] V [0]).land j).ins=X++[⟨w,[],V,[0]⟩]/\X.length=m.ins.length:=by
 grind [Mk.land,Mk.put,aqj]
section
variable{base mb vb:Nat}{cut:Int}
def fJ.bd{k:Mk}(h:fJ base mb vb iv vv gj fx cut w k)(a:iy base mb vb w w'){x:Bd}(hx:dL (fun _=>True) w v x):dL (fun _=>True) w' v x:=dL.mono zg (h.kX a) _ _ hx
abbrev Uj(base mb vb:Nat)(cut:Int)(n:Nat):Prop:=∀ (x:Bd),iR x<=n->∀ {iv vv:Y} {gj:List Y} {sb:List Nat} {w:Z} {k:Mk} {N M cs:Nat} {v:Y},fJ base mb vb iv vv gj sb cut w k->GK N k->N+4*iR x<=90000->P.VK k->eW k.vars.length M x->dL (fun _=>True) w v x->cs<64 ->
 Calls a9K 107 #[pp mb,v,zi (cs:Nat)] w (uu base mb vb vv sb cut w (kS x cs k))
theorem VK.of{k k':Mk}(h:P.VK k)(hv:k'.vars=k.vars):P.VK k':=by grind [P.VK]
def aqm:∀ (l:List Bd) (j:Nat) (a:j<l.length),js (l.drop j)=iR l[j]+js (l.drop (j+1))
 | x::l,0,_=>by simp [js]
 | x::l,j+1,a=>by simpa using aqm l j zg
def aqn:∀ (l:List Bd) (j:Nat),js (l.drop j)<=js l
 | [],j=>zg
 | x::l,0=>zs
 | x::l,j+1=>by have:=aqn l j;grind [js]
def aqo:∀ (l:List Bd),l.length<=js l
 | []=>zs
 | x::l=>by have:=aqo l;grind [amj,js]
def aqp(ih:Uj base mb vb cut n){name:Bs}{args:List Ex}(U:iR (.mk pb name args gy)<=n+1)(W:pb=33\/pb=44){k:Mk}{cs:Nat}
  (h:fJ base mb vb iv vv gj fx cut w k) (hk:GK N k) (X:N+4*iR (.mk pb name args gy)<=90000) (rC:P.VK k) (B:eW k.vars.length M (.mk pb name args gy)) (hx:dL (fun _=>True) w v (.mk pb name args gy)) (C:cs<64) :
  Calls a9K 107 #[pp mb,v,zi (cs:Nat)] w (uu base mb vb vv fx cut w (kS (.mk pb name args gy) cs k)):=by
 suffices H:∀ R:Ending->Z->Prop,(∀ D w',uu base mb vb vv fx cut w (kS (.mk pb name args gy) cs k) D w'->R D w')->Calls a9K 107 #[pp mb,v,zi (cs:Nat)] w R from H _ fun _ _ h=>h;intro R c;unfold eW at B;obtain⟨o1,o2,o3,o4,o5,o6,o7,o8⟩:=B;unfold dL at hx;obtain⟨b,av,pv,vs,us,rfl,-,E,gw,DX,F,I⟩:=hx;have hc:=h.cell;have lv:=bg h.vars.2;have uh:=I.GP;obtain⟨pa,pc,rfl⟩:=F.sl;simp only[iR] at U X;have jS:=aqo gy;refine Ui ?_;unfold kS at c;rcases W with rfl | rfl
 .rw[zip rfl] at c;refine cH E ?_;refine Ft h (wd:=kR) (nm:=[]) (cv:=ai) (con:=V) (s:=[cs]) zs J (aZL hk.len zo) lv ?_;rintro w3 hG ⟨th,ti,h3⟩;refine bE ?_;exact c _ _ ⟨hG,J,th,ti,[_],yH,h3⟩
 .rw[bZ zd,zip rfl] at c;refine cH E ?_;refine⟨fun m z w'=>∃ j a p q g l,z 73=zi ((j:Nat):Int)/\j<=gy.length/\m=gy.length-j/\fJ base mb vb p vv q (fx++g) cut w' a/\(∀ b∈g,w.heap.size<=b)/\iy base mb vb w w' /\
    rW gy cs k=rW (gy.drop j) cs a/\GK l a/\l+4*js (gy.drop j)<=N+4*js gy/\a.vars=k.vars,
   ⟨_,0,k,iv,gj,[],N,J,aZY _,J,zg,yH,yF,J,hk,aZK _,J⟩,?_⟩
  intro m z1 d1 w5 hI;refine toPr ?_;obtain⟨j,a,p,q,g,l,r,hj,rfl,K,Ud,i,heq,L,hNj,t⟩:=hI;have sz5:=i.size;by_cases d:j<gy.length
  .have ql:j<us.length:=zo;obtain⟨sb1,IK,Q,e4,e5,S⟩:=F.at' ql;obtain⟨u,e7,hu⟩:=gx.Cs j d I;rw[e7] at S;simp only[aZZ,true_and] at Q;obtain⟨rfl,rfl⟩:=Q;have jW:((j:Nat):Int).toNat=j:=zo;have I4:=h.oT i e5 zd;have x:((j:Nat):Int)<(us.length:Int):=zo;refine dH r x @I4 (zA @S @jW) ?_;have PA:=aqm gy j d;have afW:=aqn gy j;have T:eW a.vars.length M gy[j]:=by rw[t];exact o8.at d
   refine aZJ (ih gy[j] zo K L zo (VK.of rC t) T (h.bd i hu) C) ?_;rintro e w6 ⟨pI,f⟩;have o:rW (gy.drop j) cs a=match kS gy[j] cs a with
     | none=>V
     | some m=>rW (gy.drop (j+1)) cs m:=by
    rw[aZP d,rW];rfl
   cases ht:kS gy[j] cs a with
   | none=>
    rw[ht] at f o;rw[heq,o] at c;have f:e=gR (.fault 4):=f;subst f;exact c _ _ ⟨yF,J⟩
   | some k6=>
    rw[ht] at f o;obtain⟨he,tj,tl,CM,Yu,G8⟩:=f;subst he;obtain⟨g1,g2⟩:=DI _ _ _ _ _ ht L T C zo;refine cH r ?_;refine⟨_,?_,j+1,k6,tj,tl,g++CM,l+4*iR gy[j],by simp [jd],zo,J,by rw[<- a0d];exact G8,fun y hy=>?_,i.trans pI,heq.trans o,g1,zo,g2.trans t⟩<;>grind
  .have d:j=gy.length:=zo;subst d;have x:¬ (gy.length:Int)<(us.length:Int):=zo;rw[heq,a0y,rW] at c;refine du r x ?_;exact c _ _ ⟨i,J,p,q,g,Ud,K⟩
end
