/- A part of one proof (KG1, KG2, KG3, KG4, KG5, KG6, KG7, KG8, ShX3b, KG9). -/
import Derived.Test.YtoegidfbnkaabaaGreatDoorPkHAZ
set_option linter.all false
set_option maxRecDepth 100000
set_option maxHeartbeats 8000000
open Option renaming some → O, none → V
open Go renaming Value → Y, World → Z
open Bool renaming true → A
open Go.Obj renaming cells → ae
open Go.Ending renaming returned → ah
open Go.Value renaming nilIface → ai, iface → aj, tuple → ak
open Go.Calls renaming mono → a0c
open Nat renaming le_refl → a0d, le_trans → a0f, zero_le → a0r
open List renaming drop_eq_getElem_cons → a0h, mem_append → a0q, mem_singleton → a0x, append_assoc → a0I, drop_length → a01, modify_succ_cons → a1m
open Go.Value.slice renaming injEq → a0s
open Option renaming map_eq_some_iff → a0B, none → a2K
open Go.Builtin renaming append_ → a0G
open Go.Proofs.Tryz renaming prog → baf
namespace Go.Proofs.YtoegidfbnkaabaaGreatDoor
open P
open Go.RowKit Sx
variable{F:Nat->Prop}{M N b base c g i j k m n pb:Nat}{X:Y->Z->Prop}{bl fQ:List Nat}{cs iC:Array Y}{iv v vv:Y}{gk xs:List Y}{gz:List Bd}{zp:Mk}{w w' w0:Z}{wd:Bs}
def Tryz.aPu:(Tryz.prog.info? 198).map (fun i=>(i.zero,i.size,i.bytes))=O (O (.agg #[aM [],aM [],ai,bH]),4,72):=zk
def afS(c:w.ownsRow base 198 4 v n xs){l:List Y}
  (d:w.heap[b]?=aN l.toArray 198) (q:l.length=4) (r:∀ u∈l,u.oneCell'=A)
  (s:n<=900000000) (f:base<=w.heap.size) {K:Y->Z->Prop}
  (h:∀ v' w',w'.ownsRow base 198 4 v' (n+1) (xs++l)->w.grownBy w' v.ownBlock->(v'.ownBlock=v.ownBlock\/∀ k,v'.ownBlock=O k->w.heap.size<=k)->K v' w') :
  WR baf (a0G #[194,194] 194 #[v,cM b 1 m]) w K X:=by
 obtain⟨i,g,a⟩:=a0B.1 Tryz.aPu;simp only[Prod.mk.injEq] at a;obtain⟨j,o,p⟩:=a;exact Sx.C6 (m:=1) (t:=194) (e:=198) zk g j o p J zo c d zo zg zo zo f h
def I2(w:Z)(v:Y)(s:List Nat)(bl:List Nat):Prop:=(s=[]/\v = bH/\bl=[])\/∃ b cap cs,bl=[b]/\s≠[]/\v = cM b s.length cap/\w.heap[b]?=aN cs 3/\cs.size=cap/\s.length<=cap/\cs.toList.take s.length=uC s
def qy(w:Z):List Y->List P.In->List Nat->Prop
 | vs,[],sb=>vs=[]/\sb=[]
 | vs,i::r,sb=>∃ cv sv bl rest a,vs=[.string (bs i.word),.string (bs i.name),cv,sv]++rest/\sb=bl++a/\x8 cv i.const/\I2 w sv i.s bl/\qy w rest r a
def tH:Option Nat->Y
 | none=>.int .i64 (-1)
 | some k=>.int .i64 (k:Int)
structure fG(base mb vb:Nat)(iv vv:Y)(gk:List Y)(sb:List Nat)(cut:Int)(w:Z)(k:Mk):Prop where
 cell:w.heap[mb]?=aN #[zi (k.slots:Nat),iv,vv,zi cut] 247
 lo:base<=mb
 row:w.ownsRow base 198 4 iv k.ins.length gk
 ins:qy w gk k.ins sb
 vars:vv = cM vb k.vars.length k.vars.length/\w.heap[vb]?=O (ae (k.vars.map tH).toArray 3 (0,0))
 I3:base<=vb
 sep:∀ b∈sb,b≠vb
 I4:sb.Nodup
def GM(base mb vb:Nat)(b:Nat)(o:Obj):Prop:=b=mb\/b=vb\/(base<=b/\∃ cs,o = ae cs 198 (0,0))
abbrev iB(base mb vb:Nat)(w w':Z):Prop:=bz (GM base mb vb) w w'
theorem I2.bI{s:List Nat}(h:I2 w v s bl)(hk:∀ b∈bl,∀ cs:Array Y,w.heap[b]?=aN cs 3->w'.heap[b]?=aN cs 3):I2 w' v s bl:=by
 rcases h with h | ⟨b,cap,cs,rfl,a,c,d,e⟩
 .exact .inl h
 .exact .inr yH
theorem qy.bI{w w':Z}:∀ {l:List P.In} {vs:List Y} {sb:List Nat},qy w vs l sb->(∀ b∈sb,∀ cs:Array Y,w.heap[b]?=aN cs 3->w'.heap[b]?=aN cs 3)->qy w' vs l sb
 | [],vs,sb,h,_=>h
 | i::r,vs,sb,⟨cv,sv,bl,rest,a,c,d,e,g,f⟩,hk=>⟨cv,sv,bl,rest,a,c,d,e,(by grind [List.mem_append_left,I2.bI]),qy.bI f yH⟩
def qy.snoc{w:Z}{i:P.In}{l0:List Y}{b0:List Nat}:∀ {l:List P.In} {vs:List Y} {sb:List Nat},qy w vs l sb->qy w l0 [i] b0->qy w (vs++l0) (l++[i]) (sb++b0)
 | [],vs,sb,⟨b,c⟩,a=>zg
 | x::r,vs,sb,⟨cv,sv,bl,rest,d,b,c,e,f,g⟩,a=>⟨cv,sv,bl,rest++l0,d++b0,zg,zg,e,f,qy.snoc g a⟩
section
variable{base mb vb:Nat}{iv vv:Y}{gk:List Y}{sb:List Nat}{cut:Int}{w w':Z}{k:Mk}
def fG.own(h:fG base mb vb iv vv gk sb cut w k)(d:bz (fun b _=>b=mb) w w'){a:Int}(f:w'.heap[mb]?=aN #[zi (n:Nat),iv,vv,zi a] 247):fG base mb vb iv vv gk sb a w' { k with slots:=n }:=by
 have j:∀ {b:Nat} {cs:Array Y} {T:Nat},T≠247->w.heap[b]?=aN cs T->w'.heap[b]?=aN cs T:=fun{b cs T} l c=>d.block b _ c fun e=>by
  rw[e,h.cell] at c;grind
 refine⟨f,h.lo,⟨h.row.1,?_⟩,h.ins.bI yH,(by grind [vars]),h.I3,h.sep,h.I4⟩
 .rcases h.row.2 with m | ⟨b,cap,cur,rfl,g,o,i⟩
  .exact yH
  .exact .inr ⟨b,cap,cur,J,g,yH,i⟩
def Lg(h:fG base mb vb iv vv gk sb cut w k)(r:k.slots<=64):Calls baf 104 #[pp mb] w fun e w'=>iB base mb vb w w'/\match k.slot with
  | none=>e=gV (.fault 4)
  | some (s,k')=>e = ah (.int .i64 (s:Nat))/\fG base mb vb iv vv gk sb cut w' k':=by
 have f:=h.cell;have lc:=bf f;refine aPp ?_;obtain⟨w1,j⟩:=b9 (bO w mb (ae #[zi ((k.slots+1:Nat):Int),iv,vv,zi cut] 247));have g:bz (fun b _=>b=mb) w w1:=yF;have a:w1.heap[mb]?=aN #[zi ((k.slots+1:Nat):Int),iv,vv,zi cut] 247:=yH;have t:=h.own g (n:=k.slots+1) a;have l:iB base mb vb w w1:=g.mono fun b o _ e=>.inl e;have m:=bf a;have p:(k.slots:Int)+1=((k.slots+1:Nat):Int):=zo;have q:bO w mb (ae (ot #[zi (k.slots:Nat),iv,vv,zi cut] 0 (Value.int .i64 ((k.slots:Int)+1)).cells.toList) 247 (0,0))=w1:=by rw[j,<- p];rfl
 refine cG f ?_;rw[q];unfold Mk.slot;by_cases i:64<k.slots+1
 .rw[zip i];have c:((k.slots+1:Nat):Int) > 64:=zo;refine⟨fun _ _=>False,?_,by rintro _ _ h;exact h.elim⟩;refine dy a c ?_;exact⟨l,J⟩
 .rw[bX i];have c:¬ ((k.slots+1:Nat):Int) > 64:=zo;refine⟨fun _ w'=>w'=w1,?_,?_⟩
  .exact lT a c
  .rintro s w2 rfl d;refine cG a ?_;exact yF
def Lh(h:fG base mb vb iv vv gk sb cut w k){nm:Bs}{cv sv:Y}{con:Option Tm}{s:List Nat}(m:x8 cv con)(L:I2 w sv s bl)(hd:∀ b∈bl,b ∉ sb/\b≠vb)(hn:k.ins.length<=100000) :
  Calls baf 105 #[pp mb,aM wd,aM nm,cv,sv] w fun e w'=>e = ah (ak #[])/\iB base mb vb w w'/\∃ S U,fG base mb vb S vv U (sb++bl) cut w' (k.put wd nm con s):=by
 have y:=h.cell;have lc:=bf y;have qk:=h.lo;obtain⟨pa,pc,z⟩:=gX h.row;have M:cv = ai\/∃ t u,cv = aj t u:=by
  cases con with
  | none=>exact .inl m
  | some t=>
   cases t with
   | atom s=>exact .inr ⟨_,_,m⟩
   | int s=>exact .inr ⟨_,_,m⟩
   | var i=>exact m.elim
   | comp s l=>exact m.elim
 obtain⟨sa,sn,sc,B⟩:∃ a n c,sv = .slice a n c:=by
  rcases L with⟨-,d,-⟩| ⟨b,cap,cs,-,-,d,-⟩<;>exact zg
 have KU:cv.oneCell'=true:=by rcases M with rfl | ⟨_,_,rfl⟩<;>rfl
 refine aPo ?_;have N:=y;rw[z] at N;obtain⟨l0,C⟩:∃ l0:List Y,l0=[aM wd,aM nm,cv,sv]:=⟨_,J⟩;obtain⟨w1,D⟩:=b9 (w.alloc (ae l0.toArray 198 (0,0)));have p:Ext w w1:=yF;have s1:w1.heap.size=w.heap.size+1:=yH;have g1:w1.heap[w.heap.size]?=aN l0.toArray 198:=yH;rw[C] at D;have main:∀ {K:Y->Z->Prop} {X:Y->Z->Prop},(∀ v' w3,w3.ownsRow base 198 4 v' (k.ins.length+1) (gk++l0)->w1.grownBy w3 iv.ownBlock->(v'.ownBlock=iv.ownBlock\/∀ j,v'.ownBlock=O j->w1.heap.size<=j)->K v' w3) ->
   WR baf (a0G #[194,194] 194 #[iv,cM w.heap.size 1 1]) w1 K X:=fun W=>
  afS (jM p.ext h.row) g1 zg (by
   rw[C];intro u hu;simp only[List.mem_cons,List.not_mem_nil,or_false] at hu;rcases hu with rfl | rfl | rfl | rfl
   .rfl
   .rfl
   .omega
   .rw[B];rfl) zo zo W
 rcases M with rfl | ⟨ct,cu,rfl⟩;all_goals
  rw[B] at D;refine dy N B ?_;rw[<- D,<- z];refine main fun v' w3 E q hv=>?_;obtain⟨P,pc',DE⟩:=gX E;subst DE;have Q:∀ {b:Nat} {cs:Array Y} {T:Nat},T≠198->w.heap[b]?=aN cs T->w3.heap[b]?=aN cs T:=fun{b cs T} hT f=>by
   have r:=p.ext _ _ f;rw[q.block b (bf r) (fun he=>?_)]
   .exact r
   .rcases h.row.2 with⟨d,-⟩| ⟨b',cap,cur,d,F,g,H⟩
    .rw[d] at he;cases he
    .rw[d] at he;cases he;rw[f] at g;injection g with g;injection g with _ g _;exact hT g
  have c3:=Q zd y;have l3:=bf c3;have x:=c3;rw[z] at x;refine cG @x ?_;obtain⟨R,I⟩:=b9 (bO w3 mb (ae #[zi (k.slots:Nat),.slice P (k.ins.length+1) pc',vv,zi cut] 247));rw[<- I];have yw:∀ {b:Nat} {cs:Array Y} {T:Nat},T≠247->w3.heap[b]?=aN cs T->R.heap[b]?=aN cs T:=yH;have K6:=q.size;refine⟨?_,.slice P (k.ins.length+1) pc',gk++l0,?_⟩
  .rw[I];refine⟨q.os.trans p.os,q.tape.trans p.tape,q.output.trans p.output,by rw[uN];omega,fun b o f hm=>?_⟩;have r:=p.ext _ _ f;rw[jd (fun e=>hm (.inl e)),q.block b (bf r) (fun he=>?_)]
   .exact r
   .rcases h.row.2 with⟨d,-⟩| ⟨b',cap,cur,d,F,g,H⟩
    .rw[d] at he;cases he
    .rw[d] at he;cases he;rw[f] at g;exact hm (.inr zg)
  .refine⟨by rw[I];exact pX J l3,h.lo,?_,?_,?_,h.I3,fun b f=>?_,?_⟩
   .show R.ownsRow base 198 4 _ (k.ins++[_]).length _;rw[List.length_append,List.length_singleton];refine⟨E.1,?_⟩;rcases E.2 with d | ⟨b,cap,cur,d,F,g,H⟩
    .exact yH
    .exact .inr ⟨b,cap,cur,d,F,yH,H⟩
   .refine qy.snoc (h.ins.bI yH) ⟨_,sv,bl,[],[],by rw[C];rfl,zg,m,(by grind [I2.bI]),J,J⟩
   .exact⟨h.vars.1,yw zd (Q zd h.vars.2)⟩
   .rcases a0q.1 f with f | f
    .exact h.sep b f
    .exact zg
   .rw[List.nodup_append];refine⟨h.I4,?_,zg⟩;rcases L with⟨-,-,rfl⟩| ⟨b,cap,cs,rfl,-⟩<;>simp
end
def Tryz.aPx:(Tryz.prog.info? 3).map (fun i=>(i.zero,i.size,i.bytes))=O (O (zi 0),1,8):=zk
def aqk(d:w.ownsRow base 3 1 v n xs){a:Y}
  (f:w.heap[b]?=aN #[a] 3) (q:a.oneCell'=A)
  (r:n<=100000000) (g:base<=w.heap.size) {K:Y->Z->Prop}
  (h:∀ v' w',w'.ownsRow base 3 1 v' (n+1) (xs++[a])->w.grownBy w' v.ownBlock->(v'.ownBlock=v.ownBlock\/∀ k,v'.ownBlock=O k->w.heap.size<=k)->K v' w') :
  WR baf (a0G #[45,45] 45 #[v,cM b 1 m]) w K X:=by
 obtain⟨i,j,c⟩:=a0B.1 Tryz.aPx;simp only[Prod.mk.injEq] at c;obtain⟨l,o,p⟩:=c;refine Sx.C6 (m:=1) (t:=45) (e:=3) zk j l o p J zo d f J (fun u hu=>?_) zo zo g h;grind
def aql{name:Bs}{n:Int}{args:List Ex}(h:eG F w v (.mk pb name n k args))(hk:pb<256) :
  Calls baf 137 #[v] w fun e w'=>w'=w/\∃ u,e = ah u/\x8 u (O (Ce pb name n)):=by
 unfold eG at h;obtain⟨b,av,di,rfl,f,c,g,hx⟩:=h;refine aPq ?_;by_cases d:pb=110
 .have a:(pb:Int)=110:=zo;refine dy c @a ?_;refine⟨_,J,?_⟩;unfold Ce;rw[zip d];rfl
 .have a:¬ (pb:Int)=110:=zo;refine dy c @a ?_;refine⟨_,J,?_⟩;unfold Ce;rw[bX d];rfl
def uG(base mb vb:Nat)(vv:Y)(sb:List Nat)(cut:Int)(w:Z)(r:Option Mk)(e:Ending)(w':Z):Prop:=
 iB base mb vb w w'/\match r with
  | none=>e=gV (.fault 4)
  | some k'=>e = ah (ak #[])/\∃ a c bl,(∀ b∈bl,w.heap.size<=b)/\fG base mb vb a vv c (sb++bl) cut w' k'
section
variable{base mb vb:Nat}{iv vv:Y}{gk:List Y}{sb:List Nat}{cut:Int}{w w':Z}{k:Mk}
theorem qy.lt{w:Z}:∀ {l:List P.In} {vs:List Y} {sb:List Nat},qy w vs l sb->∀ b∈sb,b<w.heap.size
 | [],_,_,⟨_,c⟩,b,a=>yH
 | i::r,vs,sb,⟨cv,sv,bl,rest,f,g,c,h,d,e⟩,b,a=>by
  rw[c] at a;rcases a0q.1 a with a | a
  .rcases d with⟨-,-,rfl⟩| ⟨j,cap,cs,rfl,-,-,k,-⟩<;>grind
  .exact qy.lt e b a
theorem fG.ext(h:fG base mb vb iv vv gk sb cut w k)(a:Ext w w'):fG base mb vb iv vv gk sb cut w' k:=
 ⟨a.ext _ _ h.cell,h.lo,jM a.ext h.row,h.ins.bI (by grind [bz.ext]),(by grind [vars,bz.ext]),h.I3,h.sep,h.I4⟩
def FD(h:fG base mb vb iv vv gk sb cut w k){nm:Bs}{cv:Y}{con:Option Tm}{s:List Nat}(d:s≠[])(f:x8 cv con)(g:k.ins.length<=100000)(q:vb<w.heap.size){K:Ending->Z->Prop}
  (i:∀ w',iB base mb vb w w'->(∃ j l,fG base mb vb j vv l (sb++[w.heap.size]) cut w' (k.put wd nm con s))->K (ah (ak #[])) w') :
  Calls baf 105 #[pp mb,aM wd,aM nm,cv,cM w.heap.size s.length s.length] (w.alloc (ae (uC s).toArray 3 (0,0))) K:=by
 have a:Ext w (w.alloc (ae (uC s).toArray 3 (0,0))):=yF;have m:(uC s).length=s.length:=zs;have n:(w.alloc (ae (uC s).toArray 3 (0,0))).heap[w.heap.size]?=O (ae (uC s).toArray 3 (0,0)):=yH;refine a0c (Lh (h.ext a) (bl:=[w.heap.size]) f (.inr ⟨w.heap.size,s.length,_,J,d,J,n,zs,a0d _,by rw[<- m];exact List.take_length⟩) (fun b c=>?_) g) ?_
 .rw[a0x] at c;subst c;exact⟨fun hm=>by have:=h.ins.lt _ hm;omega,zo⟩
 .rintro e w' ⟨rfl,o,p⟩;exact i w' ((bz.mono a fun _ _ _ h=>h.elim).trans o) p
def fG.aqm(h:fG base mb vb iv vv gk sb cut w k){s:Nat}(e:j<k.vars.length)(a:vb<w.heap.size):fG base mb vb iv vv gk sb cut (bO w vb (ae ((k.vars.map tH).toArray.setIfInBounds j (zi (s:Nat))) 3 (0,0))) { k with vars:=k.vars.set j (O s) } /\
  iB base mb vb w (bO w vb (ae ((k.vars.map tH).toArray.setIfInBounds j (zi (s:Nat))) 3 (0,0))):=by
 obtain⟨f,g⟩:=h.vars;have hk:∀ {b:Nat} {cs:Array Y} {T:Nat},(T≠3\/b≠vb)->w.heap[b]?=aN cs T->(bO w vb (ae ((k.vars.map tH).toArray.setIfInBounds j (zi (s:Nat))) 3 (0,0))).heap[b]?=aN cs T:=yH;refine⟨⟨(by grind [cell]),h.lo,⟨h.row.1,?_⟩,h.ins.bI (by grind [sep]),.intro ?_ ?_,h.I3,h.sep,h.I4⟩,(bz.refl _ _).bO (.inl fun _=>.inr (.inl J))⟩
 .rcases h.row.2 with i | ⟨b,cap,cur,rfl,c,l,d⟩
  .exact yH
  .exact .inr ⟨b,cap,cur,J,c,yH,d⟩
 .grind
 .rw[pX J a];grind [List.map_set,tH]
theorem fG.ll(h:fG base mb vb iv vv gk sb cut w k)(d:iB base mb vb w w'):∀ (b:Nat) (o:Obj),True->C8 o->w.heap[b]?=O o->w'.heap[b]?=O o:=fun b o _ c a=>by
 cases o with
 | cells cs t z=>
  obtain⟨ht,rfl⟩:=c;refine d.block _ _ a ?_;rintro (e | e | ⟨-,cs',e⟩)
  .rw[e,h.cell] at a;grind
  .rw[e,h.vars.2] at a;grind
  grind
 | _=>exact c.elim
def fG.ex(h:fG base mb vb iv vv gk sb cut w k)(a:iB base mb vb w w'){x:Ex}(hx:eG (fun _=>True) w v x):eG (fun _=>True) w' v x:=eG.mono zg (h.ll a) _ _ hx
end
section
variable{base mb vb:Nat}{iv vv:Y}{gk:List Y}{sb:List Nat}{cut:Int}{w w':Z}{k:Mk}
def aPy(h:fG base mb vb iv vv gk sb cut w k){x:Ex}{name:Bs}{n:Int}{kv:Nat}{args:List Ex}(M:x = .mk pb name n kv args)(N:pb≠99)(C:gO k.vars.length x)(hx:eG (fun _=>True) w v x){s:Nat}(D:k.ins.length<=100000) :
  Calls baf 106 #[pp mb,v,zi (s:Nat)] w (uG base mb vb vv sb cut w (yY x s k)):=by
 suffices H:∀ R:Ending->Z->Prop,(∀ m w',uG base mb vb vv sb cut w (yY x s k) m w'->R m w')->Calls baf 106 #[pp mb,v,zi (s:Nat)] w R from H _ fun _ _ h=>h;intro R c;subst M;have P:=hx;unfold gO at C;obtain⟨o1,o2,o3,o4,o5,o6,o7,o8⟩:=C;unfold eG at hx;obtain⟨b,av,di,rfl,hF,e,hs,lu⟩:=hx;have lb:=bf e;have f:=h.cell;have lc:=bf f;obtain⟨Q,g⟩:=h.vars;have lv:=bf g;have i:Ext w w.drew.drew:=yF;refine aqh ?_;by_cases o:pb=118
 .have l:(pb:Int)=118:=zo;have S:=o4 o;have vM:(kv:Int)<(k.vars.length:Int):=zo;have p:(kv:Int).toNat=kv:=zo;have d:(k.vars.map tH).toArray[kv]?=O (tH k.vars[kv]):=zg;have T:(k.vars.map tH).toArray.size=k.vars.length:=zs;have E:=fun s=>h.ext i |>.aqm (s:=s) S (by rw[BH,BH];exact lv);obtain⟨a,F⟩:=b9 ((k.vars.map tH).toArray);rw[<- F] at g d T;rw[<- F] at E;unfold yY at c;rw[zip o] at c;have U:k.vars.getD kv V=k.vars[kv]:=zg;rw[U] at c;rw[Q] at f;cases I:k.vars[kv] with
  | none=>
   rw[I] at c d;have d:a[kv]?=O (zi (-1)):=d;refine dC e @l f (zA g (zA d @p)) ?_;obtain⟨r1,r2⟩:=E s;exact c _ _ ⟨yF,J,iv,gk,[],yH,zg⟩
  | some j=>
   rw[I] at c d;have d:a[kv]?=O (zi (j:Int)):=d;refine dC e @l f (zA g (zA d @p)) ?_;refine⟨fun w'=>Ext w w',i,?_⟩;rw[jx];refine cQ (pq mb 2) (fun w' K=>eQ) ?_;refine cQ (cM vb k.vars.length k.vars.length) (fun w' K=>by have L:=K.ext _ _ f;have:=bf L;exact fg L) ?_;refine dC e g d @p ?_;refine⟨i.alloc _,?_⟩;refine FD (h.ext i) (wd:=[115,97,109,101]) (nm:=[]) (cv:=ai) (con:=V) (s:=[s,j]) zs J D (yH) ?_;rintro w3 q ⟨r,z,B⟩;refine bD ?_;exact c _ _ ⟨(bz.mono i fun _ _ _ h=>h.elim).trans q,J,r,z,[w.heap.size],yH,B⟩
 .have l:¬ (pb:Int)=118:=zo;have W:¬ (pb:Int)=99:=zo;unfold yY at c;rw[bX o,bX N] at c;refine iJ e @l @W ?_;refine a0c (aql P zo) ?_;rintro m w1 ⟨rfl,u,rfl,hu⟩;have X:u = ai\/∃ t y,u = aj t y:=by
   unfold Ce at hu;split at hu<;>exact .inr ⟨_,_,hu⟩
  rcases X with rfl | ⟨ct,cy,rfl⟩;all_goals
   refine bD ?_;refine FD h (wd:=[99,111,110,115,116]) (nm:=[]) (con:=O (Ce pb name n)) (s:=[s]) zs hu D lv ?_;rintro w3 q ⟨r,z,B⟩;refine bD ?_;exact c _ _ ⟨q,J,r,z,[_],yH,B⟩
end
abbrev og(base:Nat)(w:Z)(v:Y)(l:List Nat):Prop:=w.ownsRow base 3 1 v l.length (uC l)
section
variable{base mb vb ba:Nat}{iv vv v:Y}{gk:List Y}{sb l:List Nat}{cut:Int}{w w':Z}{k:Mk}
def og.one(s:Nat):og w.heap.size (w.alloc (ae #[zi (s:Int)] 3)) (cM w.heap.size 1 1) [s]:=
 ⟨J,.inr ⟨w.heap.size,1,_,J,a0d _,qG J,a0d _,zd,J,J⟩⟩
theorem og.nil:og ba w bH []:=⟨J,yH⟩
theorem og.bI(h:og ba w v l)(hk:∀ (g:Nat) (cs:Array Y),ba<=g->w.heap[g]?=aN cs 3->w'.heap[g]?=aN cs 3):og ba w' v l:=by
 refine⟨h.1,?_⟩;rcases h.2 with a | ⟨g,cap,cur,a,b,d,c⟩
 .exact yH
 .exact .inr ⟨g,cap,cur,a,b,yH,c⟩
theorem og.fr(h:og ba w v l)(a:iB base mb vb w w')(hm:mb<ba)(hv:vb<ba):og ba w' v l:=h.bI fun g cs c b=>a.block _ _ b (by
 rintro (e | e | ⟨-,cs',e⟩)<;>grind)
def og.own(h:og ba w v l)(a:v.ownBlock=O b):ba<=b/\b<w.heap.size/\∃ cs,w.heap[b]?=aN cs 3:=by
 rcases h.2 with⟨c,-⟩| ⟨g,cap,cur,c,d,e,f⟩
 .rw[c] at a;cases a
 .rw[c] at a;injection a with a;exact yH
def og.sin(h:og ba w v l)(c:l=[]->v = bH):∃ bl,I2 w v l bl/\∀ b∈bl,v.ownBlock=O b:=by
 by_cases d:l=[]
 .exact⟨[],.inl zg,zg⟩
 .rcases h.2 with⟨rfl,e⟩| ⟨g,cap,cur,rfl,f,i,j,k,m,n⟩
  .grind
  .exact⟨[g],.inr yH,fun b a=>by rw[a0x] at a;subst a;rfl⟩
def og.push(h:og ba w v l)(f:ba<=w.heap.size)(k:l.length<=1000){s:Nat}{K:Y->Z->Prop}
  (g:∀ v' w',og ba w' v' (l++[s])->bz (fun b _=>v.ownBlock=O b) w w'->(v'.ownBlock=v.ownBlock\/∀ j,v'.ownBlock=O j->w.heap.size<=j)->K v' w') :
  WR baf (a0G #[45,45] 45 #[v,cM w.heap.size 1 1]) (w.alloc (ae #[zi (s:Int)] 3)) K X:=by
 have a:Ext w (w.alloc (ae #[zi (s:Int)] 3)):=yF;refine aqk (base:=ba) (jM a.ext h) (qG J) J zo (by rw[size_alloc];omega) fun v' w' m c hv=>g v' w' ?_ ?_ ?_
 .grind
 .have:=c.size;have s1:=a.size;refine⟨c.os.trans a.os,c.tape.trans a.tape,c.output.trans a.output,zo,fun b o i hm=>?_⟩;have d:=a.ext _ _ i;rw[c.block b (bf d) (fun e=>hm e.symm)];exact d
 exact yH
def fG.G6(h:fG base mb vb iv vv gk sb cut w k){x:Option Nat}(d:bz (fun b _=>x=O b) w w')(hx:∀ b,x=O b->∃ cs,w.heap[b]?=aN cs 3)(e:∀ b∈sb,x≠O b)(hv:x≠O vb):fG base mb vb iv vv gk sb cut w' k:=by
 have f:∀ {b:Nat} {cs:Array Y} {T:Nat},T≠3->w.heap[b]?=aN cs T->w'.heap[b]?=aN cs T:=(by grind [bz.block]);refine⟨(by grind [cell]),h.lo,⟨h.row.1,?_⟩,h.ins.bI (by grind [bz.block]),(by grind [vars,bz.block]),h.I3,h.sep,h.I4⟩;rcases h.row.2 with g | ⟨b,cap,cur,rfl,a,i,c⟩
 .exact yH
 .exact .inr ⟨b,cap,cur,J,a,yH,c⟩
def iB.own{x:Option Nat}(h:iB base mb vb w0 w)(a:bz (fun b _=>x=O b) w w')(hx:∀ b,x=O b->w0.heap.size<=b):iB base mb vb w0 w':=
 ⟨a.os.trans h.os,a.tape.trans h.tape,a.output.trans h.output,a0f h.size a.size,(by grind [bf,bz.block])⟩
theorem fG.oU(h:fG base mb vb iv vv gk sb cut w k)(c:iB base mb vb w w'){T:Nat}(a:w.heap[b]?=aN cs T)(d:T≠247/\T≠3/\T≠198):w'.heap[b]?=aN cs T:=c.block _ _ a (by
 rintro (e | e | ⟨-,cs',e⟩)
 .rw[e,h.cell] at a;grind
 .rw[e,h.vars.2] at a;grind
 grind)
theorem bz.ea{M:Nat->Obj->Prop}(h:Ext w w'):bz M w w':=yF
end
def P.CN(k:Mk)(i:Nat)(ls:List Nat)(a:Mk):Prop:=∀ q,k.rY (i+q)=match a.rY q with
 | none=>V
 | some (l',k')=>O (ls++l',k')
def P.CN.zero(k:Mk):P.CN k 0 [] k:=fun q=>by
 grind
theorem P.CN.step{k a:Mk}{s:Nat}(h:P.CN k i fQ zp)(b:zp.slot=O (s,a)):P.CN k (i+1) (fQ++[s]) a:=fun q=>by
 have:=h (q+1);rw[Nat.add_assoc,Nat.add_comm 1 q,this];have e:zp.rY (q+1)=match zp.slot with
  | none=>V
  | some (s,m)=>match m.rY q with
   | none=>V
   | some (l,m)=>O (s::l,m):=rfl
 grind
theorem P.CN.none{k a:Mk}{i n:Nat}{ls:List Nat}(h:P.CN k i ls a)(c:a.slot=a2K)(d:i<n):k.rY n=a2K:=by
 have:=h (n-i-1+1);have b:i+(n-i-1+1)=n:=zo;rw[b] at this;rw[this];have e:a.rY (n-i-1+1)=match a.slot with
  | a2K=>a2K
  | some (s,m)=>match m.rY (n-i-1) with
   | a2K=>a2K
   | some (l,m)=>O (s::l,m):=rfl
 grind
def P.CN.done{k:Mk}(h:P.CN k i fQ zp):k.rY i=O (fQ,zp):=by
 have:=h 0;rw[Nat.add_zero] at this;grind [Mk.rY]
def Ud:∀ (l:List Ex) (j:Nat) (a:j<l.length),ft (l.drop j)=gH l[j]+ft (l.drop (j+1))
 | x::l,0,_=>by simp [ft]
 | x::l,j+1,a=>by simpa using Ud l j zg
def Yv:∀ (l:List Ex) (j:Nat),ft (l.drop j)<=ft l
 | [],j=>zg
 | x::l,0=>zs
 | x::l,j+1=>by have:=Yv l j;grind [ft]
section
variable{base mb vb:Nat}{cut:Int}
def aqn:∀ (n:Nat) (x:Ex),gH x<=n->∀ {iv vv:Y} {gk:List Y} {sb:List Nat} {w:Z} {k:Mk} {N s:Nat} {v:Y},fG base mb vb iv vv gk sb cut w k->GK N k->N+gH x<=90000->gO k.vars.length x->eG (fun _=>True) w v x->s<64 ->
  Calls baf 106 #[pp mb,v,zi (s:Nat)] w (uG base mb vb vv sb cut w (yY x s k))
 | 0,x,hn,_,_,_,_,_,_,_,_,_,_,_,_,_,_,_=>by cases x;simp [gH] at hn
 | n+1,.mk kind name nn kv args,hn,iv,vv,gk,sb,w,k,N,s,v,h,hk,hN,de,hx,aX4=>by
  have ih:=aqn n;by_cases Yu:kind=99
  .suffices H:∀ R:Ending->Z->Prop,(∀ C w',uG base mb vb vv sb cut w (yY (.mk kind name nn kv args) s k) C w'->R C w')->Calls baf 106 #[pp mb,v,zi (s:Nat)] w R from H _ fun _ _ h=>h;intro R c;have oI:=hx;unfold gO at de;obtain⟨o1,o2,o3,o4,o5,o6,o7,o8⟩:=de;unfold eG at hx;obtain⟨b,av,di,rfl,hF,q,hs,lu⟩:=hx;have lb:=bf q;have Gv:=lu.Fg;obtain⟨aa,ac,rfl⟩:=hs.sl;have hc:=h.cell;have lc:=bf hc;obtain⟨kH,jZ⟩:=h.vars;have lv:=bf jZ;simp only[gH] at hn hN;have e1:(kind:Int)=99:=zo;unfold yY at c;rw[bX zo,zip Yu] at c;refine aqh ?_;refine dy q @e1 ?_;have dB:Ext w (w.alloc (ae #[zi (s:Int)] 3)):=yF;refine⟨fun m z w'=>∃ i ls l v1,z 65=zi ((i:Nat):Int)/\z 6=v1/\i<=args.length/\m=args.length-i/\ls.length=i/\P.CN k i ls l/\fG base mb vb iv vv gk sb cut w' l/\iB base mb vb w w'/\og w.heap.size w' v1 (s::ls)/\GK N l/\l.vars=k.vars/\∀ y∈ls,y<64,
    ⟨_,0,[],k,_,J,J,a0r _,J,J,P.CN.zero k,h.ext dB,yF,og.one s,hk,J,zg⟩,?_⟩
   intro m z d w3 hI;refine toPr ?_;obtain⟨i,ls,l,v1,o,M,hi,rfl,GB,iA,h1,Q,D,S,Pu,afU⟩:=hI;have h6':=M;obtain⟨ra,rc,rfl⟩:=gX D;have QB:=Q.size;by_cases hlt:i<args.length
   .have qq:((i:Nat):Int)<(di.length:Int):=zo;refine dy o qq ?_;refine a0c (Lg h1 S.slots) ?_;rintro e w4 ⟨r,a⟩;cases E:l.slot with
    | none=>
     rw[E] at a;rw[iA.none E hlt] at c;have a:e=gV (.fault 4):=a;subst a;exact c _ _ ⟨yF,J⟩
    | some p=>
     obtain⟨s1,k2⟩:=p;rw[E] at a;obtain⟨he,h2⟩:e = ah (zi (s1:Nat))/\fG base mb vb iv vv gk sb cut w4 k2:=a;subst he;obtain⟨q1,q2,q3,-⟩:=S.slot E;refine cG M ?_;have T:=D.fr r lc lv;have Lj:=r.size;refine T.push zo zg fun v5 w5 Qm iR xQ=>?_;have B:=fun b=>T.own (b:=b);have xp:∀ b∈sb,(Value.slice ra (s::ls).length rc).ownBlock≠O b:=fun b q he=>by
      have:=(B b he).1;have:=h.ins.lt _ q;omega
     refine cG o ?_;refine⟨_,?_,i+1,ls++[s1],k2,v5,by simp [jg],by simp [jg],zo,J,by simp;omega,iA.step E,h2.G6 iR (fun b e=>(B b e).2.2) xp (fun e=>by have:=(B _ e).1;omega),iB.own (Q.trans r) iR (fun b e=>(B b e).1),Qm,q1,q3.trans Pu,?_⟩<;>grind
   .have kS:i=args.length:=zo;subst kS;have Mg:=iA.done;rw[Mg] at c;have c:∀ C w',uG base mb vb vv sb cut w (rZ args ls (l.put [115,112,108,105,116] name V (s::ls))) C w'->R C w':=c;have eK:=h.oU Q q zd;have aPz:¬ (args.length:Int)<(di.length:Int):=zo;refine dC o M aPz eK ?_;obtain⟨bl,Hb,oL⟩:=D.sin (fun h=>by cases h);have B:=fun b=>D.own (b:=b);refine a0c (Lh h1 (wd:=[115,112,108,105,116]) (nm:=name) (cv:=ai) (con:=V) (s:=s::ls) J Hb (fun y hy=>?_) (a0f S.len zo)) ?_
    .have:=(B y (oL y hy)).1;exact⟨fun hm=>by have:=h.ins.lt _ hm;omega,zo⟩
    rintro e w4 ⟨rfl,r,Lk,Ll,h4⟩;have F:=Q.trans r;have hb4:=h.oU F q zd;have T:=D.fr r lc lv;obtain⟨U,qK⟩:=b9 (l.put [115,112,108,105,116] name V (s::ls));rw[<- qK] at h4 c;have aPB:GK (N+1) U:=by
     rw[qK];exact S.put ⟨zs,o1,by simp [Cf],zg,zg⟩
    have aX5:U.vars=k.vars:=by rw[qK];exact Pu
    refine cG hb4 ?_;refine⟨fun m z w'=>∃ j f Bw Bx I W,z 85=zi ((j:Nat):Int)/\j<=args.length/\m=args.length-j/\fG base mb vb Bw vv Bx (sb++bl++I) cut w' f/\(∀ b∈I,w.heap.size<=b)/\iB base mb vb w w'/\og w.heap.size w' (.slice ra (s::ls).length rc) (s::ls) /\
      rZ args ls U=rZ (args.drop j) (ls.drop j) f/\GK W f/\W+ft (args.drop j)<=N+1+ft args/\f.vars.length=k.vars.length,
     ⟨_,0,U,Lk,Ll,[],N+1,J,a0r _,J,zg,yH,F,T,J,aPB,a0d _,zg⟩,?_⟩
    intro m z1 d1 w5 hI;refine toPr ?_;obtain⟨j,f,Bw,Bx,I,W,NT,hj,rfl,h5,Ue,K,Uf,heq,ye,hNj,CP⟩:=hI;have sz5:=K.size;by_cases L:j<args.length
    .have qq:j<di.length:=zo;obtain⟨sb1,IL,e3,e4,e5,e6⟩:=hs.at' qq;obtain⟨u,e7,hu⟩:=eH.at' j L lu;rw[e7] at e6;simp only[a0s,true_and] at e3;obtain⟨rfl,rfl⟩:=e3;have jJ:((j:Nat):Int).toNat=j:=zo;have aPC:(((j:Nat):Int)+1).toNat=j+1:=zo;have I5:=h.oU K e5 zd;have fJ:((j:Nat):Int)<(di.length:Int):=zo;obtain⟨g,gc,gu,ge,gh,gt⟩:=SX Uf (t:=j+1) zg;simp only[a0s,true_and] at ge;obtain⟨rfl,rfl⟩:=ge;have aX6:j<ls.length:=zo;have gt2:gu[j+1]?=O (zi ((ls[j]:Nat):Int)):=zg;have A7:(((j:Nat):Int)+1)<(((s::ls).length:Nat):Int):=zg;refine dC M NT fJ (zA @I5 (zA @e6 (zA @jJ (zA @aPC (zA @gh (zA @gt2 A7)))))) ?_;have FE:gO f.vars.length args[j]:=by rw[CP];exact o8.at L
     have PE:=Ud args j L;have afZ:=Yv args j;have VU:gH args[j]<=n:=zo;refine a0c (ih args[j] VU h5 ye zo FE (h.ex K hu) (by grind [List.getElem_mem])) ?_;rintro e w6 ⟨pM,a⟩;have X:rZ (args.drop j) (ls.drop j) f=match yY args[j] ls[j] f with
       | none=>V
       | some m=>rZ (args.drop (j+1)) (ls.drop (j+1)) m:=by
      grind [a0h,rZ]
     cases ht:yY args[j] ls[j] f with
     | none=>
      rw[ht] at a X;rw[heq,X] at c;have a:e=gV (.fault 4):=a;subst a;exact c _ _ ⟨yF,J⟩
     | some k6=>
      rw[ht] at a X;obtain⟨he,tK,tL,CR,Yy,Hc⟩:=a;subst he;obtain⟨g1,g2⟩:=acV _ _ _ _ _ ht ye (afU _ (List.getElem_mem _)) FE;refine cG NT ?_;refine⟨_,?_,j+1,k6,tK,tL,I++CR,W+gH args[j],by simp [jg],zo,J,by rw[<- a0I];exact Hc,fun y hy=>?_,K.trans pM,Uf.fr pM lc lv,heq.trans X,g1,zo,g2.trans CP⟩<;>grind
    .have L:j=args.length:=zo;subst L;have fJ:¬ (args.length:Int)<(di.length:Int):=zo;rw[heq,a01,rZ] at c;refine dy NT fJ ?_;refine c _ _ ⟨K,J,Bw,Bx,bl++I,fun y hy=>?_,zg⟩;exact yH
  .exact aPy h J Yu de hx (a0f hk.len zo)
end
def aqp(base mb vb:Nat)(vv:Y)(sb:List Nat)(cut:Int)(w:Z)(r:Option (Nat×Mk))(e:Ending)(w':Z):Prop:=
 iB base mb vb w w'/\match r with
  | none=>e=gV (.fault 4)
  | some (s,k')=>e = ah (.int .i64 (s:Int))/\∃ a c bl,(∀ b∈bl,w.heap.size<=b)/\fG base mb vb a vv c (sb++bl) cut w' k'
def P.uH(k:Mk)(xs:List Ex)(i:Nat)(ls:List Nat)(a:Mk):Prop:=r9 xs k=match r9 (xs.drop i) a with
 | none=>V
 | some (l',k')=>O (ls++l',k')
def P.uH.zero(k:Mk)(xs:List Ex):P.uH k xs 0 [] k:=by
 grind [P.uH,r9]
theorem P.uH.eq{a:Mk}{xs:List Ex}{i:Nat}(b:i<xs.length):r9 (xs.drop i) a=match An xs[i] a with
 | none=>V
 | some (s,m)=>match r9 (xs.drop (i+1)) m with
  | none=>V
  | some (l,m)=>O (s::l,m):=by grind [a0h,r9]
theorem P.uH.step{k a:Mk}{xs:List Ex}{s:Nat}(h:P.uH k xs i fQ zp)(b:i<xs.length)(c:An xs[i] zp=O (s,a)):P.uH k xs (i+1) (fQ++[s]) a:=by
 grind [P.uH,P.uH.eq,r9,eq]
theorem P.uH.none{k a:Mk}{xs:List Ex}{i:Nat}{ls:List Nat}(h:P.uH k xs i ls a)(b:i<xs.length)(c:An xs[i] a=a2K):r9 xs k=a2K:=by
 grind [P.uH,P.uH.eq,eq]
def P.uH.done{k:Mk}{xs:List Ex}(h:P.uH k xs xs.length fQ zp):r9 xs k=O (fQ,zp):=by
 unfold P.uH at h;rw[h,a01,r9];simp
def P.VK(k:Mk):Prop:=∀ j,j<k.vars.length->∃ t:Nat,k.vars[j]?=O (O t)
section
variable{base mb vb:Nat}{cut:Int}
theorem og.aPD{s a:Nat}{l:List Nat}(h:og pb w (cM g n c) (a::l))(d:w.heap[g]?=aN iC 3) :
  og pb (bO w g (ae (iC.setIfInBounds 0 (zi (s:Int))) 3 (0,0))) (cM g n c) (s::l):=by
 refine⟨zs,?_⟩;rcases h.2 with⟨b,-⟩| ⟨q,cap,cur,b,i,f,j,k,m,o⟩
 .grind
 .simp only[a0s,Option.some.injEq,Addr.mk.injEq,and_true] at b;obtain⟨rfl,rfl,rfl⟩:=b;rw[d] at f;cases f;refine .inr ⟨g,c,_,J,i,pX J (bf d),j,k,by simp [m],?_⟩;have e:(iC.setIfInBounds 0 (zi (s:Int))).toList=iC.toList.set 0 (zi (s:Int)):=zs;have p:iC.toList.take ((s::l).length*1)=uC (a::l):=o;grind [List.take_set]
def aqq:∀ (n:Nat) (x:Ex),gH x<=n->∀ {iv vv:Y} {gk:List Y} {sb:List Nat} {w:Z} {k:Mk} {N:Nat} {v:Y},fG base mb vb iv vv gk sb cut w k->GK N k->N+gH x<=90000->P.VK k->gO k.vars.length x->eG (fun _=>True) w v x ->
  Calls baf 139 #[pp mb,v] w (aqp base mb vb vv sb cut w (An x k))
 | 0,x,hn,_,_,_,_,_,_,_,_,_,_,_,_,_,_=>by cases x;simp [gH] at hn
 | n+1,.mk kind name nn kv args,hn,iv,vv,gk,sb,w,k,N,v,h,hk,hN,rK,de,hx=>by
  have ih:=aqq n;suffices H:∀ R:Ending->Z->Prop,(∀ en w',aqp base mb vb vv sb cut w (An (.mk kind name nn kv args) k) en w'->R en w')->Calls baf 139 #[pp mb,v] w R from H _ zg;intro R i;have oI:=hx;unfold gO at de;obtain⟨o1,o2,o3,o4,o5,o6,o7,o8⟩:=de;unfold eG at hx;obtain⟨b,av,di,rfl,hF,f,hs,lu⟩:=hx;have lb:=bf f;have Gv:=lu.Fg;obtain⟨aa,ac,rfl⟩:=hs.sl;have hc:=h.cell;have lc:=bf hc;obtain⟨kH,jZ⟩:=h.vars;have lv:=bf jZ;simp only[gH] at hn hN;have dA:Ext w w.drew:=yF;refine aPr ?_;unfold An at i;by_cases GR:kind=118
  .have M:(kind:Int)=118:=zo;have xS:=o4 GR;obtain⟨t,ht⟩:=rK kv xS;rw[zip GR,List.getD_eq_getElem?_getD,ht] at i;have vM:(kv:Int)<(k.vars.length:Int):=zo;have oS:(kv:Int).toNat=kv:=zo;have jF:(k.vars.map tH).toArray[kv]?=O (zi ((t:Nat):Int)):=by grind [tH]
   have Li:(k.vars.map tH).toArray.size=k.vars.length:=zs;obtain⟨a,hA⟩:=b9 ((k.vars.map tH).toArray);rw[<- hA] at jZ jF Li;rw[kH] at hc;refine dC f @M hc (zA jZ (zA jF @oS)) ?_;exact i _ _ ⟨yF,J,iv,gk,[],yH,by rw[List.append_nil];exact h.ext dA⟩
  .have M:¬ (kind:Int)=118:=zo;rw[bX GR] at i;by_cases vp:kind=99
   .have e2:(kind:Int)=99:=zo;have e2b:¬ (kind:Int)≠99:=zo;rw[bX zo] at i;refine iJ f @M @e2 ?_;have dB:Ext w (w.alloc (ae #[zi 0] 3)):=yF;refine⟨fun m z w'=>∃ j o Bw Bx q Q ls v1,z 44=zi ((j:Nat):Int)/\z 6=v1/\j<=args.length/\m=args.length-j/\ls.length=j/\fG base mb vb Bw vv Bx (sb++q) cut w' o/\(∀ b∈q,w.heap.size<=b/\v1.ownBlock≠O b)/\iB base mb vb w w'/\og w.heap.size w' v1 (0::ls) /\
      P.uH k args j ls o/\GK Q o/\Q+ft (args.drop j)<=N+ft args/\o.vars=k.vars/\∀ y∈ls,y<64,
     ⟨_,0,k,iv,gk,[],N,[],_,J,J,a0r _,J,J,by rw[List.append_nil];exact h.ext dB,yH,yF,og.one 0,P.uH.zero k args,hk,a0d _,J,zg⟩,?_⟩
    intro m z d w3 hI;refine toPr ?_;obtain⟨j,o,Bw,Bx,q,Q,ls,v1,NU,S,hj,rfl,GB,h3,Ue,pN,T,mj,U,hNj,CP,afU⟩:=hI;obtain⟨ra,rc,rfl⟩:=gX T;have QB:=pN.size;have W:=fun b=>T.own (b:=b);by_cases r:j<args.length
    .have qq:j<di.length:=zo;obtain⟨sb1,IL,e3,e4,e5,e6⟩:=hs.at' qq;obtain⟨u,e7,hu⟩:=eH.at' j r lu;rw[e7] at e6;simp only[a0s,true_and] at e3;obtain⟨rfl,rfl⟩:=e3;have jJ:((j:Nat):Int).toNat=j:=zo;have I5:=h.oU pN e5 zd;have fJ:((j:Nat):Int)<(di.length:Int):=zo;refine dC NU fJ @I5 (zA @e6 @jJ) ?_;have FE:gO o.vars.length args[j]:=by rw[CP];exact o8.at r
     have PE:=Ud args j r;have afZ:=Yv args j;refine a0c (ih args[j] zo h3 U zo (by grind [P.VK]) FE (h.ex pN hu)) ?_;rintro e C ⟨l,c⟩;have Lj:=l.size;cases ht:An args[j] o with
     | none=>
      rw[ht] at c;rw[mj.none r ht] at i;have c:e=gV (.fault 4):=c;subst c;refine bD ?_;exact i _ _ ⟨yF,J⟩
     | some p=>
      obtain⟨s1,E⟩:=p;rw[ht] at c;obtain⟨he,Lk,Ll,np,NV,D⟩:=c;subst he;obtain⟨g1,g2,g3⟩:=acX _ _ _ _ _ ht U FE;have F:=T.fr l lc lv;have aqr:=fun b=>F.own (b:=b);have aPE:=D.ins.lt;refine cG S ?_;have X:∀ b∈sb++q++np,(Value.slice ra (0::ls).length rc).ownBlock≠O b:=fun b f he=>by
       rcases a0q.1 f with f | f
       .rcases a0q.1 f with f | f
        .have:=(W b he).1;have:=h.ins.lt _ f;omega
        grind
       grind
      refine F.push zo zg fun v5 I Qm K xQ=>?_;refine cG NU ?_;refine⟨_,?_,j+1,E,Lk,Ll,q++np,Q+gH args[j],ls++[s1],v5,zg,zg,zo,J,zg,?_,fun y hy=>?_,iB.own yF K yH,Qm,mj.step r ht,g1,zo,g2.trans CP,fun y hy=>?_⟩
      .omega
      .rw[<- a0I];exact D.G6 K yH X zg
      .exact yH
      grind
    .have r:j=args.length:=zo;subst r;have fJ:¬ (args.length:Int)<(di.length:Int):=zo;rw[mj.done] at i;simp only at i;refine dy NU fJ ?_;refine a0c (Lg h3 U.slots) ?_;rintro e C ⟨l,c⟩;have Lj:=l.size;cases B:o.slot with
     | none=>
      rw[B] at c i;have c:e=gV (.fault 4):=c;subst c;exact i _ _ ⟨yF,J⟩
     | some p=>
      obtain⟨s1,E⟩:=p;rw[B] at c i;obtain⟨he,D⟩:e = ah (zi (s1:Nat))/\fG base mb vb Bw vv Bx (sb++q) cut C E:=c;subst he;obtain⟨q1,q2,q3,-⟩:=U.slot B;have F:=T.fr l lc lv;have aqr:=fun b=>F.own (b:=b);obtain⟨g,gc,gu,ge,gh,gt⟩:=SX F (t:=0) zs;simp only[a0s,true_and] at ge;obtain⟨rfl,rfl⟩:=ge;have lg:=bf gh;have gsz:0<gu.size:=by
       grind
      have qF:(0:Int)<(((0::ls).length:Nat):Int):=zg;obtain⟨I,oc⟩:=b9 (bO C g (ae (gu.setIfInBounds 0 (zi (s1:Int))) 3 (0,0)));have Uf:og w.heap.size I (.slice (O ⟨g,0,V⟩) (0::ls).length rc) (s1::ls):=by grind [og.aPD]
      have K:bz (fun b _=>O g=O b) C I:=yF;have X:∀ b∈sb++q,O g≠O b:=fun b f he=>by
       rcases a0q.1 f with f | f
       .have:=(W b he).1;have:=h.ins.lt _ f;omega
       .exact(Ue b f).2 he
      have h5:=D.G6 K yH X (fun e=>by have:=(W _ e).1;omega);have pL:iB base mb vb w I:=iB.own yF K (fun b e=>(W b e).1);have Tg:=h.oU pL f zd;refine iJ S @gh @gsz ?_;rw[<- oc];refine dy S Tg ?_;rw[<- oc];obtain⟨bl,Hb,oL⟩:=Uf.sin (fun h=>by cases h);refine a0c (Lh h5 (wd:=[109,97,107,101]) (nm:=name) (cv:=ai) (con:=V) (s:=s1::ls) J Hb (fun y hy=>?_) (a0f q1.len zo)) ?_
      .have h1:=oL y hy;exact⟨fun hm=>X y hm h1,zg⟩
      rintro e w6 ⟨rfl,pM,tK,tL,Hc⟩;have aPF:=Uf.fr pM lc lv;obtain⟨g',gc',gu',L,gh',gt'⟩:=SX aPF (t:=0) zs;simp only[a0s,Option.some.injEq,Addr.mk.injEq,and_true,true_and] at L;obtain⟨rfl,-,rfl⟩:=L;have gt2:gu'[0]?=O (zi (s1:Int)):=zg;refine iJ S @gh' @gt2 ?_;refine i _ _ ⟨yF,J,tK,tL,q++bl,fun y hy=>?_,zg⟩;exact yH
   .have e2:¬ (kind:Int)=99:=zo;rw[zip vp] at i;refine iJ f @M @e2 ?_;refine a0c (Lg h hk.slots) ?_;rintro e C ⟨l,c⟩;have Lj:=l.size;cases B:k.slot with
    | none=>
     rw[B] at c i;have c:e=gV (.fault 4):=c;subst c;exact i _ _ ⟨l,J⟩
    | some p=>
     obtain⟨s1,E⟩:=p;rw[B] at c i;obtain⟨he,D⟩:e = ah (zi (s1:Nat))/\fG base mb vb iv vv gk sb cut C E:=c;subst he;obtain⟨q1,q2,q3,-⟩:=hk.slot B;refine bD ?_;refine a0c (aql (h.ex l oI) zo) ?_;rintro en I ⟨rfl,u,rfl,hu⟩;have uB:u = ai\/∃ t y,u = aj t y:=by
      unfold Ce at hu;split at hu<;>exact .inr ⟨_,_,hu⟩
     rcases uB with rfl | ⟨ct,cy,rfl⟩;all_goals
      refine bD ?_;refine FD D (wd:=[112,117,116]) (nm:=[]) (con:=O (Ce kind name nn)) (s:=[s1]) zs hu (a0f q1.len zo) zo ?_;rintro w6 pM ⟨tK,tL,Hc⟩;refine bD ?_;exact i _ _ ⟨yF,J,tK,tL,[_],yH,Hc⟩
end
def yg:List P.In->Nat
 | []=>0
 | i::r=>(if i.s=[] then 0 else 1)+yg r
def af0:∀ (a b:List P.In),yg (a++b)=yg a+yg b
 | [],b=>by simp [yg]
 | i::a,b=>by
  rw[List.cons_append,yg,yg,af0 a b];omega
def qy.QC{w:Z}:∀ {l:List P.In} {vs:List Y} {sb:List Nat},qy w vs l sb->sb.length=yg l
 | [],_,_,⟨_,a⟩=>by subst a;rfl
 | i::r,vs,sb,⟨cv,sv,bl,rest,f,g,a,h,c,d⟩=>by
  rw[a,List.length_append,qy.QC d,yg];rcases c with⟨e,-,rfl⟩| ⟨b,cap,cs,rfl,e,-⟩<;>grind
theorem qy.land{w:Z}{i:P.In}{r:List P.In}{s2:List Nat}{g:Nat}(z:i.s≠[]):∀ {l:List P.In} {vs:List Y} {s1:List Nat},qy w vs (l++i::r) (s1++g::s2)->s1.length=yg l->(s1++g::s2).Nodup ->
  ∃ cap cs,vs[l.length*4+3]?=O (cM g i.s.length cap)/\w.heap[g]?=aN cs 3/\cs.size=cap/\i.s.length<=cap/\cs.toList.take i.s.length=uC i.s /\
   ∀ (w':Z) (cs':Array Y) (s':List Nat),(∀ b∈s1++g::s2,b≠g->∀ cs:Array Y,w.heap[b]?=aN cs 3->w'.heap[b]?=aN cs 3)->w'.heap[g]?=aN cs' 3->cs'.size=cap->s'.length=i.s.length->cs'.toList.take s'.length=uC s' ->
    qy w' vs (l++{ i with s:=s' }::r) (s1++g::s2)
 | [],vs,s1,h,c,m=>by
  have B:s1=[]:=List.length_eq_zero_iff.1 c;subst B;obtain⟨cv,sv,bl,rest,n,d,f,o,j,t⟩:=h;rcases j with⟨k,-,-⟩| ⟨b,cap,cs,rfl,k,rfl,C,D,E,F⟩
  .exact yH
  .have f:g::s2=b::n:=f;cases f;refine⟨cap,cs,zg,C,D,E,F,fun w' cs' s' hk p q u ht=>?_⟩;have M:g ∉ s2:=by
    grind
   refine⟨cv,_,[g],rest,s2,d,J,o,.inr ⟨g,cap,cs',J,fun e=>?_,zg,p,q,zg,ht⟩,(by grind [List.mem_cons_of_mem,bI])⟩;grind
 | x::l,vs,s1,h,c,m=>by
  obtain⟨cv,sv,bl,rest,n,d,f,o,j,t⟩:=h;have key:∃ a,s1=bl++a/\n=a++g::s2/\a.length=yg l:=by
   rw[yg] at c;rcases j with⟨k,-,rfl⟩| ⟨b,cap,cs,rfl,k,-⟩
   .grind
   .rw[bX k] at c;cases s1 with
    | nil=>grind
    | cons y a=>
     grind
  obtain⟨a,rfl,rfl,H⟩:=key;rw[a0I] at m;have I:=List.nodup_append.1 m;obtain⟨cap,cs,q1,q2,q3,q4,K,L⟩:=qy.land z t H I.2.1;refine⟨cap,cs,?_,q2,q3,q4,K,fun w' cs' s' hk p q u ht=>?_⟩
  .rw[d,List.length_cons,show(l.length+1)*4+3=4+(l.length*4+3) from by omega];grind
  .refine⟨cv,sv,bl,rest,a++g::s2,d,a0I _ _ _,o,j.bI fun b N cs hx=>?_,L w' cs' s' yH p q u ht⟩;exact yH
def FF(mb vb:Nat)(w:Z)(f:Y)(j:Nat)(sb:List Nat):Prop:=∃ xb a,f = .func (.func 160) #[] #[pp xb,pp a] /\
 w.heap[xb]?=aN #[pp mb] 245/\w.heap[a]?=aN #[zi (j:Int)] 3/\a≠vb/\a ∉ sb
section
variable{base mb vb ba:Nat}{iv vv v:Y}{gk:List Y}{sb l:List Nat}{cut:Int}{w w':Z}{k:Mk}
theorem FF.fr{f:Y}(c:FF mb vb w f j sb)(h:fG base mb vb iv vv gk sb cut w k)(d:iB base mb vb w w')(l:∀ b∈bl,w.heap.size<=b):FF mb vb w' f j (sb++bl):=by
 obtain⟨xb,g,rfl,m,a,i,n⟩:=c;refine⟨xb,g,J,(by grind [fG.oU]),d.block _ _ a ?_,i,fun hm=>?_⟩
 .rintro (e | e | ⟨-,cs',e⟩)
  .rw[e,h.cell] at a;grind
  .omega
  grind
 grind
def FF.G6{f:Y}(c:FF mb vb w f j sb)(m:g∈sb)(hx:∃ cs,w.heap[g]?=aN cs 3)(a:bz (fun b _=>O g=O b) w w'):FF mb vb w' f j sb:=by
 obtain⟨xb,d,rfl,h,i,k,l⟩:=c;refine⟨xb,d,J,a.block _ _ h (fun e=>?_),a.block _ _ i (fun e=>?_),k,l⟩<;>grind
def Ug(h:fG base mb vb iv vv gk sb cut w k)(l:k.ins.length<=100000)(wd:Bs):Calls baf 138 #[pp mb,aM wd] w fun e w'=>iB base mb vb w w' /\
  ∃ b c g f,e = ah f/\w.heap.size<=g/\fG base mb vb b vv c (sb++[g]) cut w' (k.put wd [] V [0])/\FF mb vb w' f k.ins.length (sb++[g]):=by
 suffices H:∀ R:Ending->Z->Prop,(∀ e w',(iB base mb vb w w'/\∃ b c g f,e = ah f/\w.heap.size<=g/\fG base mb vb b vv c (sb++[g]) cut w' (k.put wd [] V [0])/\FF mb vb w' f k.ins.length (sb++[g]))->R e w') ->
  Calls baf 138 #[pp mb,aM wd] w R from H _ fun _ _ h=>h
 intro R m;have d:=h.cell;have lc:=bf d;have lv:=bf h.vars.2;obtain⟨x,pc,n⟩:=gX h.row;refine aPs ?_;have i:=d;rw[n] at i;refine cG i ?_;obtain⟨a,o⟩:=b9 (bO ((w.alloc (ae #[pp mb] 245)).alloc (ae #[zi 0] 3)) (w.heap.size+1) (ae #[zi (k.ins.length:Int)] 3));rw[<- o,size_alloc];have j:Ext w a:=yF;have p:a.heap.size=w.heap.size+1+1:=yH;have g1:a.heap[w.heap.size]?=aN #[pp mb] 245:=yH;have g2:a.heap[w.heap.size+1]?=aN #[zi (k.ins.length:Int)] 3:=yH;have q:=h.ext j;have r:FF mb vb a (.func (.func 160) #[] #[pp w.heap.size,pp (w.heap.size+1)]) k.ins.length sb:=⟨_,_,J,g1,g2,zo,fun hm=>by have:=h.ins.lt _ hm;omega⟩;rw[<- p];refine FD q (wd:=wd) (nm:=[]) (cv:=ai) (con:=V) (s:=[0]) zs J l zo ?_;rintro y t ⟨b,c,u⟩;refine bD ?_;exact m _ _ ⟨(bz.ea j).trans t,b,c,a.heap.size,_,J,zo,u,(by grind [a0x,FF.fr])⟩
def Uh{f:Y}{l r:List P.In}{i:P.In}{s1 s2:List Nat}(h:fG base mb vb iv vv gk sb cut w k)(I:FF mb vb w f j sb)(L:k.ins=l++i::r)(hl:l.length=j)(z:i.s.length=1)(m:sb=s1++g::s2)(M:s1.length=yg l){K:Ending->Z->Prop}
  (N:∀ w',bz (fun b _=>O g=O b) w w'->(∃ cs,w.heap[g]?=aN cs 3)->fG base mb vb iv vv gk sb cut w' (k.land j)->K (ah (ak #[])) w') :
  ∃ x y,f = .func (.func 160) #[] #[x,y]/\Calls baf 160 #[x,y] w K:=by
 have Q:i.s≠[]:=zg;have B:=h.ins;rw[L,m] at B;have a:=h.I4;rw[m] at a;obtain⟨cap,cs,q1,q2,q3,q4,q5,R⟩:=B.land Q M a;obtain⟨xb,yb,rfl,g1,g2,g3,g4⟩:=I;refine⟨_,_,J,?_⟩;have C:=h.cell;have lg:=bf q2;obtain⟨pa,pc,zj⟩:=gX h.row;have kS:k.ins.length=l.length+1+r.length:=zg;have S:(j:Int)<(k.ins.length:Int):=zo;have U:(j:Int).toNat=j:=zo;have D:=h.row;rcases D.2 with⟨n,E⟩| ⟨W,o,cur,n,E,F,X,h5,h6,h7⟩
 .omega
 have H:=C;rw[n] at H;have lib:=bf F;have ox:cur[j*4+3]?=O (cM g i.s.length cap):=by
  grind
 have VU:0<cs.size:=zo;refine aPt ?_;refine dC @g1 @g2 H (zA F (zA S (zA @U (zA ox (zA z (zA @q2 VU)))))) ?_;obtain⟨c,p⟩:=b9 (bO w.drew g (ae (cs.setIfInBounds 0 (zi (k.ins.length:Int))) 3 (0,0)));rw[<- p];have d:bz (fun b _=>O g=O b) w c:=yF;have q:c.heap[g]?=aN (cs.setIfInBounds 0 (zi (k.ins.length:Int))) 3:=yH;have hb:∀ {b:Nat} {cs:Array Y} {T:Nat},T≠3->w.heap[b]?=aN cs T->c.heap[b]?=aN cs T:=yH;have K6:g∈sb:=zg;have t:(k.land j).ins=l++{ i with s:=[k.ins.length] }::r:=by
  unfold Mk.land;simp only;have:=WY (fun x:P.In=>{ x with s:=[k.ins.length] }) l (i::r) 0;grind
 have hlen:(k.land j).ins.length=k.ins.length:=zg;refine N c d yH ⟨hb zo C,h.lo,?_,?_,⟨h.vars.1,d.block _ _ h.vars.2 (fun e=>?_)⟩,h.I3,h.sep,h.I4⟩
 .rw[hlen];exact⟨D.1,.inr ⟨W,o,cur,n,E,yH,X,h5,h6,h7⟩⟩
 .rw[t,m];refine R c _ [k.ins.length] yH q zg zg ?_;have e:(cs.setIfInBounds 0 (zi (k.ins.length:Int))).toList=cs.toList.set 0 (zi (k.ins.length:Int)):=zs;have u:cs.toList.take [k.ins.length].length=uC i.s:=zg;rw[e,List.take_set,u];obtain⟨x,hx⟩:=List.length_eq_one_iff.1 z;grind
 .injection e with e;exact h.sep g K6 e
end
open Go.Proofs.YtoegidfbnkaabaaGreatDoor.Sx
section
variable{p0 p1 p2 p3 p4 p5 p6 p7:Y}{w:Z}{R:Ending->Z->Prop}
def Uj:=cz w R [p0,p1,p2] (gc [(3,[15,27]),(14,[73])] [] [28,45,60,61,66,67,74,82,83,110,111,157,158]) Tryz.func107
end
theorem aqx{α:Type}(f:α->α):∀ (a b:List α) (q:Nat),q<a.length->(a++b).modify q f=a.modify q f++b
 | [],b,q,h=>zg
 | x::a,b,0,h=>zs
 | x::a,b,q+1,h=>by
  rw[List.cons_append,a1m,a1m,aqx f a b q zg];rfl
def P.aqy(b:Bd)(c:Nat)(m:Mk):sd [b] c m=kX b c m:=by
 unfold sd;cases kX b c m with
 | none=>rfl
 | some m=>simp [sd]
def P.aqz{m:Mk}{w:Bs}(a:j<m.ins.length):∃ X,((m.put w [] V [0]).land j).ins=X++[⟨w,[],V,[0]⟩]/\X.length=m.ins.length:=by
 grind [Mk.land,Mk.put,aqx]
section
variable{base mb vb:Nat}{cut:Int}
def fG.bd{k:Mk}(h:fG base mb vb iv vv gk fQ cut w k)(a:iB base mb vb w w'){x:Bd}(hx:dJ (fun _=>True) w v x):dJ (fun _=>True) w' v x:=dJ.mono zg (h.ll a) _ _ hx
abbrev Uk(base mb vb:Nat)(cut:Int)(n:Nat):Prop:=∀ (x:Bd),iS x<=n->∀ {iv vv:Y} {gk:List Y} {sb:List Nat} {w:Z} {k:Mk} {N M cs:Nat} {v:Y},fG base mb vb iv vv gk sb cut w k->GK N k->N+4*iS x<=90000->P.VK k->eV k.vars.length M x->dJ (fun _=>True) w v x->cs<64 ->
 Calls baf 107 #[pp mb,v,zi (cs:Nat)] w (uG base mb vb vv sb cut w (kX x cs k))
theorem VK.of{k k':Mk}(h:P.VK k)(hv:k'.vars=k.vars):P.VK k':=by grind [P.VK]
def aqA:∀ (l:List Bd) (j:Nat) (a:j<l.length),jw (l.drop j)=iS l[j]+jw (l.drop (j+1))
 | x::l,0,_=>by simp [jw]
 | x::l,j+1,a=>by simpa using aqA l j zg
def aqB:∀ (l:List Bd) (j:Nat),jw (l.drop j)<=jw l
 | [],j=>zg
 | x::l,0=>zs
 | x::l,j+1=>by have:=aqB l j;grind [jw]
def aqC:∀ (l:List Bd),l.length<=jw l
 | []=>zs
 | x::l=>by have:=aqC l;grind [aml,jw]
def aqD(ih:Uk base mb vb cut n){name:Bs}{args:List Ex}(U:iS (.mk pb name args gz)<=n+1)(W:pb=33\/pb=44){k:Mk}{cs:Nat}
  (h:fG base mb vb iv vv gk fQ cut w k) (hk:GK N k) (X:N+4*iS (.mk pb name args gz)<=90000) (rK:P.VK k) (B:eV k.vars.length M (.mk pb name args gz)) (hx:dJ (fun _=>True) w v (.mk pb name args gz)) (C:cs<64) :
  Calls baf 107 #[pp mb,v,zi (cs:Nat)] w (uG base mb vb vv fQ cut w (kX (.mk pb name args gz) cs k)):=by
 suffices H:∀ R:Ending->Z->Prop,(∀ D w',uG base mb vb vv fQ cut w (kX (.mk pb name args gz) cs k) D w'->R D w')->Calls baf 107 #[pp mb,v,zi (cs:Nat)] w R from H _ fun _ _ h=>h;intro R c;unfold eV at B;obtain⟨o1,o2,o3,o4,o5,o6,o7,o8⟩:=B;unfold dJ at hx;obtain⟨b,av,pv,vs,us,rfl,-,E,gi,Ct,F,I⟩:=hx;have hc:=h.cell;have lv:=bf h.vars.2;have uz:=I.GW;obtain⟨pa,pc,rfl⟩:=F.sl;simp only[iS] at U X;have jY:=aqC gz;refine Uj ?_;unfold kX at c;rcases W with rfl | rfl
 .rw[zip rfl] at c;refine cG E ?_;refine FD h (wd:=kW) (nm:=[]) (cv:=ai) (con:=V) (s:=[cs]) zs J (a0f hk.len zo) lv ?_;rintro w3 hG ⟨tI,tJ,h3⟩;refine bD ?_;exact c _ _ ⟨hG,J,tI,tJ,[_],yH,h3⟩
 .rw[bX zd,zip rfl] at c;refine cG E ?_;refine⟨fun m z w'=>∃ j a p q g l,z 73=zi ((j:Nat):Int)/\j<=gz.length/\m=gz.length-j/\fG base mb vb p vv q (fQ++g) cut w' a/\(∀ b∈g,w.heap.size<=b)/\iB base mb vb w w' /\
    sd gz cs k=sd (gz.drop j) cs a/\GK l a/\l+4*jw (gz.drop j)<=N+4*jw gz/\a.vars=k.vars,
   ⟨_,0,k,iv,gk,[],N,J,a0r _,J,zg,yH,yF,J,hk,a0d _,J⟩,?_⟩
  intro m z1 d1 w5 hI;refine toPr ?_;obtain⟨j,a,p,q,g,l,r,hj,rfl,K,Ue,i,heq,L,hNj,t⟩:=hI;have sz5:=i.size;by_cases d:j<gz.length
  .have qq:j<us.length:=zo;obtain⟨sb1,IL,Q,e4,e5,S⟩:=F.at' qq;obtain⟨u,e7,hu⟩:=gx.Cw j d I;rw[e7] at S;simp only[a0s,true_and] at Q;obtain⟨rfl,rfl⟩:=Q;have jJ:((j:Nat):Int).toNat=j:=zo;have I5:=h.oU i e5 zd;have x:((j:Nat):Int)<(us.length:Int):=zo;refine dC r x @I5 (zA @S @jJ) ?_;have PE:=aqA gz j d;have afZ:=aqB gz j;have T:eV a.vars.length M gz[j]:=by rw[t];exact o8.at d
   refine a0c (ih gz[j] zo K L zo (VK.of rK t) T (h.bd i hu) C) ?_;rintro e w6 ⟨pM,f⟩;have o:sd (gz.drop j) cs a=match kX gz[j] cs a with
     | none=>V
     | some m=>sd (gz.drop (j+1)) cs m:=by
    rw[a0h d,sd];rfl
   cases ht:kX gz[j] cs a with
   | none=>
    rw[ht] at f o;rw[heq,o] at c;have f:e=gV (.fault 4):=f;subst f;exact c _ _ ⟨yF,J⟩
   | some k6=>
    rw[ht] at f o;obtain⟨he,tK,tL,CR,Yy,Hc⟩:=f;subst he;obtain⟨g1,g2⟩:=DP _ _ _ _ _ ht L T C zo;refine cG r ?_;refine⟨_,?_,j+1,k6,tK,tL,g++CR,l+4*iS gz[j],by simp [jg],zo,J,by rw[<- a0I];exact Hc,fun y hy=>?_,i.trans pM,heq.trans o,g1,zo,g2.trans t⟩<;>grind
  .have d:j=gz.length:=zo;subst d;have x:¬ (gz.length:Int)<(us.length:Int):=zo;rw[heq,a01,sd] at c;refine dy r x ?_;exact c _ _ ⟨i,J,p,q,g,Ue,K⟩
end
