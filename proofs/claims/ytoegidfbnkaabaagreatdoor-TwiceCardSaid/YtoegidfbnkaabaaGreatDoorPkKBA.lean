/- A part of one proof (KG1, KG2, KG3, KG4, KG5, KG6, KG7, KG8, ShX3b, KG9). -/
import Derived.Test.YtoegidfbnkaabaaGreatDoorPkKAZ
set_option linter.all false
set_option maxRecDepth 100000
set_option maxHeartbeats 8000000
open Option renaming some → O, none → V
open Go renaming Value → Y, World → Z
open Bool renaming true → A
open Go.Obj renaming cells → ah
open Go.Ending renaming returned → ai
open Go.Value renaming nilIface → aj, iface → ak, tuple → aq
open Go.Calls renaming mono → a0C
open Nat renaming le_refl → a0D, le_trans → a0E, zero_le → a0R
open List renaming drop_eq_getElem_cons → a0I, mem_append → a0P, mem_singleton → a0Y, append_assoc → a1b, drop_length → a1s, modify_succ_cons → a1Q
open Go.Value.slice renaming injEq → a0S
open Option renaming map_eq_some_iff → a02, none → a3e
open Go.Builtin renaming append_ → a07
open Go.Proofs.Tryz renaming prog → baG
namespace Go.Proofs.YtoegidfbnkaabaaGreatDoor
open P
open Go.RowKit Sx
variable{F:Nat->Prop}{M N b base c g i j k m n pb:Nat}{X:Y->Z->Prop}{bl fw:List Nat}{cs iK:Array Y}{iv v vv:Y}{gx xs:List Y}{gI:List Bd}{zu:Mk}{w w' w0:Z}{wd:Bs}
def Tryz.aPL:(Tryz.prog.info? 198).map (fun i=>(i.zero,i.size,i.bytes))=O (O (.agg #[aW [],aW [],aj,b9]),4,72):=zk
def agu(c:w.ownsRow base 198 4 v n xs){l:List Y}
  (d:w.heap[b]?=aP l.toArray 198) (q:l.length=4) (r:∀ u∈l,u.oneCell'=A)
  (s:n<=900000000) (f:base<=w.heap.size) {K:Y->Z->Prop}
  (h:∀ v' w',w'.ownsRow base 198 4 v' (n+1) (xs++l)->w.grownBy w' v.ownBlock->(v'.ownBlock=v.ownBlock\/∀ k,v'.ownBlock=O k->w.heap.size<=k)->K v' w') :
  WR baG (a07 #[194,194] 194 #[v,cU b 1 m]) w K X:=by
 obtain⟨i,g,a⟩:=a02.1 Tryz.aPL;simp only[Prod.mk.injEq] at a;obtain⟨j,o,p⟩:=a;exact Sx.Dr (m:=1) (t:=194) (e:=198) zk g j o p J zo c d zo zg zo zo f h
def Jd(w:Z)(v:Y)(s:List Nat)(bl:List Nat):Prop:=(s=[]/\v = b9/\bl=[])\/∃ b cap cs,bl=[b]/\s≠[]/\v = cU b s.length cap/\w.heap[b]?=aP cs 3/\cs.size=cap/\s.length<=cap/\cs.toList.take s.length=uO s
def qL(w:Z):List Y->List P.In->List Nat->Prop
 | vs,[],sb=>vs=[]/\sb=[]
 | vs,i::r,sb=>∃ cv sv bl rest a,vs=[.string (bs i.word),.string (bs i.name),cv,sv]++rest/\sb=bl++a/\ym cv i.const/\Jd w sv i.s bl/\qL w rest r a
def tU:Option Nat->Y
 | none=>.int .i64 (-1)
 | some k=>.int .i64 (k:Int)
structure fM(base mb vb:Nat)(iv vv:Y)(gx:List Y)(sb:List Nat)(cut:Int)(w:Z)(k:Mk):Prop where
 cell:w.heap[mb]?=aP #[zi (k.slots:Nat),iv,vv,zi cut] 247
 lo:base<=mb
 row:w.ownsRow base 198 4 iv k.ins.length gx
 ins:qL w gx k.ins sb
 vars:vv = cU vb k.vars.length k.vars.length/\w.heap[vb]?=O (ah (k.vars.map tU).toArray 3 (0,0))
 Je:base<=vb
 sep:∀ b∈sb,b≠vb
 Jf:sb.Nodup
def GM(base mb vb:Nat)(b:Nat)(o:Obj):Prop:=b=mb\/b=vb\/(base<=b/\∃ cs,o = ah cs 198 (0,0))
abbrev iF(base mb vb:Nat)(w w':Z):Prop:=bD (GM base mb vb) w w'
theorem Jd.bJ{s:List Nat}(h:Jd w v s bl)(hk:∀ b∈bl,∀ cs:Array Y,w.heap[b]?=aP cs 3->w'.heap[b]?=aP cs 3):Jd w' v s bl:=by
 rcases h with h | ⟨b,cap,cs,rfl,a,c,d,e⟩
 .exact .inl h
 .exact .inr yH
theorem qL.bJ{w w':Z}:∀ {l:List P.In} {vs:List Y} {sb:List Nat},qL w vs l sb->(∀ b∈sb,∀ cs:Array Y,w.heap[b]?=aP cs 3->w'.heap[b]?=aP cs 3)->qL w' vs l sb
 | [],vs,sb,h,_=>h
 | i::r,vs,sb,⟨cv,sv,bl,rest,a,c,d,e,g,f⟩,hk=>⟨cv,sv,bl,rest,a,c,d,e,(by grind [List.mem_append_left,Jd.bJ]),qL.bJ f yH⟩
def qL.snoc{w:Z}{i:P.In}{l0:List Y}{b0:List Nat}:∀ {l:List P.In} {vs:List Y} {sb:List Nat},qL w vs l sb->qL w l0 [i] b0->qL w (vs++l0) (l++[i]) (sb++b0)
 | [],vs,sb,⟨b,c⟩,a=>zg
 | x::r,vs,sb,⟨cv,sv,bl,rest,d,b,c,e,f,g⟩,a=>⟨cv,sv,bl,rest++l0,d++b0,zg,zg,e,f,qL.snoc g a⟩
section
variable{base mb vb:Nat}{iv vv:Y}{gx:List Y}{sb:List Nat}{cut:Int}{w w':Z}{k:Mk}
def fM.own(h:fM base mb vb iv vv gx sb cut w k)(d:bD (fun b _=>b=mb) w w'){a:Int}(f:w'.heap[mb]?=aP #[zi (n:Nat),iv,vv,zi a] 247):fM base mb vb iv vv gx sb a w' { k with slots:=n }:=by
 have j:∀ {b:Nat} {cs:Array Y} {T:Nat},T≠247->w.heap[b]?=aP cs T->w'.heap[b]?=aP cs T:=fun{b cs T} l c=>d.block b _ c fun e=>by
  rw[e,h.cell] at c;grind
 refine⟨f,h.lo,⟨h.row.1,?_⟩,h.ins.bJ yH,(by grind [vars]),h.Je,h.sep,h.Jf⟩
 .rcases h.row.2 with m | ⟨b,cap,cur,rfl,g,o,i⟩
  .exact yH
  .exact .inr ⟨b,cap,cur,J,g,yH,i⟩
def Lp(h:fM base mb vb iv vv gx sb cut w k)(r:k.slots<=64):Calls baG 104 #[pp mb] w fun e w'=>iF base mb vb w w'/\match k.slot with
  | none=>e=gW (.fault 4)
  | some (s,k')=>e = ai (.int .i64 (s:Nat))/\fM base mb vb iv vv gx sb cut w' k':=by
 have f:=h.cell;have lc:=bn f;refine aPG ?_;obtain⟨w1,j⟩:=ck (bT w mb (ah #[zi ((k.slots+1:Nat):Int),iv,vv,zi cut] 247));have g:bD (fun b _=>b=mb) w w1:=yF;have a:w1.heap[mb]?=aP #[zi ((k.slots+1:Nat):Int),iv,vv,zi cut] 247:=yH;have t:=h.own g (n:=k.slots+1) a;have l:iF base mb vb w w1:=g.mono fun b o _ e=>.inl e;have m:=bn a;have p:(k.slots:Int)+1=((k.slots+1:Nat):Int):=zo;have q:bT w mb (ah (oV #[zi (k.slots:Nat),iv,vv,zi cut] 0 (Value.int .i64 ((k.slots:Int)+1)).cells.toList) 247 (0,0))=w1:=by rw[j,<- p];rfl
 refine cM f ?_;rw[q];unfold Mk.slot;by_cases i:64<k.slots+1
 .rw[zip i];have c:((k.slots+1:Nat):Int) > 64:=zo;refine⟨fun _ _=>False,?_,by rintro _ _ h;exact h.elim⟩;refine dB a c ?_;exact⟨l,J⟩
 .rw[bO i];have c:¬ ((k.slots+1:Nat):Int) > 64:=zo;refine⟨fun _ w'=>w'=w1,?_,?_⟩
  .exact lW a c
  .rintro s w2 rfl d;refine cM a ?_;exact yF
def Lq(h:fM base mb vb iv vv gx sb cut w k){nm:Bs}{cv sv:Y}{con:Option Tm}{s:List Nat}(m:ym cv con)(I:Jd w sv s bl)(hd:∀ b∈bl,b ∉ sb/\b≠vb)(hn:k.ins.length<=100000) :
  Calls baG 105 #[pp mb,aW wd,aW nm,cv,sv] w fun e w'=>e = ai (aq #[])/\iF base mb vb w w'/\∃ R S,fM base mb vb R vv S (sb++bl) cut w' (k.put wd nm con s):=by
 have y:=h.cell;have lc:=bn y;have tM:=h.lo;obtain⟨pa,pc,z⟩:=ij h.row;have L:cv = aj\/∃ t u,cv = ak t u:=by
  cases con with
  | none=>exact .inl m
  | some t=>
   cases t with
   | atom s=>exact .inr ⟨_,_,m⟩
   | int s=>exact .inr ⟨_,_,m⟩
   | var i=>exact m.elim
   | comp s l=>exact m.elim
 obtain⟨sa,sn,sc,B⟩:∃ a n c,sv = .slice a n c:=by
  rcases I with⟨-,d,-⟩| ⟨b,cap,cs,-,-,d,-⟩<;>exact zg
 have K6:cv.oneCell'=true:=by rcases L with rfl | ⟨_,_,rfl⟩<;>rfl
 refine aPF ?_;have M:=y;rw[z] at M;obtain⟨l0,C⟩:∃ l0:List Y,l0=[aW wd,aW nm,cv,sv]:=⟨_,J⟩;obtain⟨w1,D⟩:=ck (w.alloc (ah l0.toArray 198 (0,0)));have p:Ext w w1:=yF;have s1:w1.heap.size=w.heap.size+1:=yH;have g1:w1.heap[w.heap.size]?=aP l0.toArray 198:=yH;rw[C] at D;have main:∀ {K:Y->Z->Prop} {X:Y->Z->Prop},(∀ v' w3,w3.ownsRow base 198 4 v' (k.ins.length+1) (gx++l0)->w1.grownBy w3 iv.ownBlock->(v'.ownBlock=iv.ownBlock\/∀ j,v'.ownBlock=O j->w1.heap.size<=j)->K v' w3) ->
   WR baG (a07 #[194,194] 194 #[iv,cU w.heap.size 1 1]) w1 K X:=fun U=>
  agu (jQ p.ext h.row) g1 zg (by
   rw[C];intro u hu;simp only[List.mem_cons,List.not_mem_nil,or_false] at hu;rcases hu with rfl | rfl | rfl | rfl
   .rfl
   .rfl
   .omega
   .rw[B];rfl) zo zo U
 rcases L with rfl | ⟨ct,cu,rfl⟩;all_goals
  rw[B] at D;refine dB M B ?_;rw[<- D,<- z];refine main fun v' w3 E q hv=>?_;obtain⟨N,pc',W⟩:=ij E;subst W;have P:∀ {b:Nat} {cs:Array Y} {T:Nat},T≠198->w.heap[b]?=aP cs T->w3.heap[b]?=aP cs T:=fun{b cs T} hT f=>by
   have r:=p.ext _ _ f;rw[q.block b (bn r) (fun he=>?_)]
   .exact r
   .rcases h.row.2 with⟨d,-⟩| ⟨b',cap,cur,d,F,g,G⟩
    .rw[d] at he;cases he
    .rw[d] at he;cases he;rw[f] at g;injection g with g;injection g with _ g _;exact hT g
  have c3:=P zd y;have l3:=bn c3;have x:=c3;rw[z] at x;refine cM @x ?_;obtain⟨Q,H⟩:=ck (bT w3 mb (ah #[zi (k.slots:Nat),.slice N (k.ins.length+1) pc',vv,zi cut] 247));rw[<- H];have yI:∀ {b:Nat} {cs:Array Y} {T:Nat},T≠247->w3.heap[b]?=aP cs T->Q.heap[b]?=aP cs T:=yH;have Lh:=q.size;refine⟨?_,.slice N (k.ins.length+1) pc',gx++l0,?_⟩
  .rw[H];refine⟨q.os.trans p.os,q.tape.trans p.tape,q.output.trans p.output,by rw[uY];omega,fun b o f hm=>?_⟩;have r:=p.ext _ _ f;rw[jh (fun e=>hm (.inl e)),q.block b (bn r) (fun he=>?_)]
   .exact r
   .rcases h.row.2 with⟨d,-⟩| ⟨b',cap,cur,d,F,g,G⟩
    .rw[d] at he;cases he
    .rw[d] at he;cases he;rw[f] at g;exact hm (.inr zg)
  .refine⟨by rw[H];exact qo J l3,h.lo,?_,?_,?_,h.Je,fun b f=>?_,?_⟩
   .show Q.ownsRow base 198 4 _ (k.ins++[_]).length _;rw[List.length_append,List.length_singleton];refine⟨E.1,?_⟩;rcases E.2 with d | ⟨b,cap,cur,d,F,g,G⟩
    .exact yH
    .exact .inr ⟨b,cap,cur,d,F,yH,G⟩
   .refine qL.snoc (h.ins.bJ yH) ⟨_,sv,bl,[],[],by rw[C];rfl,zg,m,(by grind [Jd.bJ]),J,J⟩
   .exact⟨h.vars.1,yI zd (P zd h.vars.2)⟩
   .rcases a0P.1 f with f | f
    .exact h.sep b f
    .exact zg
   .rw[List.nodup_append];refine⟨h.Jf,?_,zg⟩;rcases I with⟨-,-,rfl⟩| ⟨b,cap,cs,rfl,-⟩<;>simp
end
def Tryz.aPO:(Tryz.prog.info? 3).map (fun i=>(i.zero,i.size,i.bytes))=O (O (zi 0),1,8):=zk
def aqW(d:w.ownsRow base 3 1 v n xs){a:Y}
  (f:w.heap[b]?=aP #[a] 3) (q:a.oneCell'=A)
  (r:n<=100000000) (g:base<=w.heap.size) {K:Y->Z->Prop}
  (h:∀ v' w',w'.ownsRow base 3 1 v' (n+1) (xs++[a])->w.grownBy w' v.ownBlock->(v'.ownBlock=v.ownBlock\/∀ k,v'.ownBlock=O k->w.heap.size<=k)->K v' w') :
  WR baG (a07 #[45,45] 45 #[v,cU b 1 m]) w K X:=by
 obtain⟨i,j,c⟩:=a02.1 Tryz.aPO;simp only[Prod.mk.injEq] at c;obtain⟨l,o,p⟩:=c;refine Sx.Dr (m:=1) (t:=45) (e:=3) zk j l o p J zo d f J (fun u hu=>?_) zo zo g h;grind
def aqX{name:Bs}{n:Int}{args:List Ex}(h:eR F w v (.mk pb name n k args))(hk:pb<256) :
  Calls baG 137 #[v] w fun e w'=>w'=w/\∃ u,e = ai u/\ym u (O (Cv pb name n)):=by
 unfold eR at h;obtain⟨b,av,dk,rfl,f,c,g,hx⟩:=h;refine aPH ?_;by_cases d:pb=110
 .have a:(pb:Int)=110:=zo;refine dB c @a ?_;refine⟨_,J,?_⟩;unfold Cv;rw[zip d];rfl
 .have a:¬ (pb:Int)=110:=zo;refine dB c @a ?_;refine⟨_,J,?_⟩;unfold Cv;rw[bO d];rfl
def uS(base mb vb:Nat)(vv:Y)(sb:List Nat)(cut:Int)(w:Z)(r:Option Mk)(e:Ending)(w':Z):Prop:=
 iF base mb vb w w'/\match r with
  | none=>e=gW (.fault 4)
  | some k'=>e = ai (aq #[])/\∃ a c bl,(∀ b∈bl,w.heap.size<=b)/\fM base mb vb a vv c (sb++bl) cut w' k'
section
variable{base mb vb:Nat}{iv vv:Y}{gx:List Y}{sb:List Nat}{cut:Int}{w w':Z}{k:Mk}
theorem qL.lt{w:Z}:∀ {l:List P.In} {vs:List Y} {sb:List Nat},qL w vs l sb->∀ b∈sb,b<w.heap.size
 | [],_,_,⟨_,c⟩,b,a=>yH
 | i::r,vs,sb,⟨cv,sv,bl,rest,f,g,c,h,d,e⟩,b,a=>by
  rw[c] at a;rcases a0P.1 a with a | a
  .rcases d with⟨-,-,rfl⟩| ⟨j,cap,cs,rfl,-,-,k,-⟩<;>grind
  .exact qL.lt e b a
theorem fM.ext(h:fM base mb vb iv vv gx sb cut w k)(a:Ext w w'):fM base mb vb iv vv gx sb cut w' k:=
 ⟨a.ext _ _ h.cell,h.lo,jQ a.ext h.row,h.ins.bJ (by grind [bD.ext]),(by grind [vars,bD.ext]),h.Je,h.sep,h.Jf⟩
def FJ(h:fM base mb vb iv vv gx sb cut w k){nm:Bs}{cv:Y}{con:Option Tm}{s:List Nat}(d:s≠[])(f:ym cv con)(g:k.ins.length<=100000)(q:vb<w.heap.size){K:Ending->Z->Prop}
  (i:∀ w',iF base mb vb w w'->(∃ j l,fM base mb vb j vv l (sb++[w.heap.size]) cut w' (k.put wd nm con s))->K (ai (aq #[])) w') :
  Calls baG 105 #[pp mb,aW wd,aW nm,cv,cU w.heap.size s.length s.length] (w.alloc (ah (uO s).toArray 3 (0,0))) K:=by
 have a:Ext w (w.alloc (ah (uO s).toArray 3 (0,0))):=yF;have m:(uO s).length=s.length:=zs;have n:(w.alloc (ah (uO s).toArray 3 (0,0))).heap[w.heap.size]?=O (ah (uO s).toArray 3 (0,0)):=yH;refine a0C (Lq (h.ext a) (bl:=[w.heap.size]) f (.inr ⟨w.heap.size,s.length,_,J,d,J,n,zs,a0D _,by rw[<- m];exact List.take_length⟩) (fun b c=>?_) g) ?_
 .rw[a0Y] at c;subst c;exact⟨fun hm=>by have:=h.ins.lt _ hm;omega,zo⟩
 .rintro e w' ⟨rfl,o,p⟩;exact i w' ((bD.mono a fun _ _ _ h=>h.elim).trans o) p
def fM.aqY(h:fM base mb vb iv vv gx sb cut w k){s:Nat}(e:j<k.vars.length)(a:vb<w.heap.size):fM base mb vb iv vv gx sb cut (bT w vb (ah ((k.vars.map tU).toArray.setIfInBounds j (zi (s:Nat))) 3 (0,0))) { k with vars:=k.vars.set j (O s) } /\
  iF base mb vb w (bT w vb (ah ((k.vars.map tU).toArray.setIfInBounds j (zi (s:Nat))) 3 (0,0))):=by
 obtain⟨f,g⟩:=h.vars;have hk:∀ {b:Nat} {cs:Array Y} {T:Nat},(T≠3\/b≠vb)->w.heap[b]?=aP cs T->(bT w vb (ah ((k.vars.map tU).toArray.setIfInBounds j (zi (s:Nat))) 3 (0,0))).heap[b]?=aP cs T:=yH;refine⟨⟨(by grind [cell]),h.lo,⟨h.row.1,?_⟩,h.ins.bJ (by grind [sep]),.intro ?_ ?_,h.Je,h.sep,h.Jf⟩,(bD.refl _ _).bT (.inl fun _=>.inr (.inl J))⟩
 .rcases h.row.2 with i | ⟨b,cap,cur,rfl,c,l,d⟩
  .exact yH
  .exact .inr ⟨b,cap,cur,J,c,yH,d⟩
 .grind
 .rw[qo J a];grind [List.map_set,tU]
theorem fM.lx(h:fM base mb vb iv vv gx sb cut w k)(d:iF base mb vb w w'):∀ (b:Nat) (o:Obj),True->Dt o->w.heap[b]?=O o->w'.heap[b]?=O o:=fun b o _ c a=>by
 cases o with
 | cells cs t z=>
  obtain⟨ht,rfl⟩:=c;refine d.block _ _ a ?_;rintro (e | e | ⟨-,cs',e⟩)
  .rw[e,h.cell] at a;grind
  .rw[e,h.vars.2] at a;grind
  grind
 | _=>exact c.elim
def fM.ex(h:fM base mb vb iv vv gx sb cut w k)(a:iF base mb vb w w'){x:Ex}(hx:eR (fun _=>True) w v x):eR (fun _=>True) w' v x:=eR.mono zg (h.lx a) _ _ hx
end
section
variable{base mb vb:Nat}{iv vv:Y}{gx:List Y}{sb:List Nat}{cut:Int}{w w':Z}{k:Mk}
def aPP(h:fM base mb vb iv vv gx sb cut w k){x:Ex}{name:Bs}{n:Int}{kv:Nat}{args:List Ex}(L:x = .mk pb name n kv args)(M:pb≠99)(C:ir k.vars.length x)(hx:eR (fun _=>True) w v x){s:Nat}(D:k.ins.length<=100000) :
  Calls baG 106 #[pp mb,v,zi (s:Nat)] w (uS base mb vb vv sb cut w (y7 x s k)):=by
 suffices H:∀ R:Ending->Z->Prop,(∀ m w',uS base mb vb vv sb cut w (y7 x s k) m w'->R m w')->Calls baG 106 #[pp mb,v,zi (s:Nat)] w R from H _ fun _ _ h=>h;intro R c;subst L;have N:=hx;unfold ir at C;obtain⟨o1,o2,X,o4,o5,o6,o7,o8⟩:=C;unfold eR at hx;obtain⟨b,av,dk,rfl,hF,e,hs,lY⟩:=hx;have lb:=bn e;have f:=h.cell;have lc:=bn f;obtain⟨P,g⟩:=h.vars;have lv:=bn g;have i:Ext w w.drew.drew:=yF;refine aqT ?_;by_cases o:pb=118
 .have l:(pb:Int)=118:=zo;have Q:=o4 o;have vX:(kv:Int)<(k.vars.length:Int):=zo;have p:(kv:Int).toNat=kv:=zo;have d:(k.vars.map tU).toArray[kv]?=O (tU k.vars[kv]):=zg;have S:(k.vars.map tU).toArray.size=k.vars.length:=zs;have E:=fun s=>h.ext i |>.aqY (s:=s) Q (by rw[BU,BU];exact lv);obtain⟨a,F⟩:=ck ((k.vars.map tU).toArray);rw[<- F] at g d S;rw[<- F] at E;unfold y7 at c;rw[zip o] at c;have T:k.vars.getD kv V=k.vars[kv]:=zg;rw[T] at c;rw[P] at f;cases G:k.vars[kv] with
  | none=>
   rw[G] at c d;have d:a[kv]?=O (zi (-1)):=d;refine dL e @l f (zA g (zA d @p)) ?_;obtain⟨r1,r2⟩:=E s;exact c _ _ ⟨yF,J,iv,gx,[],yH,zg⟩
  | some j=>
   rw[G] at c d;have d:a[kv]?=O (zi (j:Int)):=d;refine dL e @l f (zA g (zA d @p)) ?_;refine⟨fun w'=>Ext w w',i,?_⟩;rw[jF];refine cR (pq mb 2) (fun w' I=>eS) ?_;refine cR (cU vb k.vars.length k.vars.length) (fun w' I=>by have K:=I.ext _ _ f;have:=bn K;exact fj K) ?_;refine dL e g d @p ?_;refine⟨i.alloc _,?_⟩;refine FJ (h.ext i) (wd:=[115,97,109,101]) (nm:=[]) (cv:=aj) (con:=V) (s:=[s,j]) zs J D (yH) ?_;rintro w3 q ⟨r,z,B⟩;refine bF ?_;exact c _ _ ⟨(bD.mono i fun _ _ _ h=>h.elim).trans q,J,r,z,[w.heap.size],yH,B⟩
 .have l:¬ (pb:Int)=118:=zo;have U:¬ (pb:Int)=99:=zo;unfold y7 at c;rw[bO o,bO M] at c;refine jt e @l @U ?_;refine a0C (aqX N zo) ?_;rintro m w1 ⟨rfl,u,rfl,hu⟩;have W:u = aj\/∃ t y,u = ak t y:=by
   unfold Cv at hu;split at hu<;>exact .inr ⟨_,_,hu⟩
  rcases W with rfl | ⟨ct,cy,rfl⟩;all_goals
   refine bF ?_;refine FJ h (wd:=[99,111,110,115,116]) (nm:=[]) (con:=O (Cv pb name n)) (s:=[s]) zs hu D lv ?_;rintro w3 q ⟨r,z,B⟩;refine bF ?_;exact c _ _ ⟨q,J,r,z,[_],yH,B⟩
end
abbrev oz(base:Nat)(w:Z)(v:Y)(l:List Nat):Prop:=w.ownsRow base 3 1 v l.length (uO l)
section
variable{base mb vb ba:Nat}{iv vv v:Y}{gx:List Y}{sb l:List Nat}{cut:Int}{w w':Z}{k:Mk}
def oz.one(s:Nat):oz w.heap.size (w.alloc (ah #[zi (s:Int)] 3)) (cU w.heap.size 1 1) [s]:=
 ⟨J,.inr ⟨w.heap.size,1,_,J,a0D _,tz J,a0D _,zd,J,J⟩⟩
theorem oz.nil:oz ba w b9 []:=⟨J,yH⟩
theorem oz.bJ(h:oz ba w v l)(hk:∀ (g:Nat) (cs:Array Y),ba<=g->w.heap[g]?=aP cs 3->w'.heap[g]?=aP cs 3):oz ba w' v l:=by
 refine⟨h.1,?_⟩;rcases h.2 with a | ⟨g,cap,cur,a,b,d,c⟩
 .exact yH
 .exact .inr ⟨g,cap,cur,a,b,yH,c⟩
theorem oz.fr(h:oz ba w v l)(a:iF base mb vb w w')(hm:mb<ba)(hv:vb<ba):oz ba w' v l:=h.bJ fun g cs c b=>a.block _ _ b (by
 rintro (e | e | ⟨-,cs',e⟩)<;>grind)
def oz.own(h:oz ba w v l)(a:v.ownBlock=O b):ba<=b/\b<w.heap.size/\∃ cs,w.heap[b]?=aP cs 3:=by
 rcases h.2 with⟨c,-⟩| ⟨g,cap,cur,c,d,e,f⟩
 .rw[c] at a;cases a
 .rw[c] at a;injection a with a;exact yH
def oz.sin(h:oz ba w v l)(c:l=[]->v = b9):∃ bl,Jd w v l bl/\∀ b∈bl,v.ownBlock=O b:=by
 by_cases d:l=[]
 .exact⟨[],.inl zg,zg⟩
 .rcases h.2 with⟨rfl,e⟩| ⟨g,cap,cur,rfl,f,i,j,k,m,n⟩
  .grind
  .exact⟨[g],.inr yH,fun b a=>by rw[a0Y] at a;subst a;rfl⟩
def oz.push(h:oz ba w v l)(f:ba<=w.heap.size)(k:l.length<=1000){s:Nat}{K:Y->Z->Prop}
  (g:∀ v' w',oz ba w' v' (l++[s])->bD (fun b _=>v.ownBlock=O b) w w'->(v'.ownBlock=v.ownBlock\/∀ j,v'.ownBlock=O j->w.heap.size<=j)->K v' w') :
  WR baG (a07 #[45,45] 45 #[v,cU w.heap.size 1 1]) (w.alloc (ah #[zi (s:Int)] 3)) K X:=by
 have a:Ext w (w.alloc (ah #[zi (s:Int)] 3)):=yF;refine aqW (base:=ba) (jQ a.ext h) (tz J) J zo (by rw[size_alloc];omega) fun v' w' m c hv=>g v' w' ?_ ?_ ?_
 .grind
 .have:=c.size;have s1:=a.size;refine⟨c.os.trans a.os,c.tape.trans a.tape,c.output.trans a.output,zo,fun b o i hm=>?_⟩;have d:=a.ext _ _ i;rw[c.block b (bn d) (fun e=>hm e.symm)];exact d
 exact yH
def fM.Hh(h:fM base mb vb iv vv gx sb cut w k){x:Option Nat}(d:bD (fun b _=>x=O b) w w')(hx:∀ b,x=O b->∃ cs,w.heap[b]?=aP cs 3)(e:∀ b∈sb,x≠O b)(hv:x≠O vb):fM base mb vb iv vv gx sb cut w' k:=by
 have f:∀ {b:Nat} {cs:Array Y} {T:Nat},T≠3->w.heap[b]?=aP cs T->w'.heap[b]?=aP cs T:=(by grind [bD.block]);refine⟨(by grind [cell]),h.lo,⟨h.row.1,?_⟩,h.ins.bJ (by grind [bD.block]),(by grind [vars,bD.block]),h.Je,h.sep,h.Jf⟩;rcases h.row.2 with g | ⟨b,cap,cur,rfl,a,i,c⟩
 .exact yH
 .exact .inr ⟨b,cap,cur,J,a,yH,c⟩
def iF.own{x:Option Nat}(h:iF base mb vb w0 w)(a:bD (fun b _=>x=O b) w w')(hx:∀ b,x=O b->w0.heap.size<=b):iF base mb vb w0 w':=
 ⟨a.os.trans h.os,a.tape.trans h.tape,a.output.trans h.output,a0E h.size a.size,(by grind [bn,bD.block])⟩
theorem fM.py(h:fM base mb vb iv vv gx sb cut w k)(c:iF base mb vb w w'){T:Nat}(a:w.heap[b]?=aP cs T)(d:T≠247/\T≠3/\T≠198):w'.heap[b]?=aP cs T:=c.block _ _ a (by
 rintro (e | e | ⟨-,cs',e⟩)
 .rw[e,h.cell] at a;grind
 .rw[e,h.vars.2] at a;grind
 grind)
theorem bD.ed{M:Nat->Obj->Prop}(h:Ext w w'):bD M w w':=yF
end
def P.C8(k:Mk)(i:Nat)(ls:List Nat)(a:Mk):Prop:=∀ q,k.sO (i+q)=match a.sO q with
 | none=>V
 | some (l',k')=>O (ls++l',k')
def P.C8.zero(k:Mk):P.C8 k 0 [] k:=fun q=>by
 grind
theorem P.C8.step{k a:Mk}{s:Nat}(h:P.C8 k i fw zu)(b:zu.slot=O (s,a)):P.C8 k (i+1) (fw++[s]) a:=fun q=>by
 have:=h (q+1);rw[Nat.add_assoc,Nat.add_comm 1 q,this];have e:zu.sO (q+1)=match zu.slot with
  | none=>V
  | some (s,m)=>match m.sO q with
   | none=>V
   | some (l,m)=>O (s::l,m):=rfl
 grind
theorem P.C8.none{k a:Mk}{i n:Nat}{ls:List Nat}(h:P.C8 k i ls a)(c:a.slot=a3e)(d:i<n):k.sO n=a3e:=by
 have:=h (n-i-1+1);have b:i+(n-i-1+1)=n:=zo;rw[b] at this;rw[this];have e:a.sO (n-i-1+1)=match a.slot with
  | a3e=>a3e
  | some (s,m)=>match m.sO (n-i-1) with
   | a3e=>a3e
   | some (l,m)=>O (s::l,m):=rfl
 grind
def P.C8.done{k:Mk}(h:P.C8 k i fw zu):k.sO i=O (fw,zu):=by
 have:=h 0;rw[Nat.add_zero] at this;grind [Mk.sO]
def UB:∀ (l:List Ex) (j:Nat) (a:j<l.length),fL (l.drop j)=iH l[j]+fL (l.drop (j+1))
 | x::l,0,_=>by simp [fL]
 | x::l,j+1,a=>by simpa using UB l j zg
def YT:∀ (l:List Ex) (j:Nat),fL (l.drop j)<=fL l
 | [],j=>zg
 | x::l,0=>zs
 | x::l,j+1=>by have:=YT l j;grind [fL]
section
variable{base mb vb:Nat}{cut:Int}
def aqZ:∀ (n:Nat) (x:Ex),iH x<=n->∀ {iv vv:Y} {gx:List Y} {sb:List Nat} {w:Z} {k:Mk} {N s:Nat} {v:Y},fM base mb vb iv vv gx sb cut w k->GK N k->N+iH x<=90000->ir k.vars.length x->eR (fun _=>True) w v x->s<64 ->
  Calls baG 106 #[pp mb,v,zi (s:Nat)] w (uS base mb vb vv sb cut w (y7 x s k))
 | 0,x,X,_,_,_,_,_,_,_,_,_,_,_,_,_,_,_=>by cases x;simp [iH] at X
 | n+1,.mk kind name nn kv args,X,iv,vv,gx,sb,w,k,N,s,v,h,hk,hN,dj,hx,aYq=>by
  have ih:=aqZ n;by_cases YS:kind=99
  .suffices H:∀ R:Ending->Z->Prop,(∀ C w',uS base mb vb vv sb cut w (y7 (.mk kind name nn kv args) s k) C w'->R C w')->Calls baG 106 #[pp mb,v,zi (s:Nat)] w R from H _ fun _ _ h=>h;intro R c;have oX:=hx;unfold ir at dj;obtain⟨o1,o2,o3,o4,o5,o6,o7,o8⟩:=dj;unfold eR at hx;obtain⟨b,av,dk,rfl,hF,q,hs,lY⟩:=hx;have lb:=bn q;have Fb:=lY.Ft;obtain⟨aa,ac,rfl⟩:=hs.sl;have hc:=h.cell;have lc:=bn hc;obtain⟨kJ,j6⟩:=h.vars;have lv:=bn j6;simp only[iH] at X hN;have e1:(kind:Int)=99:=zo;unfold y7 at c;rw[bO zo,zip YS] at c;refine aqT ?_;refine dB q @e1 ?_;have dC:Ext w (w.alloc (ah #[zi (s:Int)] 3)):=yF;refine⟨fun m z w'=>∃ i ls l v1,z 65=zi ((i:Nat):Int)/\z 6=v1/\i<=args.length/\m=args.length-i/\ls.length=i/\P.C8 k i ls l/\fM base mb vb iv vv gx sb cut w' l/\iF base mb vb w w'/\oz w.heap.size w' v1 (s::ls)/\GK N l/\l.vars=k.vars/\∀ y∈ls,y<64,
    ⟨_,0,[],k,_,J,J,a0R _,J,J,P.C8.zero k,h.ext dC,yF,oz.one s,hk,J,zg⟩,?_⟩
   intro m z d w3 hI;refine toPr ?_;obtain⟨i,ls,l,v1,o,L,hi,rfl,GL,iW,h1,M,D,Q,PR,agw⟩:=hI;have h6':=L;obtain⟨ra,rc,rfl⟩:=ij D;have QV:=M.size;by_cases hlt:i<args.length
   .have qG:((i:Nat):Int)<(dk.length:Int):=zo;refine dB o qG ?_;refine a0C (Lp h1 Q.slots) ?_;rintro e w4 ⟨r,a⟩;cases E:l.slot with
    | none=>
     rw[E] at a;rw[iW.none E hlt] at c;have a:e=gW (.fault 4):=a;subst a;exact c _ _ ⟨yF,J⟩
    | some p=>
     obtain⟨s1,k2⟩:=p;rw[E] at a;obtain⟨he,h2⟩:e = ai (zi (s1:Nat))/\fM base mb vb iv vv gx sb cut w4 k2:=a;subst he;obtain⟨q1,q2,q3,-⟩:=Q.slot E;refine cM L ?_;have S:=D.fr r lc lv;have Ls:=r.size;refine S.push zo zg fun v5 w5 QH iU yd=>?_;have B:=fun b=>S.own (b:=b);have yJ:∀ b∈sb,(Value.slice ra (s::ls).length rc).ownBlock≠O b:=fun b q he=>by
      have:=(B b he).1;have:=h.ins.lt _ q;omega
     refine cM o ?_;refine⟨_,?_,i+1,ls++[s1],k2,v5,by simp [jk],by simp [jk],zo,J,by simp;omega,iW.step E,h2.Hh iU (fun b e=>(B b e).2.2) yJ (fun e=>by have:=(B _ e).1;omega),iF.own (M.trans r) iU (fun b e=>(B b e).1),QH,q1,q3.trans PR,?_⟩<;>grind
   .have lX:i=args.length:=zo;subst lX;have Mt:=iW.done;rw[Mt] at c;have c:∀ C w',uS base mb vb vv sb cut w (sQ args ls (l.put [115,112,108,105,116] name V (s::ls))) C w'->R C w':=c;have eQ:=h.py M q zd;have aPQ:¬ (args.length:Int)<(dk.length:Int):=zo;refine dL o L aPQ eQ ?_;obtain⟨bl,Hm,o9⟩:=D.sin (fun h=>by cases h);have B:=fun b=>D.own (b:=b);refine a0C (Lq h1 (wd:=[115,112,108,105,116]) (nm:=name) (cv:=aj) (con:=V) (s:=s::ls) J Hm (fun y hy=>?_) (a0E Q.len zo)) ?_
    .have:=(B y (o9 y hy)).1;exact⟨fun hm=>by have:=h.ins.lt _ hm;omega,zo⟩
    rintro e w4 ⟨rfl,r,Lt,Lu,h4⟩;have F:=M.trans r;have hb4:=h.py F q zd;have S:=D.fr r lc lv;obtain⟨T,qT⟩:=ck (l.put [115,112,108,105,116] name V (s::ls));rw[<- qT] at h4 c;have aPS:GK (N+1) T:=by
     rw[qT];exact Q.put ⟨zs,o1,by simp [Cw],zg,zg⟩
    have aYs:T.vars=k.vars:=by rw[qT];exact PR
    refine cM hb4 ?_;refine⟨fun m z w'=>∃ j f BD BE G U,z 85=zi ((j:Nat):Int)/\j<=args.length/\m=args.length-j/\fM base mb vb BD vv BE (sb++bl++G) cut w' f/\(∀ b∈G,w.heap.size<=b)/\iF base mb vb w w'/\oz w.heap.size w' (.slice ra (s::ls).length rc) (s::ls) /\
      sQ args ls T=sQ (args.drop j) (ls.drop j) f/\GK U f/\U+fL (args.drop j)<=N+1+fL args/\f.vars.length=k.vars.length,
     ⟨_,0,T,Lt,Lu,[],N+1,J,a0R _,J,zg,yH,F,S,J,aPS,a0D _,zg⟩,?_⟩
    intro m z1 d1 w5 hI;refine toPr ?_;obtain⟨j,f,BD,BE,G,U,Ob,hj,rfl,h5,UC,I,UD,heq,yp,hNj,Da⟩:=hI;have sz5:=I.size;by_cases K:j<args.length
    .have qG:j<dk.length:=zo;obtain⟨sb1,IX,e3,e4,e5,e6⟩:=hs.at' qG;obtain⟨u,e7,hu⟩:=eT.at' j K lY;rw[e7] at e6;simp only[a0S,true_and] at e3;obtain⟨rfl,rfl⟩:=e3;have j8:((j:Nat):Int).toNat=j:=zo;have aPT:(((j:Nat):Int)+1).toNat=j+1:=zo;have Jg:=h.py I e5 zd;have fE:((j:Nat):Int)<(dk.length:Int):=zo;obtain⟨g,gc,gu,ge,gh,gt⟩:=Tl UD (t:=j+1) zg;simp only[a0S,true_and] at ge;obtain⟨rfl,rfl⟩:=ge;have aYt:j<ls.length:=zo;have gt2:gu[j+1]?=O (zi ((ls[j]:Nat):Int)):=zg;have Be:(((j:Nat):Int)+1)<(((s::ls).length:Nat):Int):=zg;refine dL L Ob fE (zA @Jg (zA @e6 (zA @j8 (zA @aPT (zA @gh (zA @gt2 Be)))))) ?_;have FK:ir f.vars.length args[j]:=by rw[Da];exact o8.at K
     have P0:=UB args j K;have agB:=YT args j;have Wd:iH args[j]<=n:=zo;refine a0C (ih args[j] Wd h5 yp zo FK (h.ex I hu) (by grind [List.getElem_mem])) ?_;rintro e w6 ⟨qf,a⟩;have W:sQ (args.drop j) (ls.drop j) f=match y7 args[j] ls[j] f with
       | none=>V
       | some m=>sQ (args.drop (j+1)) (ls.drop (j+1)) m:=by
      grind [a0I,sQ]
     cases ht:y7 args[j] ls[j] f with
     | none=>
      rw[ht] at a W;rw[heq,W] at c;have a:e=gW (.fault 4):=a;subst a;exact c _ _ ⟨yF,J⟩
     | some k6=>
      rw[ht] at a W;obtain⟨he,tX,tY,Db,YW,Hn⟩:=a;subst he;obtain⟨g1,g2⟩:=adz _ _ _ _ _ ht yp (agw _ (List.getElem_mem _)) FK;refine cM Ob ?_;refine⟨_,?_,j+1,k6,tX,tY,G++Db,U+iH args[j],by simp [jk],zo,J,by rw[<- a1b];exact Hn,fun y hy=>?_,I.trans qf,UD.fr qf lc lv,heq.trans W,g1,zo,g2.trans Da⟩<;>grind
    .have K:j=args.length:=zo;subst K;have fE:¬ (args.length:Int)<(dk.length:Int):=zo;rw[heq,a1s,sQ] at c;refine dB Ob fE ?_;refine c _ _ ⟨I,J,BD,BE,bl++G,fun y hy=>?_,zg⟩;exact yH
  .exact aPP h J YS dj hx (a0E hk.len zo)
end
def aq1(base mb vb:Nat)(vv:Y)(sb:List Nat)(cut:Int)(w:Z)(r:Option (Nat×Mk))(e:Ending)(w':Z):Prop:=
 iF base mb vb w w'/\match r with
  | none=>e=gW (.fault 4)
  | some (s,k')=>e = ai (.int .i64 (s:Int))/\∃ a c bl,(∀ b∈bl,w.heap.size<=b)/\fM base mb vb a vv c (sb++bl) cut w' k'
def P.uT(k:Mk)(xs:List Ex)(i:Nat)(ls:List Nat)(a:Mk):Prop:=sS xs k=match sS (xs.drop i) a with
 | none=>V
 | some (l',k')=>O (ls++l',k')
def P.uT.zero(k:Mk)(xs:List Ex):P.uT k xs 0 [] k:=by
 grind [P.uT,sS]
theorem P.uT.eq{a:Mk}{xs:List Ex}{i:Nat}(b:i<xs.length):sS (xs.drop i) a=match Aq xs[i] a with
 | none=>V
 | some (s,m)=>match sS (xs.drop (i+1)) m with
  | none=>V
  | some (l,m)=>O (s::l,m):=by grind [a0I,sS]
theorem P.uT.step{k a:Mk}{xs:List Ex}{s:Nat}(h:P.uT k xs i fw zu)(b:i<xs.length)(c:Aq xs[i] zu=O (s,a)):P.uT k xs (i+1) (fw++[s]) a:=by
 grind [P.uT,P.uT.eq,sS,eq]
theorem P.uT.none{k a:Mk}{xs:List Ex}{i:Nat}{ls:List Nat}(h:P.uT k xs i ls a)(b:i<xs.length)(c:Aq xs[i] a=a3e):sS xs k=a3e:=by
 grind [P.uT,P.uT.eq,eq]
def P.uT.done{k:Mk}{xs:List Ex}(h:P.uT k xs xs.length fw zu):sS xs k=O (fw,zu):=by
 unfold P.uT at h;rw[h,a1s,sS];simp
def P.VK(k:Mk):Prop:=∀ j,j<k.vars.length->∃ t:Nat,k.vars[j]?=O (O t)
section
variable{base mb vb:Nat}{cut:Int}
theorem oz.aPU{s a:Nat}{l:List Nat}(h:oz pb w (cU g n c) (a::l))(d:w.heap[g]?=aP iK 3) :
  oz pb (bT w g (ah (iK.setIfInBounds 0 (zi (s:Int))) 3 (0,0))) (cU g n c) (s::l):=by
 refine⟨zs,?_⟩;rcases h.2 with⟨b,-⟩| ⟨q,cap,cur,b,i,f,j,k,m,o⟩
 .grind
 .simp only[a0S,Option.some.injEq,Addr.mk.injEq,and_true] at b;obtain⟨rfl,rfl,rfl⟩:=b;rw[d] at f;cases f;refine .inr ⟨g,c,_,J,i,qo J (bn d),j,k,by simp [m],?_⟩;have e:(iK.setIfInBounds 0 (zi (s:Int))).toList=iK.toList.set 0 (zi (s:Int)):=zs;have p:iK.toList.take ((s::l).length*1)=uO (a::l):=o;grind [List.take_set]
def aq2:∀ (n:Nat) (x:Ex),iH x<=n->∀ {iv vv:Y} {gx:List Y} {sb:List Nat} {w:Z} {k:Mk} {N:Nat} {v:Y},fM base mb vb iv vv gx sb cut w k->GK N k->N+iH x<=90000->P.VK k->ir k.vars.length x->eR (fun _=>True) w v x ->
  Calls baG 139 #[pp mb,v] w (aq1 base mb vb vv sb cut w (Aq x k))
 | 0,x,hn,_,_,_,_,_,_,_,_,_,_,_,_,_,_=>by cases x;simp [iH] at hn
 | n+1,.mk kind name nn kv args,hn,iv,vv,gx,sb,w,k,N,v,h,hk,hN,rV,dj,hx=>by
  have ih:=aq2 n;suffices H:∀ R:Ending->Z->Prop,(∀ en w',aq1 base mb vb vv sb cut w (Aq (.mk kind name nn kv args) k) en w'->R en w')->Calls baG 139 #[pp mb,v] w R from H _ zg;intro R i;have oX:=hx;unfold ir at dj;obtain⟨o1,o2,o3,o4,o5,o6,o7,o8⟩:=dj;unfold eR at hx;obtain⟨b,av,dk,rfl,hF,f,hs,lY⟩:=hx;have lb:=bn f;have Fb:=lY.Ft;obtain⟨aa,ac,rfl⟩:=hs.sl;have hc:=h.cell;have lc:=bn hc;obtain⟨kJ,j6⟩:=h.vars;have lv:=bn j6;simp only[iH] at hn hN;have dE:Ext w w.drew:=yF;refine aPI ?_;unfold Aq at i;by_cases G1:kind=118
  .have L:(kind:Int)=118:=zo;have zc:=o4 G1;obtain⟨t,ht⟩:=rV kv zc;rw[zip G1,List.getD_eq_getElem?_getD,ht] at i;have vX:(kv:Int)<(k.vars.length:Int):=zo;have pw:(kv:Int).toNat=kv:=zo;have jL:(k.vars.map tU).toArray[kv]?=O (zi ((t:Nat):Int)):=by grind [tU]
   have Lr:(k.vars.map tU).toArray.size=k.vars.length:=zs;obtain⟨a,hA⟩:=ck ((k.vars.map tU).toArray);rw[<- hA] at j6 jL Lr;rw[kJ] at hc;refine dL f @L hc (zA j6 (zA jL @pw)) ?_;exact i _ _ ⟨yF,J,iv,gx,[],yH,by rw[List.append_nil];exact h.ext dE⟩
  .have L:¬ (kind:Int)=118:=zo;rw[bO G1] at i;by_cases vG:kind=99
   .have e2:(kind:Int)=99:=zo;have e2b:¬ (kind:Int)≠99:=zo;rw[bO zo] at i;refine jt f @L @e2 ?_;have dC:Ext w (w.alloc (ah #[zi 0] 3)):=yF;refine⟨fun m z w'=>∃ j o BD BE q M ls v1,z 44=zi ((j:Nat):Int)/\z 6=v1/\j<=args.length/\m=args.length-j/\ls.length=j/\fM base mb vb BD vv BE (sb++q) cut w' o/\(∀ b∈q,w.heap.size<=b/\v1.ownBlock≠O b)/\iF base mb vb w w'/\oz w.heap.size w' v1 (0::ls) /\
      P.uT k args j ls o/\GK M o/\M+fL (args.drop j)<=N+fL args/\o.vars=k.vars/\∀ y∈ls,y<64,
     ⟨_,0,k,iv,gx,[],N,[],_,J,J,a0R _,J,J,by rw[List.append_nil];exact h.ext dC,yH,yF,oz.one 0,P.uT.zero k args,hk,a0D _,J,zg⟩,?_⟩
    intro m z d w3 hI;refine toPr ?_;obtain⟨j,o,BD,BE,q,M,ls,v1,Oc,Q,hj,rfl,GL,h3,UC,oB,S,mF,T,hNj,Da,agw⟩:=hI;obtain⟨ra,rc,rfl⟩:=ij S;have QV:=oB.size;have U:=fun b=>S.own (b:=b);by_cases r:j<args.length
    .have qG:j<dk.length:=zo;obtain⟨sb1,IX,e3,e4,e5,e6⟩:=hs.at' qG;obtain⟨u,e7,hu⟩:=eT.at' j r lY;rw[e7] at e6;simp only[a0S,true_and] at e3;obtain⟨rfl,rfl⟩:=e3;have j8:((j:Nat):Int).toNat=j:=zo;have Jg:=h.py oB e5 zd;have fE:((j:Nat):Int)<(dk.length:Int):=zo;refine dL Oc fE @Jg (zA @e6 @j8) ?_;have FK:ir o.vars.length args[j]:=by rw[Da];exact o8.at r
     have P0:=UB args j r;have agB:=YT args j;refine a0C (ih args[j] zo h3 T zo (by grind [P.VK]) FK (h.ex oB hu)) ?_;rintro e C ⟨l,c⟩;have Ls:=l.size;cases ht:Aq args[j] o with
     | none=>
      rw[ht] at c;rw[mF.none r ht] at i;have c:e=gW (.fault 4):=c;subst c;refine bF ?_;exact i _ _ ⟨yF,J⟩
     | some p=>
      obtain⟨s1,E⟩:=p;rw[ht] at c;obtain⟨he,Lt,Lu,nE,Od,D⟩:=c;subst he;obtain⟨g1,g2,g3⟩:=adB _ _ _ _ _ ht T FK;have F:=S.fr l lc lv;have aq3:=fun b=>F.own (b:=b);have aPV:=D.ins.lt;refine cM Q ?_;have W:∀ b∈sb++q++nE,(Value.slice ra (0::ls).length rc).ownBlock≠O b:=fun b f he=>by
       rcases a0P.1 f with f | f
       .rcases a0P.1 f with f | f
        .have:=(U b he).1;have:=h.ins.lt _ f;omega
        grind
       grind
      refine F.push zo zg fun v5 G QH I yd=>?_;refine cM Oc ?_;refine⟨_,?_,j+1,E,Lt,Lu,q++nE,M+iH args[j],ls++[s1],v5,zg,zg,zo,J,zg,?_,fun y X=>?_,iF.own yF I yH,QH,mF.step r ht,g1,zo,g2.trans Da,fun y X=>?_⟩
      .omega
      .rw[<- a1b];exact D.Hh I yH W zg
      .exact yH
      grind
    .have r:j=args.length:=zo;subst r;have fE:¬ (args.length:Int)<(dk.length:Int):=zo;rw[mF.done] at i;simp only at i;refine dB Oc fE ?_;refine a0C (Lp h3 T.slots) ?_;rintro e C ⟨l,c⟩;have Ls:=l.size;cases B:o.slot with
     | none=>
      rw[B] at c i;have c:e=gW (.fault 4):=c;subst c;exact i _ _ ⟨yF,J⟩
     | some p=>
      obtain⟨s1,E⟩:=p;rw[B] at c i;obtain⟨he,D⟩:e = ai (zi (s1:Nat))/\fM base mb vb BD vv BE (sb++q) cut C E:=c;subst he;obtain⟨q1,q2,q3,-⟩:=T.slot B;have F:=S.fr l lc lv;have aq3:=fun b=>F.own (b:=b);obtain⟨g,gc,gu,ge,gh,gt⟩:=Tl F (t:=0) zs;simp only[a0S,true_and] at ge;obtain⟨rfl,rfl⟩:=ge;have lg:=bn gh;have gsz:0<gu.size:=by
       grind
      have qQ:(0:Int)<(((0::ls).length:Nat):Int):=zg;obtain⟨G,ow⟩:=ck (bT C g (ah (gu.setIfInBounds 0 (zi (s1:Int))) 3 (0,0)));have UD:oz w.heap.size G (.slice (O ⟨g,0,V⟩) (0::ls).length rc) (s1::ls):=by grind [oz.aPU]
      have I:bD (fun b _=>O g=O b) C G:=yF;have W:∀ b∈sb++q,O g≠O b:=fun b f he=>by
       rcases a0P.1 f with f | f
       .have:=(U b he).1;have:=h.ins.lt _ f;omega
       .exact(UC b f).2 he
      have h5:=D.Hh I yH W (fun e=>by have:=(U _ e).1;omega);have qe:iF base mb vb w G:=iF.own yF I (fun b e=>(U b e).1);have TH:=h.py qe f zd;refine jt Q @gh @gsz ?_;rw[<- ow];refine dB Q TH ?_;rw[<- ow];obtain⟨bl,Hm,o9⟩:=UD.sin (fun h=>by cases h);refine a0C (Lq h5 (wd:=[109,97,107,101]) (nm:=name) (cv:=aj) (con:=V) (s:=s1::ls) J Hm (fun y X=>?_) (a0E q1.len zo)) ?_
      .have h1:=o9 y X;exact⟨fun hm=>W y hm h1,zg⟩
      rintro e w6 ⟨rfl,qf,tX,tY,Hn⟩;have aPW:=UD.fr qf lc lv;obtain⟨g',gc',gu',K,gh',gt'⟩:=Tl aPW (t:=0) zs;simp only[a0S,Option.some.injEq,Addr.mk.injEq,and_true,true_and] at K;obtain⟨rfl,-,rfl⟩:=K;have gt2:gu'[0]?=O (zi (s1:Int)):=zg;refine jt Q @gh' @gt2 ?_;refine i _ _ ⟨yF,J,tX,tY,q++bl,fun y X=>?_,zg⟩;exact yH
   .have e2:¬ (kind:Int)=99:=zo;rw[zip vG] at i;refine jt f @L @e2 ?_;refine a0C (Lp h hk.slots) ?_;rintro e C ⟨l,c⟩;have Ls:=l.size;cases B:k.slot with
    | none=>
     rw[B] at c i;have c:e=gW (.fault 4):=c;subst c;exact i _ _ ⟨l,J⟩
    | some p=>
     obtain⟨s1,E⟩:=p;rw[B] at c i;obtain⟨he,D⟩:e = ai (zi (s1:Nat))/\fM base mb vb iv vv gx sb cut C E:=c;subst he;obtain⟨q1,q2,q3,-⟩:=hk.slot B;refine bF ?_;refine a0C (aqX (h.ex l oX) zo) ?_;rintro en G ⟨rfl,u,rfl,hu⟩;have uN:u = aj\/∃ t y,u = ak t y:=by
      unfold Cv at hu;split at hu<;>exact .inr ⟨_,_,hu⟩
     rcases uN with rfl | ⟨ct,cy,rfl⟩;all_goals
      refine bF ?_;refine FJ D (wd:=[112,117,116]) (nm:=[]) (con:=O (Cv kind name nn)) (s:=[s1]) zs hu (a0E q1.len zo) zo ?_;rintro w6 qf ⟨tX,tY,Hn⟩;refine bF ?_;exact i _ _ ⟨yF,J,tX,tY,[_],yH,Hn⟩
end
def yr:List P.In->Nat
 | []=>0
 | i::r=>(if i.s=[] then 0 else 1)+yr r
def agC:∀ (a b:List P.In),yr (a++b)=yr a+yr b
 | [],b=>by simp [yr]
 | i::a,b=>by
  rw[List.cons_append,yr,yr,agC a b];omega
def qL.QW{w:Z}:∀ {l:List P.In} {vs:List Y} {sb:List Nat},qL w vs l sb->sb.length=yr l
 | [],_,_,⟨_,a⟩=>by subst a;rfl
 | i::r,vs,sb,⟨cv,sv,bl,rest,f,g,a,h,c,d⟩=>by
  rw[a,List.length_append,qL.QW d,yr];rcases c with⟨e,-,rfl⟩| ⟨b,cap,cs,rfl,e,-⟩<;>grind
theorem qL.land{w:Z}{i:P.In}{r:List P.In}{s2:List Nat}{g:Nat}(z:i.s≠[]):∀ {l:List P.In} {vs:List Y} {s1:List Nat},qL w vs (l++i::r) (s1++g::s2)->s1.length=yr l->(s1++g::s2).Nodup ->
  ∃ cap cs,vs[l.length*4+3]?=O (cU g i.s.length cap)/\w.heap[g]?=aP cs 3/\cs.size=cap/\i.s.length<=cap/\cs.toList.take i.s.length=uO i.s /\
   ∀ (w':Z) (cs':Array Y) (s':List Nat),(∀ b∈s1++g::s2,b≠g->∀ cs:Array Y,w.heap[b]?=aP cs 3->w'.heap[b]?=aP cs 3)->w'.heap[g]?=aP cs' 3->cs'.size=cap->s'.length=i.s.length->cs'.toList.take s'.length=uO s' ->
    qL w' vs (l++{ i with s:=s' }::r) (s1++g::s2)
 | [],vs,s1,h,c,m=>by
  have B:s1=[]:=List.length_eq_zero_iff.1 c;subst B;obtain⟨cv,sv,bl,rest,n,d,f,o,j,t⟩:=h;rcases j with⟨k,-,-⟩| ⟨b,cap,cs,rfl,k,rfl,C,D,E,F⟩
  .exact yH
  .have f:g::s2=b::n:=f;cases f;refine⟨cap,cs,zg,C,D,E,F,fun w' cs' s' hk p q u ht=>?_⟩;have L:g ∉ s2:=by
    grind
   refine⟨cv,_,[g],rest,s2,d,J,o,.inr ⟨g,cap,cs',J,fun e=>?_,zg,p,q,zg,ht⟩,(by grind [List.mem_cons_of_mem,bJ])⟩;grind
 | x::l,vs,s1,h,c,m=>by
  obtain⟨cv,sv,bl,rest,n,d,f,o,j,t⟩:=h;have key:∃ a,s1=bl++a/\n=a++g::s2/\a.length=yr l:=by
   rw[yr] at c;rcases j with⟨k,-,rfl⟩| ⟨b,cap,cs,rfl,k,-⟩
   .grind
   .rw[bO k] at c;cases s1 with
    | nil=>grind
    | cons y a=>
     grind
  obtain⟨a,rfl,rfl,G⟩:=key;rw[a1b] at m;have H:=List.nodup_append.1 m;obtain⟨cap,cs,q1,q2,q3,q4,I,K⟩:=qL.land z t G H.2.1;refine⟨cap,cs,?_,q2,q3,q4,I,fun w' cs' s' hk p q u ht=>?_⟩
  .rw[d,List.length_cons,show(l.length+1)*4+3=4+(l.length*4+3) from by omega];grind
  .refine⟨cv,sv,bl,rest,a++g::s2,d,a1b _ _ _,o,j.bJ fun b M cs hx=>?_,K w' cs' s' yH p q u ht⟩;exact yH
def FL(mb vb:Nat)(w:Z)(f:Y)(j:Nat)(sb:List Nat):Prop:=∃ xb a,f = .func (.func 160) #[] #[pp xb,pp a] /\
 w.heap[xb]?=aP #[pp mb] 245/\w.heap[a]?=aP #[zi (j:Int)] 3/\a≠vb/\a ∉ sb
section
variable{base mb vb ba:Nat}{iv vv v:Y}{gx:List Y}{sb l:List Nat}{cut:Int}{w w':Z}{k:Mk}
theorem FL.fr{f:Y}(c:FL mb vb w f j sb)(h:fM base mb vb iv vv gx sb cut w k)(d:iF base mb vb w w')(l:∀ b∈bl,w.heap.size<=b):FL mb vb w' f j (sb++bl):=by
 obtain⟨xb,g,rfl,m,a,i,n⟩:=c;refine⟨xb,g,J,(by grind [fM.py]),d.block _ _ a ?_,i,fun hm=>?_⟩
 .rintro (e | e | ⟨-,cs',e⟩)
  .rw[e,h.cell] at a;grind
  .omega
  grind
 grind
def FL.Hh{f:Y}(c:FL mb vb w f j sb)(m:g∈sb)(hx:∃ cs,w.heap[g]?=aP cs 3)(a:bD (fun b _=>O g=O b) w w'):FL mb vb w' f j sb:=by
 obtain⟨xb,d,rfl,h,i,k,l⟩:=c;refine⟨xb,d,J,a.block _ _ h (fun e=>?_),a.block _ _ i (fun e=>?_),k,l⟩<;>grind
def UE(h:fM base mb vb iv vv gx sb cut w k)(l:k.ins.length<=100000)(wd:Bs):Calls baG 138 #[pp mb,aW wd] w fun e w'=>iF base mb vb w w' /\
  ∃ b c g f,e = ai f/\w.heap.size<=g/\fM base mb vb b vv c (sb++[g]) cut w' (k.put wd [] V [0])/\FL mb vb w' f k.ins.length (sb++[g]):=by
 suffices H:∀ R:Ending->Z->Prop,(∀ e w',(iF base mb vb w w'/\∃ b c g f,e = ai f/\w.heap.size<=g/\fM base mb vb b vv c (sb++[g]) cut w' (k.put wd [] V [0])/\FL mb vb w' f k.ins.length (sb++[g]))->R e w') ->
  Calls baG 138 #[pp mb,aW wd] w R from H _ fun _ _ h=>h
 intro R m;have d:=h.cell;have lc:=bn d;have lv:=bn h.vars.2;obtain⟨x,pc,n⟩:=ij h.row;refine aPJ ?_;have i:=d;rw[n] at i;refine cM i ?_;obtain⟨a,o⟩:=ck (bT ((w.alloc (ah #[pp mb] 245)).alloc (ah #[zi 0] 3)) (w.heap.size+1) (ah #[zi (k.ins.length:Int)] 3));rw[<- o,size_alloc];have j:Ext w a:=yF;have p:a.heap.size=w.heap.size+1+1:=yH;have g1:a.heap[w.heap.size]?=aP #[pp mb] 245:=yH;have g2:a.heap[w.heap.size+1]?=aP #[zi (k.ins.length:Int)] 3:=yH;have q:=h.ext j;have r:FL mb vb a (.func (.func 160) #[] #[pp w.heap.size,pp (w.heap.size+1)]) k.ins.length sb:=⟨_,_,J,g1,g2,zo,fun hm=>by have:=h.ins.lt _ hm;omega⟩;rw[<- p];refine FJ q (wd:=wd) (nm:=[]) (cv:=aj) (con:=V) (s:=[0]) zs J l zo ?_;rintro y t ⟨b,c,u⟩;refine bF ?_;exact m _ _ ⟨(bD.ed j).trans t,b,c,a.heap.size,_,J,zo,u,(by grind [a0Y,FL.fr])⟩
def UF{f:Y}{l r:List P.In}{i:P.In}{s1 s2:List Nat}(h:fM base mb vb iv vv gx sb cut w k)(H:FL mb vb w f j sb)(I:k.ins=l++i::r)(hl:l.length=j)(z:i.s.length=1)(m:sb=s1++g::s2)(L:s1.length=yr l){K:Ending->Z->Prop}
  (M:∀ w',bD (fun b _=>O g=O b) w w'->(∃ cs,w.heap[g]?=aP cs 3)->fM base mb vb iv vv gx sb cut w' (k.land j)->K (ai (aq #[])) w') :
  ∃ x y,f = .func (.func 160) #[] #[x,y]/\Calls baG 160 #[x,y] w K:=by
 have N:i.s≠[]:=zg;have B:=h.ins;rw[I,m] at B;have a:=h.Jf;rw[m] at a;obtain⟨cap,cs,q1,q2,q3,q4,q5,Q⟩:=B.land N L a;obtain⟨xb,yb,rfl,g1,g2,g3,g4⟩:=H;refine⟨_,_,J,?_⟩;have C:=h.cell;have lg:=bn q2;obtain⟨pa,pc,zp⟩:=ij h.row;have lX:k.ins.length=l.length+1+r.length:=zg;have R:(j:Int)<(k.ins.length:Int):=zo;have S:(j:Int).toNat=j:=zo;have D:=h.row;rcases D.2 with⟨n,E⟩| ⟨U,o,cur,n,E,F,W,X,h6,h7⟩
 .omega
 have G:=C;rw[n] at G;have lib:=bn F;have nH:cur[j*4+3]?=O (cU g i.s.length cap):=by
  grind
 have Wd:0<cs.size:=zo;refine aPK ?_;refine dL @g1 @g2 G (zA F (zA R (zA @S (zA nH (zA z (zA @q2 Wd)))))) ?_;obtain⟨c,p⟩:=ck (bT w.drew g (ah (cs.setIfInBounds 0 (zi (k.ins.length:Int))) 3 (0,0)));rw[<- p];have d:bD (fun b _=>O g=O b) w c:=yF;have q:c.heap[g]?=aP (cs.setIfInBounds 0 (zi (k.ins.length:Int))) 3:=yH;have hb:∀ {b:Nat} {cs:Array Y} {T:Nat},T≠3->w.heap[b]?=aP cs T->c.heap[b]?=aP cs T:=yH;have Lh:g∈sb:=zg;have t:(k.land j).ins=l++{ i with s:=[k.ins.length] }::r:=by
  unfold Mk.land;simp only;have:=Xp (fun x:P.In=>{ x with s:=[k.ins.length] }) l (i::r) 0;grind
 have hlen:(k.land j).ins.length=k.ins.length:=zg;refine M c d yH ⟨hb zo C,h.lo,?_,?_,⟨h.vars.1,d.block _ _ h.vars.2 (fun e=>?_)⟩,h.Je,h.sep,h.Jf⟩
 .rw[hlen];exact⟨D.1,.inr ⟨U,o,cur,n,E,yH,W,X,h6,h7⟩⟩
 .rw[t,m];refine Q c _ [k.ins.length] yH q zg zg ?_;have e:(cs.setIfInBounds 0 (zi (k.ins.length:Int))).toList=cs.toList.set 0 (zi (k.ins.length:Int)):=zs;have u:cs.toList.take [k.ins.length].length=uO i.s:=zg;rw[e,List.take_set,u];obtain⟨x,hx⟩:=List.length_eq_one_iff.1 z;grind
 .injection e with e;exact h.sep g Lh e
end
open Go.Proofs.YtoegidfbnkaabaaGreatDoor.Sx
section
variable{p0 p1 p2 p3 p4 p5 p6 p7:Y}{w:Z}{R:Ending->Z->Prop}
def UH:=cz w R [p0,p1,p2] (gc [(3,[15,27]),(14,[73])] [] [28,45,60,61,66,67,74,82,83,110,111,157,158]) Tryz.func107
end
theorem aq9{α:Type}(f:α->α):∀ (a b:List α) (q:Nat),q<a.length->(a++b).modify q f=a.modify q f++b
 | [],b,q,h=>zg
 | x::a,b,0,h=>zs
 | x::a,b,q+1,h=>by
  rw[List.cons_append,a1Q,a1Q,aq9 f a b q zg];rfl
def P.ara(b:Bd)(c:Nat)(m:Mk):sT [b] c m=kZ b c m:=by
 unfold sT;cases kZ b c m with
 | none=>rfl
 | some m=>simp [sT]
def P.arb{m:Mk}{w:Bs}(a:j<m.ins.length):∃ X,((m.put w [] V [0]).land j).ins=X++[⟨w,[],V,[0]⟩]/\X.length=m.ins.length:=by
 grind [Mk.land,Mk.put,aq9]
section
variable{base mb vb:Nat}{cut:Int}
def fM.bd{k:Mk}(h:fM base mb vb iv vv gx fw cut w k)(a:iF base mb vb w w'){x:Bd}(hx:dM (fun _=>True) w v x):dM (fun _=>True) w' v x:=dM.mono zg (h.lx a) _ _ hx
abbrev UI(base mb vb:Nat)(cut:Int)(n:Nat):Prop:=∀ (x:Bd),iZ x<=n->∀ {iv vv:Y} {gx:List Y} {sb:List Nat} {w:Z} {k:Mk} {N M cs:Nat} {v:Y},fM base mb vb iv vv gx sb cut w k->GK N k->N+4*iZ x<=90000->P.VK k->eY k.vars.length M x->dM (fun _=>True) w v x->cs<64 ->
 Calls baG 107 #[pp mb,v,zi (cs:Nat)] w (uS base mb vb vv sb cut w (kZ x cs k))
theorem VK.of{k k':Mk}(h:P.VK k)(hv:k'.vars=k.vars):P.VK k':=by grind [P.VK]
def arc:∀ (l:List Bd) (j:Nat) (a:j<l.length),jD (l.drop j)=iZ l[j]+jD (l.drop (j+1))
 | x::l,0,_=>by simp [jD]
 | x::l,j+1,a=>by simpa using arc l j zg
def ard:∀ (l:List Bd) (j:Nat),jD (l.drop j)<=jD l
 | [],j=>zg
 | x::l,0=>zs
 | x::l,j+1=>by have:=ard l j;grind [jD]
def are:∀ (l:List Bd),l.length<=jD l
 | []=>zs
 | x::l=>by have:=are l;grind [ane,jD]
def arf(ih:UI base mb vb cut n){name:Bs}{args:List Ex}(T:iZ (.mk pb name args gI)<=n+1)(U:pb=33\/pb=44){k:Mk}{cs:Nat}
  (h:fM base mb vb iv vv gx fw cut w k) (hk:GK N k) (W:N+4*iZ (.mk pb name args gI)<=90000) (X:P.VK k) (B:eY k.vars.length M (.mk pb name args gI)) (hx:dM (fun _=>True) w v (.mk pb name args gI)) (C:cs<64) :
  Calls baG 107 #[pp mb,v,zi (cs:Nat)] w (uS base mb vb vv fw cut w (kZ (.mk pb name args gI) cs k)):=by
 suffices H:∀ R:Ending->Z->Prop,(∀ D w',uS base mb vb vv fw cut w (kZ (.mk pb name args gI) cs k) D w'->R D w')->Calls baG 107 #[pp mb,v,zi (cs:Nat)] w R from H _ fun _ _ h=>h;intro R c;unfold eY at B;obtain⟨o1,o2,o3,o4,o5,o6,o7,o8⟩:=B;unfold dM at hx;obtain⟨b,av,pv,vs,us,rfl,-,E,gD,CM,F,G⟩:=hx;have hc:=h.cell;have lv:=bn h.vars.2;have uL:=G.G6;obtain⟨pa,pc,rfl⟩:=F.sl;simp only[iZ] at T W;have jT:=are gI;refine UH ?_;unfold kZ at c;rcases U with rfl | rfl
 .rw[zip rfl] at c;refine cM E ?_;refine FJ h (wd:=kY) (nm:=[]) (cv:=aj) (con:=V) (s:=[cs]) zs J (a0E hk.len zo) lv ?_;rintro w3 hG ⟨tV,tW,h3⟩;refine bF ?_;exact c _ _ ⟨hG,J,tV,tW,[_],yH,h3⟩
 .rw[bO zd,zip rfl] at c;refine cM E ?_;refine⟨fun m z w'=>∃ j a p q g l,z 73=zi ((j:Nat):Int)/\j<=gI.length/\m=gI.length-j/\fM base mb vb p vv q (fw++g) cut w' a/\(∀ b∈g,w.heap.size<=b)/\iF base mb vb w w' /\
    sT gI cs k=sT (gI.drop j) cs a/\GK l a/\l+4*jD (gI.drop j)<=N+4*jD gI/\a.vars=k.vars,
   ⟨_,0,k,iv,gx,[],N,J,a0R _,J,zg,yH,yF,J,hk,a0D _,J⟩,?_⟩
  intro m z1 d1 w5 hI;refine toPr ?_;obtain⟨j,a,p,q,g,l,r,hj,rfl,I,UC,i,heq,K,hNj,t⟩:=hI;have sz5:=i.size;by_cases d:j<gI.length
  .have qG:j<us.length:=zo;obtain⟨sb1,IX,L,e4,e5,Q⟩:=F.at' qG;obtain⟨u,e7,hu⟩:=gF.CN j d G;rw[e7] at Q;simp only[a0S,true_and] at L;obtain⟨rfl,rfl⟩:=L;have j8:((j:Nat):Int).toNat=j:=zo;have Jg:=h.py i e5 zd;have x:((j:Nat):Int)<(us.length:Int):=zo;refine dL r x @Jg (zA @Q @j8) ?_;have P0:=arc gI j d;have agB:=ard gI j;have S:eY a.vars.length M gI[j]:=by rw[t];exact o8.at d
   refine a0C (ih gI[j] zo I K zo (VK.of X t) S (h.bd i hu) C) ?_;rintro e w6 ⟨qf,f⟩;have o:sT (gI.drop j) cs a=match kZ gI[j] cs a with
     | none=>V
     | some m=>sT (gI.drop (j+1)) cs m:=by
    rw[a0I d,sT];rfl
   cases ht:kZ gI[j] cs a with
   | none=>
    rw[ht] at f o;rw[heq,o] at c;have f:e=gW (.fault 4):=f;subst f;exact c _ _ ⟨yF,J⟩
   | some k6=>
    rw[ht] at f o;obtain⟨he,tX,tY,Db,YW,Hn⟩:=f;subst he;obtain⟨g1,g2⟩:=D0 _ _ _ _ _ ht K S C zo;refine cM r ?_;refine⟨_,?_,j+1,k6,tX,tY,g++Db,l+4*iZ gI[j],by simp [jk],zo,J,by rw[<- a1b];exact Hn,fun y hy=>?_,i.trans qf,heq.trans o,g1,zo,g2.trans t⟩<;>grind
  .have d:j=gI.length:=zo;subst d;have x:¬ (gI.length:Int)<(us.length:Int):=zo;rw[heq,a1s,sT] at c;refine dB r x ?_;exact c _ _ ⟨i,J,p,q,g,UC,I⟩
end
