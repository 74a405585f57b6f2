/- A part of one proof (KG1, KG2, KG3, KG4, KG5, KG6, KG7, KG8, ShX3b, KG9). -/
import Derived.Test.YtoegidfbnkaabaaGreatDoorPkIAZ
set_option linter.all false
set_option maxRecDepth 100000
set_option maxHeartbeats 8000000
open Option renaming some → O, none → V
open Go renaming Value → Y, World → Z
open Bool renaming true → A
open Go.Obj renaming cells → ae
open Go.Ending renaming returned → ah
open Go.Value renaming nilIface → ai, iface → aj, tuple → ak
open Go.Calls renaming mono → a1a
open Nat renaming le_refl → a1c, le_trans → a1d, zero_le → a1q
open List renaming drop_eq_getElem_cons → a1h, mem_append → a1o, mem_singleton → a1x, append_assoc → a1E, drop_length → a17, modify_succ_cons → a2s
open Go.Value.slice renaming injEq → a1r
open Option renaming map_eq_some_iff → a1C, none → a3O
open Go.Builtin renaming append_ → a1H
open Go.Proofs.Tryz renaming prog → bbu
namespace Go.Proofs.YtoegidfbnkaabaaGreatDoor
open P
open Go.RowKit Sx
variable{F:Nat->Prop}{M N b base c g i j k n pb:Nat}{X:Y->Z->Prop}{bl ft:List Nat}{cs iL:Array Y}{iv v vv:Y}{gz xs:List Y}{gI:List Bd}{Ab:Mk}{w' w0:Z}{wd:Bs}
def Tryz.aQd:(Tryz.prog.info? 198).map (fun i=>(i.zero,i.size,i.bytes))=O (O (.agg #[aT [],aT [],ai,bX]),4,72):=zk
def agY{w:Z}(c:w.ownsRow base 198 4 v n xs){m:Nat}{l:List Y}
  (d:w.heap[b]?=aN l.toArray 198) (q:l.length=4) (r:∀ u∈l,u.oneCell'=A)
  (s:n<=900000000) (f:base<=w.heap.size) {K:Y->Z->Prop}
  (h:∀ v' w',w'.ownsRow base 198 4 v' (n+1) (xs++l)->w.grownBy w' v.ownBlock->(v'.ownBlock=v.ownBlock\/∀ k,v'.ownBlock=O k->w.heap.size<=k)->K v' w') :
  WR bbu (a1H #[194,194] 194 #[v,cV b 1 m]) w K X:=by
 obtain⟨i,g,a⟩:=a1C.1 Tryz.aQd;simp only[Prod.mk.injEq] at a;obtain⟨j,o,p⟩:=a;exact Sx.DP (m:=1) (t:=194) (e:=198) zk g j o p J zo c d zo zg zo zo f h
def JX(w:Z)(v:Y)(s:List Nat)(bl:List Nat):Prop:=(s=[]/\v = bX/\bl=[])\/∃ b cap cs,bl=[b]/\s≠[]/\v = cV b s.length cap/\w.heap[b]?=aN cs 3/\cs.size=cap/\s.length<=cap/\cs.toList.take s.length=uY s
def rh(w:Z):List Y->List P.In->List Nat->Prop
 | vs,[],sb=>vs=[]/\sb=[]
 | vs,i::r,sb=>∃ cv sv bl rest a,vs=[.string (bs i.word),.string (bs i.name),cv,sv]++rest/\sb=bl++a/\yD cv i.const/\JX w sv i.s bl/\rh w rest r a
def ui:Option Nat->Y
 | none=>.int .i64 (-1)
 | some k=>.int .i64 (k:Int)
structure fL(base mb vb:Nat)(iv vv:Y)(gz:List Y)(sb:List Nat)(cut:Int)(w:Z)(k:Mk):Prop where
 cell:w.heap[mb]?=aN #[zi (k.slots:Nat),iv,vv,zi cut] 247
 lo:base<=mb
 row:w.ownsRow base 198 4 iv k.ins.length gz
 ins:rh w gz k.ins sb
 vars:vv = cV vb k.vars.length k.vars.length/\w.heap[vb]?=O (ae (k.vars.map ui).toArray 3 (0,0))
 JY:base<=vb
 sep:∀ b∈sb,b≠vb
 JZ:sb.Nodup
def GM(base mb vb:Nat)(b:Nat)(o:Obj):Prop:=b=mb\/b=vb\/(base<=b/\∃ cs,o = ae cs 198 (0,0))
abbrev iI(base mb vb:Nat)(w w':Z):Prop:=bB (GM base mb vb) w w'
theorem JX.bK{w:Z}{s:List Nat}(h:JX w v s bl)(hk:∀ b∈bl,∀ cs:Array Y,w.heap[b]?=aN cs 3->w'.heap[b]?=aN cs 3):JX w' v s bl:=by
 rcases h with h | ⟨b,cap,cs,rfl,a,c,d,e⟩
 .exact .inl h
 .exact .inr yH
theorem rh.bK{w w':Z}:∀ {l:List P.In} {vs:List Y} {sb:List Nat},rh w vs l sb->(∀ b∈sb,∀ cs:Array Y,w.heap[b]?=aN cs 3->w'.heap[b]?=aN cs 3)->rh w' vs l sb
 | [],vs,sb,h,_=>h
 | i::r,vs,sb,⟨cv,sv,bl,rest,a,c,d,e,g,f⟩,hk=>⟨cv,sv,bl,rest,a,c,d,e,(by grind [List.mem_append_left,JX.bK]),rh.bK f yH⟩
def rh.snoc{w:Z}{i:P.In}{l0:List Y}{b0:List Nat}:∀ {l:List P.In} {vs:List Y} {sb:List Nat},rh w vs l sb->rh w l0 [i] b0->rh w (vs++l0) (l++[i]) (sb++b0)
 | [],vs,sb,⟨b,c⟩,a=>zg
 | x::r,vs,sb,⟨cv,sv,bl,rest,d,b,c,e,f,g⟩,a=>⟨cv,sv,bl,rest++l0,d++b0,zg,zg,e,f,rh.snoc g a⟩
section
variable{base mb vb:Nat}{iv vv:Y}{gz:List Y}{sb:List Nat}{cut:Int}{w w':Z}{k:Mk}
def fL.own(h:fL base mb vb iv vv gz sb cut w k)(d:bB (fun b _=>b=mb) w w'){a:Int}(f:w'.heap[mb]?=aN #[zi (n:Nat),iv,vv,zi a] 247):fL base mb vb iv vv gz sb a w' { k with slots:=n }:=by
 have j:∀ {b:Nat} {cs:Array Y} {T:Nat},T≠247->w.heap[b]?=aN cs T->w'.heap[b]?=aN cs T:=fun{b cs T} l c=>d.block b _ c fun e=>by
  rw[e,h.cell] at c;grind
 refine⟨f,h.lo,⟨h.row.1,?_⟩,h.ins.bK yH,(by grind [vars]),h.JY,h.sep,h.JZ⟩
 .rcases h.row.2 with m | ⟨b,cap,cur,rfl,g,o,i⟩
  .exact yH
  .exact .inr ⟨b,cap,cur,J,g,yH,i⟩
def Mr(h:fL base mb vb iv vv gz sb cut w k)(r:k.slots<=64):Calls bbu 104 #[pp mb] w fun e w'=>iI base mb vb w w'/\match k.slot with
  | none=>e=ig (.fault 4)
  | some (s,k')=>e = ah (.int .i64 (s:Nat))/\fL base mb vb iv vv gz sb cut w' k':=by
 have f:=h.cell;have lc:=bh f;refine aP8 ?_;obtain⟨w1,j⟩:=cg (bS w mb (ae #[zi ((k.slots+1:Nat):Int),iv,vv,zi cut] 247));have g:bB (fun b _=>b=mb) w w1:=yF;have a:w1.heap[mb]?=aN #[zi ((k.slots+1:Nat):Int),iv,vv,zi cut] 247:=yH;have t:=h.own g (n:=k.slots+1) a;have l:iI base mb vb w w1:=g.mono fun b o _ e=>.inl e;have m:=bh a;have p:(k.slots:Int)+1=((k.slots+1:Nat):Int):=zo;have q:bS w mb (ae (pD #[zi (k.slots:Nat),iv,vv,zi cut] 0 (Value.int .i64 ((k.slots:Int)+1)).cells.toList) 247 (0,0))=w1:=by rw[j,<- p];rfl
 refine cO f ?_;rw[q];unfold Mk.slot;by_cases i:64<k.slots+1
 .rw[zip i];have c:((k.slots+1:Nat):Int) > 64:=zo;refine⟨fun _ _=>False,?_,by rintro _ _ h;exact h.elim⟩;refine dF a c ?_;exact⟨l,J⟩
 .rw[bI i];have c:¬ ((k.slots+1:Nat):Int) > 64:=zo;refine⟨fun _ w'=>w'=w1,?_,?_⟩
  .exact mn a c
  .rintro s w2 rfl d;refine cO a ?_;exact yF
def Ms(h:fL base mb vb iv vv gz sb cut w k){nm:Bs}{cv sv:Y}{con:Option Tm}{s:List Nat}(m:yD cv con)(L:JX w sv s bl)(hd:∀ b∈bl,b ∉ sb/\b≠vb)(hn:k.ins.length<=100000) :
  Calls bbu 105 #[pp mb,aT wd,aT nm,cv,sv] w fun e w'=>e = ah (ak #[])/\iI base mb vb w w'/\∃ S U,fL base mb vb S vv U (sb++bl) cut w' (k.put wd nm con s):=by
 have y:=h.cell;have lc:=bh y;have oG:=h.lo;obtain⟨pa,pc,z⟩:=il h.row;have M:cv = ai\/∃ t u,cv = aj t u:=by
  cases con with
  | none=>exact .inl m
  | some t=>
   cases t with
   | atom s=>exact .inr ⟨_,_,m⟩
   | int s=>exact .inr ⟨_,_,m⟩
   | var i=>exact m.elim
   | comp s l=>exact m.elim
 obtain⟨sa,sn,sc,B⟩:∃ a n c,sv = .slice a n c:=by
  rcases L with⟨-,d,-⟩| ⟨b,cap,cs,-,-,d,-⟩<;>exact zg
 have LY:cv.oneCell'=true:=by rcases M with rfl | ⟨_,_,rfl⟩<;>rfl
 refine aP7 ?_;have N:=y;rw[z] at N;obtain⟨l0,C⟩:∃ l0:List Y,l0=[aT wd,aT nm,cv,sv]:=⟨_,J⟩;obtain⟨w1,D⟩:=cg (w.alloc (ae l0.toArray 198 (0,0)));have p:Ext w w1:=yF;have s1:w1.heap.size=w.heap.size+1:=yH;have g1:w1.heap[w.heap.size]?=aN l0.toArray 198:=yH;rw[C] at D;have main:∀ {K:Y->Z->Prop} {X:Y->Z->Prop},(∀ v' w3,w3.ownsRow base 198 4 v' (k.ins.length+1) (gz++l0)->w1.grownBy w3 iv.ownBlock->(v'.ownBlock=iv.ownBlock\/∀ j,v'.ownBlock=O j->w1.heap.size<=j)->K v' w3) ->
   WR bbu (a1H #[194,194] 194 #[iv,cV w.heap.size 1 1]) w1 K X:=fun W=>
  agY (jY p.ext h.row) g1 zg (by
   rw[C];intro u hu;simp only[List.mem_cons,List.not_mem_nil,or_false] at hu;rcases hu with rfl | rfl | rfl | rfl
   .rfl
   .rfl
   .omega
   .rw[B];rfl) zo zo W
 rcases M with rfl | ⟨ct,cu,rfl⟩;all_goals
  rw[B] at D;refine dF N B ?_;rw[<- D,<- z];refine main fun v' w3 E q hv=>?_;obtain⟨P,pc',Ej⟩:=il E;subst Ej;have Q:∀ {b:Nat} {cs:Array Y} {T:Nat},T≠198->w.heap[b]?=aN cs T->w3.heap[b]?=aN cs T:=fun{b cs T} hT f=>by
   have r:=p.ext _ _ f;rw[q.block b (bh r) (fun he=>?_)]
   .exact r
   .rcases h.row.2 with⟨d,-⟩| ⟨b',cap,cur,d,F,g,H⟩
    .rw[d] at he;cases he
    .rw[d] at he;cases he;rw[f] at g;injection g with g;injection g with _ g _;exact hT g
  have c3:=Q zd y;have l3:=bh c3;have x:=c3;rw[z] at x;refine cO @x ?_;obtain⟨R,I⟩:=cg (bS w3 mb (ae #[zi (k.slots:Nat),.slice P (k.ins.length+1) pc',vv,zi cut] 247));rw[<- I];have yX:∀ {b:Nat} {cs:Array Y} {T:Nat},T≠247->w3.heap[b]?=aN cs T->R.heap[b]?=aN cs T:=yH;have Mi:=q.size;refine⟨?_,.slice P (k.ins.length+1) pc',gz++l0,?_⟩
  .rw[I];refine⟨q.os.trans p.os,q.tape.trans p.tape,q.output.trans p.output,by rw[vp];omega,fun b o f hm=>?_⟩;have r:=p.ext _ _ f;rw[jr (fun e=>hm (.inl e)),q.block b (bh r) (fun he=>?_)]
   .exact r
   .rcases h.row.2 with⟨d,-⟩| ⟨b',cap,cur,d,F,g,H⟩
    .rw[d] at he;cases he
    .rw[d] at he;cases he;rw[f] at g;exact hm (.inr zg)
  .refine⟨by rw[I];exact qJ J l3,h.lo,?_,?_,?_,h.JY,fun b f=>?_,?_⟩
   .show R.ownsRow base 198 4 _ (k.ins++[_]).length _;rw[List.length_append,List.length_singleton];refine⟨E.1,?_⟩;rcases E.2 with d | ⟨b,cap,cur,d,F,g,H⟩
    .exact yH
    .exact .inr ⟨b,cap,cur,d,F,yH,H⟩
   .refine rh.snoc (h.ins.bK yH) ⟨_,sv,bl,[],[],by rw[C];rfl,zg,m,(by grind [JX.bK]),J,J⟩
   .exact⟨h.vars.1,yX zd (Q zd h.vars.2)⟩
   .rcases a1o.1 f with f | f
    .exact h.sep b f
    .exact zg
   .rw[List.nodup_append];refine⟨h.JZ,?_,zg⟩;rcases L with⟨-,-,rfl⟩| ⟨b,cap,cs,rfl,-⟩<;>simp
end
def Tryz.aQg:(Tryz.prog.info? 3).map (fun i=>(i.zero,i.size,i.bytes))=O (O (zi 0),1,8):=zk
def ark{w:Z}(d:w.ownsRow base 3 1 v n xs){m:Nat}{a:Y}
  (f:w.heap[b]?=aN #[a] 3) (q:a.oneCell'=A)
  (r:n<=100000000) (g:base<=w.heap.size) {K:Y->Z->Prop}
  (h:∀ v' w',w'.ownsRow base 3 1 v' (n+1) (xs++[a])->w.grownBy w' v.ownBlock->(v'.ownBlock=v.ownBlock\/∀ k,v'.ownBlock=O k->w.heap.size<=k)->K v' w') :
  WR bbu (a1H #[45,45] 45 #[v,cV b 1 m]) w K X:=by
 obtain⟨i,j,c⟩:=a1C.1 Tryz.aQg;simp only[Prod.mk.injEq] at c;obtain⟨l,o,p⟩:=c;refine Sx.DP (m:=1) (t:=45) (e:=3) zk j l o p J zo d f J (fun u hu=>?_) zo zo g h;grind
def arl{w:Z}{name:Bs}{n:Int}{args:List Ex}(h:eL F w v (.mk pb name n k args))(hk:pb<256) :
  Calls bbu 137 #[v] w fun e w'=>w'=w/\∃ u,e = ah u/\yD u (O (CX pb name n)):=by
 unfold eL at h;obtain⟨b,av,dw,rfl,f,c,g,hx⟩:=h;refine aP9 ?_;by_cases d:pb=110
 .have a:(pb:Int)=110:=zo;refine dF c @a ?_;refine⟨_,J,?_⟩;unfold CX;rw[zip d];rfl
 .have a:¬ (pb:Int)=110:=zo;refine dF c @a ?_;refine⟨_,J,?_⟩;unfold CX;rw[bI d];rfl
def vg(base mb vb:Nat)(vv:Y)(sb:List Nat)(cut:Int)(w:Z)(r:Option Mk)(e:Ending)(w':Z):Prop:=
 iI base mb vb w w'/\match r with
  | none=>e=ig (.fault 4)
  | some k'=>e = ah (ak #[])/\∃ a c bl,(∀ b∈bl,w.heap.size<=b)/\fL base mb vb a vv c (sb++bl) cut w' k'
section
variable{base mb vb:Nat}{iv vv:Y}{gz:List Y}{sb:List Nat}{cut:Int}{w w':Z}{k:Mk}
theorem rh.lt{w:Z}:∀ {l:List P.In} {vs:List Y} {sb:List Nat},rh w vs l sb->∀ b∈sb,b<w.heap.size
 | [],_,_,⟨_,c⟩,b,a=>yH
 | i::r,vs,sb,⟨cv,sv,bl,rest,f,g,c,h,d,e⟩,b,a=>by
  rw[c] at a;rcases a1o.1 a with a | a
  .rcases d with⟨-,-,rfl⟩| ⟨j,cap,cs,rfl,-,-,k,-⟩<;>grind
  .exact rh.lt e b a
theorem fL.ext(h:fL base mb vb iv vv gz sb cut w k)(a:Ext w w'):fL base mb vb iv vv gz sb cut w' k:=
 ⟨a.ext _ _ h.cell,h.lo,jY a.ext h.row,h.ins.bK (by grind [bB.ext]),(by grind [vars,bB.ext]),h.JY,h.sep,h.JZ⟩
def Gf(h:fL base mb vb iv vv gz sb cut w k){nm:Bs}{cv:Y}{con:Option Tm}{s:List Nat}(d:s≠[])(f:yD cv con)(g:k.ins.length<=100000)(q:vb<w.heap.size){K:Ending->Z->Prop}
  (i:∀ w',iI base mb vb w w'->(∃ j l,fL base mb vb j vv l (sb++[w.heap.size]) cut w' (k.put wd nm con s))->K (ah (ak #[])) w') :
  Calls bbu 105 #[pp mb,aT wd,aT nm,cv,cV w.heap.size s.length s.length] (w.alloc (ae (uY s).toArray 3 (0,0))) K:=by
 have a:Ext w (w.alloc (ae (uY s).toArray 3 (0,0))):=yF;have m:(uY s).length=s.length:=zs;have n:(w.alloc (ae (uY s).toArray 3 (0,0))).heap[w.heap.size]?=O (ae (uY s).toArray 3 (0,0)):=yH;refine a1a (Ms (h.ext a) (bl:=[w.heap.size]) f (.inr ⟨w.heap.size,s.length,_,J,d,J,n,zs,a1c _,by rw[<- m];exact List.take_length⟩) (fun b c=>?_) g) ?_
 .rw[a1x] at c;subst c;exact⟨fun hm=>by have:=h.ins.lt _ hm;omega,zo⟩
 .rintro e w' ⟨rfl,o,p⟩;exact i w' ((bB.mono a fun _ _ _ h=>h.elim).trans o) p
def fL.arn(h:fL base mb vb iv vv gz sb cut w k){s:Nat}(e:j<k.vars.length)(a:vb<w.heap.size):fL base mb vb iv vv gz sb cut (bS w vb (ae ((k.vars.map ui).toArray.setIfInBounds j (zi (s:Nat))) 3 (0,0))) { k with vars:=k.vars.set j (O s) } /\
  iI base mb vb w (bS w vb (ae ((k.vars.map ui).toArray.setIfInBounds j (zi (s:Nat))) 3 (0,0))):=by
 obtain⟨f,g⟩:=h.vars;have hk:∀ {b:Nat} {cs:Array Y} {T:Nat},(T≠3\/b≠vb)->w.heap[b]?=aN cs T->(bS w vb (ae ((k.vars.map ui).toArray.setIfInBounds j (zi (s:Nat))) 3 (0,0))).heap[b]?=aN cs T:=yH;refine⟨⟨(by grind [cell]),h.lo,⟨h.row.1,?_⟩,h.ins.bK (by grind [sep]),.intro ?_ ?_,h.JY,h.sep,h.JZ⟩,(bB.refl _ _).bS (.inl fun _=>.inr (.inl J))⟩
 .rcases h.row.2 with i | ⟨b,cap,cur,rfl,c,l,d⟩
  .exact yH
  .exact .inr ⟨b,cap,cur,J,c,yH,d⟩
 .grind
 .rw[qJ J a];grind [List.map_set,ui]
theorem fL.lG(h:fL base mb vb iv vv gz sb cut w k)(d:iI base mb vb w w'):∀ (b:Nat) (o:Obj),True->DR o->w.heap[b]?=O o->w'.heap[b]?=O o:=fun b o _ c a=>by
 cases o with
 | cells cs t z=>
  obtain⟨ht,rfl⟩:=c;refine d.block _ _ a ?_;rintro (e | e | ⟨-,cs',e⟩)
  .rw[e,h.cell] at a;grind
  .rw[e,h.vars.2] at a;grind
  grind
 | _=>exact c.elim
def fL.ex(h:fL base mb vb iv vv gz sb cut w k)(a:iI base mb vb w w'){x:Ex}(hx:eL (fun _=>True) w v x):eL (fun _=>True) w' v x:=eL.mono zg (h.lG a) _ _ hx
end
section
variable{base mb vb:Nat}{iv vv:Y}{gz:List Y}{sb:List Nat}{cut:Int}{w w':Z}{k:Mk}
def aQh(h:fL base mb vb iv vv gz sb cut w k){x:Ex}{name:Bs}{n:Int}{kv:Nat}{args:List Ex}(M:x = .mk pb name n kv args)(N:pb≠99)(C:gR k.vars.length x)(hx:eL (fun _=>True) w v x){s:Nat}(D:k.ins.length<=100000) :
  Calls bbu 106 #[pp mb,v,zi (s:Nat)] w (vg base mb vb vv sb cut w (zC x s k)):=by
 suffices H:∀ R:Ending->Z->Prop,(∀ m w',vg base mb vb vv sb cut w (zC x s k) m w'->R m w')->Calls bbu 106 #[pp mb,v,zi (s:Nat)] w R from H _ fun _ _ h=>h;intro R c;subst M;have P:=hx;unfold gR at C;obtain⟨o1,o2,o3,o4,o5,o6,o7,o8⟩:=C;unfold eL at hx;obtain⟨b,av,dw,rfl,hF,e,hs,lJ⟩:=hx;have lb:=bh e;have f:=h.cell;have lc:=bh f;obtain⟨Q,g⟩:=h.vars;have lv:=bh g;have i:Ext w w.drew.drew:=yF;refine arh ?_;by_cases o:pb=118
 .have l:(pb:Int)=118:=zo;have S:=o4 o;have wK:(kv:Int)<(k.vars.length:Int):=zo;have p:(kv:Int).toNat=kv:=zo;have d:(k.vars.map ui).toArray[kv]?=O (ui k.vars[kv]):=zg;have T:(k.vars.map ui).toArray.size=k.vars.length:=zs;have E:=fun s=>h.ext i |>.arn (s:=s) S (by rw[Ck,Ck];exact lv);obtain⟨a,F⟩:=cg ((k.vars.map ui).toArray);rw[<- F] at g d T;rw[<- F] at E;unfold zC at c;rw[zip o] at c;have U:k.vars.getD kv V=k.vars[kv]:=zg;rw[U] at c;rw[Q] at f;cases I:k.vars[kv] with
  | none=>
   rw[I] at c d;have d:a[kv]?=O (zi (-1)):=d;refine dM e @l f (zA g (zA d @p)) ?_;obtain⟨r1,r2⟩:=E s;exact c _ _ ⟨yF,J,iv,gz,[],yH,zg⟩
  | some j=>
   rw[I] at c d;have d:a[kv]?=O (zi (j:Int)):=d;refine dM e @l f (zA g (zA d @p)) ?_;refine⟨fun w'=>Ext w w',i,?_⟩;rw[jI];refine cS (pq mb 2) (fun w' K=>eV) ?_;refine cS (cV vb k.vars.length k.vars.length) (fun w' K=>by have L:=K.ext _ _ f;have:=bh L;exact fm L) ?_;refine dM e g d @p ?_;refine⟨i.alloc _,?_⟩;refine Gf (h.ext i) (wd:=[115,97,109,101]) (nm:=[]) (cv:=ai) (con:=V) (s:=[s,j]) zs J D (yH) ?_;rintro w3 q ⟨r,z,B⟩;refine bG ?_;exact c _ _ ⟨(bB.mono i fun _ _ _ h=>h.elim).trans q,J,r,z,[w.heap.size],yH,B⟩
 .have l:¬ (pb:Int)=118:=zo;have W:¬ (pb:Int)=99:=zo;unfold zC at c;rw[bI o,bI N] at c;refine jk e @l @W ?_;refine a1a (arl P zo) ?_;rintro m w1 ⟨rfl,u,rfl,hu⟩;have X:u = ai\/∃ t y,u = aj t y:=by
   unfold CX at hu;split at hu<;>exact .inr ⟨_,_,hu⟩
  rcases X with rfl | ⟨ct,cy,rfl⟩;all_goals
   refine bG ?_;refine Gf h (wd:=[99,111,110,115,116]) (nm:=[]) (con:=O (CX pb name n)) (s:=[s]) zs hu D lv ?_;rintro w3 q ⟨r,z,B⟩;refine bG ?_;exact c _ _ ⟨q,J,r,z,[_],yH,B⟩
end
abbrev oR(base:Nat)(w:Z)(v:Y)(l:List Nat):Prop:=w.ownsRow base 3 1 v l.length (uY l)
section
variable{base mb vb ba:Nat}{iv vv v:Y}{gz:List Y}{sb l:List Nat}{cut:Int}{w w':Z}{k:Mk}
def oR.one(s:Nat):oR w.heap.size (w.alloc (ae #[zi (s:Int)] 3)) (cV w.heap.size 1 1) [s]:=
 ⟨J,.inr ⟨w.heap.size,1,_,J,a1c _,rR J,a1c _,zd,J,J⟩⟩
theorem oR.nil:oR ba w bX []:=⟨J,yH⟩
theorem oR.bK(h:oR ba w v l)(hk:∀ (g:Nat) (cs:Array Y),ba<=g->w.heap[g]?=aN cs 3->w'.heap[g]?=aN cs 3):oR ba w' v l:=by
 refine⟨h.1,?_⟩;rcases h.2 with a | ⟨g,cap,cur,a,b,d,c⟩
 .exact yH
 .exact .inr ⟨g,cap,cur,a,b,yH,c⟩
theorem oR.fr(h:oR ba w v l)(a:iI base mb vb w w')(hm:mb<ba)(hv:vb<ba):oR ba w' v l:=h.bK fun g cs c b=>a.block _ _ b (by
 rintro (e | e | ⟨-,cs',e⟩)<;>grind)
def oR.own(h:oR ba w v l)(a:v.ownBlock=O b):ba<=b/\b<w.heap.size/\∃ cs,w.heap[b]?=aN cs 3:=by
 rcases h.2 with⟨c,-⟩| ⟨g,cap,cur,c,d,e,f⟩
 .rw[c] at a;cases a
 .rw[c] at a;injection a with a;exact yH
def oR.sin(h:oR ba w v l)(c:l=[]->v = bX):∃ bl,JX w v l bl/\∀ b∈bl,v.ownBlock=O b:=by
 by_cases d:l=[]
 .exact⟨[],.inl zg,zg⟩
 .rcases h.2 with⟨rfl,e⟩| ⟨g,cap,cur,rfl,f,i,j,k,m,n⟩
  .grind
  .exact⟨[g],.inr yH,fun b a=>by rw[a1x] at a;subst a;rfl⟩
def oR.push(h:oR ba w v l)(f:ba<=w.heap.size)(k:l.length<=1000){s:Nat}{K:Y->Z->Prop}
  (g:∀ v' w',oR ba w' v' (l++[s])->bB (fun b _=>v.ownBlock=O b) w w'->(v'.ownBlock=v.ownBlock\/∀ j,v'.ownBlock=O j->w.heap.size<=j)->K v' w') :
  WR bbu (a1H #[45,45] 45 #[v,cV w.heap.size 1 1]) (w.alloc (ae #[zi (s:Int)] 3)) K X:=by
 have a:Ext w (w.alloc (ae #[zi (s:Int)] 3)):=yF;refine ark (base:=ba) (jY a.ext h) (rR J) J zo (by rw[size_alloc];omega) fun v' w' m c hv=>g v' w' ?_ ?_ ?_
 .grind
 .have:=c.size;have s1:=a.size;refine⟨c.os.trans a.os,c.tape.trans a.tape,c.output.trans a.output,zo,fun b o i hm=>?_⟩;have d:=a.ext _ _ i;rw[c.block b (bh d) (fun e=>hm e.symm)];exact d
 exact yH
def fL.Ih(h:fL base mb vb iv vv gz sb cut w k){x:Option Nat}(d:bB (fun b _=>x=O b) w w')(hx:∀ b,x=O b->∃ cs,w.heap[b]?=aN cs 3)(e:∀ b∈sb,x≠O b)(hv:x≠O vb):fL base mb vb iv vv gz sb cut w' k:=by
 have f:∀ {b:Nat} {cs:Array Y} {T:Nat},T≠3->w.heap[b]?=aN cs T->w'.heap[b]?=aN cs T:=(by grind [bB.block]);refine⟨(by grind [cell]),h.lo,⟨h.row.1,?_⟩,h.ins.bK (by grind [bB.block]),(by grind [vars,bB.block]),h.JY,h.sep,h.JZ⟩;rcases h.row.2 with g | ⟨b,cap,cur,rfl,a,i,c⟩
 .exact yH
 .exact .inr ⟨b,cap,cur,J,a,yH,c⟩
def iI.own{x:Option Nat}(h:iI base mb vb w0 w)(a:bB (fun b _=>x=O b) w w')(hx:∀ b,x=O b->w0.heap.size<=b):iI base mb vb w0 w':=
 ⟨a.os.trans h.os,a.tape.trans h.tape,a.output.trans h.output,a1d h.size a.size,(by grind [bh,bB.block])⟩
theorem fL.pV(h:fL base mb vb iv vv gz sb cut w k)(c:iI base mb vb w w'){T:Nat}(a:w.heap[b]?=aN cs T)(d:T≠247/\T≠3/\T≠198):w'.heap[b]?=aN cs T:=c.block _ _ a (by
 rintro (e | e | ⟨-,cs',e⟩)
 .rw[e,h.cell] at a;grind
 .rw[e,h.vars.2] at a;grind
 grind)
theorem bB.eo{M:Nat->Obj->Prop}(h:Ext w w'):bB M w w':=yF
end
def P.Dz(k:Mk)(i:Nat)(ls:List Nat)(a:Mk):Prop:=∀ q,k.tj (i+q)=match a.tj q with
 | none=>V
 | some (l',k')=>O (ls++l',k')
def P.Dz.zero(k:Mk):P.Dz k 0 [] k:=fun q=>by
 grind
theorem P.Dz.step{k a:Mk}{s:Nat}(h:P.Dz k i ft Ab)(b:Ab.slot=O (s,a)):P.Dz k (i+1) (ft++[s]) a:=fun q=>by
 have:=h (q+1);rw[Nat.add_assoc,Nat.add_comm 1 q,this];have e:Ab.tj (q+1)=match Ab.slot with
  | none=>V
  | some (s,m)=>match m.tj q with
   | none=>V
   | some (l,m)=>O (s::l,m):=rfl
 grind
theorem P.Dz.none{k a:Mk}{i n:Nat}{ls:List Nat}(h:P.Dz k i ls a)(c:a.slot=a3O)(d:i<n):k.tj n=a3O:=by
 have:=h (n-i-1+1);have b:i+(n-i-1+1)=n:=zo;rw[b] at this;rw[this];have e:a.tj (n-i-1+1)=match a.slot with
  | a3O=>a3O
  | some (s,m)=>match m.tj (n-i-1) with
   | a3O=>a3O
   | some (l,m)=>O (s::l,m):=rfl
 grind
def P.Dz.done{k:Mk}(h:P.Dz k i ft Ab):k.tj i=O (ft,Ab):=by
 have:=h 0;rw[Nat.add_zero] at this;grind [Mk.tj]
def Va:∀ (l:List Ex) (j:Nat) (a:j<l.length),fB (l.drop j)=gy l[j]+fB (l.drop (j+1))
 | x::l,0,_=>by simp [fB]
 | x::l,j+1,a=>by simpa using Va l j zg
def Zt:∀ (l:List Ex) (j:Nat),fB (l.drop j)<=fB l
 | [],j=>zg
 | x::l,0=>zs
 | x::l,j+1=>by have:=Zt l j;grind [fB]
section
variable{base mb vb:Nat}{cut:Int}
def aro:∀ (n:Nat) (x:Ex),gy x<=n->∀ {iv vv:Y} {gz:List Y} {sb:List Nat} {w:Z} {k:Mk} {N s:Nat} {v:Y},fL base mb vb iv vv gz sb cut w k->GK N k->N+gy x<=90000->gR k.vars.length x->eL (fun _=>True) w v x->s<64 ->
  Calls bbu 106 #[pp mb,v,zi (s:Nat)] w (vg base mb vb vv sb cut w (zC x s k))
 | 0,x,hn,_,_,_,_,_,_,_,_,_,_,_,_,_,_,_=>by cases x;simp [gy] at hn
 | n+1,.mk kind name nn kv args,hn,iv,vv,gz,sb,w,k,N,s,v,h,hk,hN,dj,hx,aY3=>by
  have ih:=aro n;by_cases Zs:kind=99
  .suffices H:∀ R:Ending->Z->Prop,(∀ C w',vg base mb vb vv sb cut w (zC (.mk kind name nn kv args) s k) C w'->R C w')->Calls bbu 106 #[pp mb,v,zi (s:Nat)] w R from H _ fun _ _ h=>h;intro R c;have pF:=hx;unfold gR at dj;obtain⟨o1,o2,o3,o4,o5,o6,o7,o8⟩:=dj;unfold eL at hx;obtain⟨b,av,dw,rfl,hF,q,hs,lJ⟩:=hx;have lb:=bh q;have Hf:=lJ.FV;obtain⟨aa,ac,rfl⟩:=hs.sl;have hc:=h.cell;have lc:=bh hc;obtain⟨kS,kl⟩:=h.vars;have lv:=bh kl;simp only[gy] at hn hN;have e1:(kind:Int)=99:=zo;unfold zC at c;rw[bI zo,zip Zs] at c;refine arh ?_;refine dF q @e1 ?_;have dE:Ext w (w.alloc (ae #[zi (s:Int)] 3)):=yF;refine⟨fun m z w'=>∃ i ls l v1,z 65=zi ((i:Nat):Int)/\z 6=v1/\i<=args.length/\m=args.length-i/\ls.length=i/\P.Dz k i ls l/\fL base mb vb iv vv gz sb cut w' l/\iI base mb vb w w'/\oR w.heap.size w' v1 (s::ls)/\GK N l/\l.vars=k.vars/\∀ y∈ls,y<64,
    ⟨_,0,[],k,_,J,J,a1q _,J,J,P.Dz.zero k,h.ext dE,yF,oR.one s,hk,J,zg⟩,?_⟩
   intro m z d w3 hI;refine toPr ?_;obtain⟨i,ls,l,v1,o,M,hi,rfl,Hk,jd,h1,Q,D,S,Qz,ag1⟩:=hI;have h6':=M;obtain⟨ra,rc,rfl⟩:=il D;have Ry:=Q.size;by_cases hlt:i<args.length
   .have qY:((i:Nat):Int)<(dw.length:Int):=zo;refine dF o qY ?_;refine a1a (Mr h1 S.slots) ?_;rintro e w4 ⟨r,a⟩;cases E:l.slot with
    | none=>
     rw[E] at a;rw[jd.none E hlt] at c;have a:e=ig (.fault 4):=a;subst a;exact c _ _ ⟨yF,J⟩
    | some p=>
     obtain⟨s1,k2⟩:=p;rw[E] at a;obtain⟨he,h2⟩:e = ah (zi (s1:Nat))/\fL base mb vb iv vv gz sb cut w4 k2:=a;subst he;obtain⟨q1,q2,q3,-⟩:=S.slot E;refine cO M ?_;have T:=D.fr r lc lv;have Mu:=r.size;refine T.push zo zg fun v5 w5 Rm jc yu=>?_;have B:=fun b=>T.own (b:=b);have xV:∀ b∈sb,(Value.slice ra (s::ls).length rc).ownBlock≠O b:=fun b q he=>by
      have:=(B b he).1;have:=h.ins.lt _ q;omega
     refine cO o ?_;refine⟨_,?_,i+1,ls++[s1],k2,v5,by simp [jv],by simp [jv],zo,J,by simp;omega,jd.step E,h2.Ih jc (fun b e=>(B b e).2.2) xV (fun e=>by have:=(B _ e).1;omega),iI.own (Q.trans r) jc (fun b e=>(B b e).1),Rm,q1,q3.trans Qz,?_⟩<;>grind
   .have mr:i=args.length:=zo;subst mr;have Nr:=jd.done;rw[Nr] at c;have c:∀ C w',vg base mb vb vv sb cut w (tl args ls (l.put [115,112,108,105,116] name V (s::ls))) C w'->R C w':=c;have eP:=h.pV Q q zd;have aQi:¬ (args.length:Int)<(dw.length:Int):=zo;refine dM o M aQi eP ?_;obtain⟨bl,Im,pK⟩:=D.sin (fun h=>by cases h);have B:=fun b=>D.own (b:=b);refine a1a (Ms h1 (wd:=[115,112,108,105,116]) (nm:=name) (cv:=ai) (con:=V) (s:=s::ls) J Im (fun y hy=>?_) (a1d S.len zo)) ?_
    .have:=(B y (pK y hy)).1;exact⟨fun hm=>by have:=h.ins.lt _ hm;omega,zo⟩
    rintro e w4 ⟨rfl,r,Mv,Mw,h4⟩;have F:=Q.trans r;have hb4:=h.pV F q zd;have T:=D.fr r lc lv;obtain⟨U,ru⟩:=cg (l.put [115,112,108,105,116] name V (s::ls));rw[<- ru] at h4 c;have aQk:GK (N+1) U:=by
     rw[ru];exact S.put ⟨zs,o1,by simp [CY],zg,zg⟩
    have aY4:U.vars=k.vars:=by rw[ru];exact Qz
    refine cO hb4 ?_;refine⟨fun m z w'=>∃ j f B8 B9 I W,z 85=zi ((j:Nat):Int)/\j<=args.length/\m=args.length-j/\fL base mb vb B8 vv B9 (sb++bl++I) cut w' f/\(∀ b∈I,w.heap.size<=b)/\iI base mb vb w w'/\oR w.heap.size w' (.slice ra (s::ls).length rc) (s::ls) /\
      tl args ls U=tl (args.drop j) (ls.drop j) f/\GK W f/\W+fB (args.drop j)<=N+1+fB args/\f.vars.length=k.vars.length,
     ⟨_,0,U,Mv,Mw,[],N+1,J,a1q _,J,zg,yH,F,T,J,aQk,a1c _,zg⟩,?_⟩
    intro m z1 d1 w5 hI;refine toPr ?_;obtain⟨j,f,B8,B9,I,W,OW,hj,rfl,h5,Vb,K,Vc,heq,yI,hNj,DB⟩:=hI;have sz5:=K.size;by_cases L:j<args.length
    .have qY:j<dw.length:=zo;obtain⟨sb1,JF,e3,e4,e5,e6⟩:=hs.at' qY;obtain⟨u,e7,hu⟩:=eM.at' j L lJ;rw[e7] at e6;simp only[a1r,true_and] at e3;obtain⟨rfl,rfl⟩:=e3;have jV:((j:Nat):Int).toNat=j:=zo;have aQl:(((j:Nat):Int)+1).toNat=j+1:=zo;have J0:=h.pV K e5 zd;have fQ:((j:Nat):Int)<(dw.length:Int):=zo;obtain⟨g,gc,gu,ge,gh,gt⟩:=TX Vc (t:=j+1) zg;simp only[a1r,true_and] at ge;obtain⟨rfl,rfl⟩:=ge;have aY5:j<ls.length:=zo;have gt2:gu[j+1]?=O (zi ((ls[j]:Nat):Int)):=zg;have BK:(((j:Nat):Int)+1)<(((s::ls).length:Nat):Int):=zg;refine dM M OW fQ (zA @J0 (zA @e6 (zA @jV (zA @aQl (zA @gh (zA @gt2 BK)))))) ?_;have Gg:gR f.vars.length args[j]:=by rw[DB];exact o8.at L
     have QH:=Va args j L;have ag6:=Zt args j;have WW:gy args[j]<=n:=zo;refine a1a (ih args[j] WW h5 yI zo Gg (h.ex K hu) (by grind [List.getElem_mem])) ?_;rintro e w6 ⟨qz,a⟩;have X:tl (args.drop j) (ls.drop j) f=match zC args[j] ls[j] f with
       | none=>V
       | some m=>tl (args.drop (j+1)) (ls.drop (j+1)) m:=by
      grind [a1h,tl]
     cases ht:zC args[j] ls[j] f with
     | none=>
      rw[ht] at a X;rw[heq,X] at c;have a:e=ig (.fault 4):=a;subst a;exact c _ _ ⟨yF,J⟩
     | some k6=>
      rw[ht] at a X;obtain⟨he,uo,uq,DC,Zw,Io⟩:=a;subst he;obtain⟨g1,g2⟩:=adV _ _ _ _ _ ht yI (ag1 _ (List.getElem_mem _)) Gg;refine cO OW ?_;refine⟨_,?_,j+1,k6,uo,uq,I++DC,W+gy args[j],by simp [jv],zo,J,by rw[<- a1E];exact Io,fun y hy=>?_,K.trans qz,Vc.fr qz lc lv,heq.trans X,g1,zo,g2.trans DB⟩<;>grind
    .have L:j=args.length:=zo;subst L;have fQ:¬ (args.length:Int)<(dw.length:Int):=zo;rw[heq,a17,tl] at c;refine dF OW fQ ?_;refine c _ _ ⟨K,J,B8,B9,bl++I,fun y hy=>?_,zg⟩;exact yH
  .exact aQh h J Zs dj hx (a1d hk.len zo)
end
def arq(base mb vb:Nat)(vv:Y)(sb:List Nat)(cut:Int)(w:Z)(r:Option (Nat×Mk))(e:Ending)(w':Z):Prop:=
 iI base mb vb w w'/\match r with
  | none=>e=ig (.fault 4)
  | some (s,k')=>e = ah (.int .i64 (s:Int))/\∃ a c bl,(∀ b∈bl,w.heap.size<=b)/\fL base mb vb a vv c (sb++bl) cut w' k'
def P.vh(k:Mk)(xs:List Ex)(i:Nat)(ls:List Nat)(a:Mk):Prop:=tn xs k=match tn (xs.drop i) a with
 | none=>V
 | some (l',k')=>O (ls++l',k')
def P.vh.zero(k:Mk)(xs:List Ex):P.vh k xs 0 [] k:=by
 grind [P.vh,tn]
theorem P.vh.eq{a:Mk}{xs:List Ex}{i:Nat}(b:i<xs.length):tn (xs.drop i) a=match AR xs[i] a with
 | none=>V
 | some (s,m)=>match tn (xs.drop (i+1)) m with
  | none=>V
  | some (l,m)=>O (s::l,m):=by grind [a1h,tn]
theorem P.vh.step{k a:Mk}{xs:List Ex}{s:Nat}(h:P.vh k xs i ft Ab)(b:i<xs.length)(c:AR xs[i] Ab=O (s,a)):P.vh k xs (i+1) (ft++[s]) a:=by
 grind [P.vh,P.vh.eq,tn,eq]
theorem P.vh.none{k a:Mk}{xs:List Ex}{i:Nat}{ls:List Nat}(h:P.vh k xs i ls a)(b:i<xs.length)(c:AR xs[i] a=a3O):tn xs k=a3O:=by
 grind [P.vh,P.vh.eq,eq]
def P.vh.done{k:Mk}{xs:List Ex}(h:P.vh k xs xs.length ft Ab):tn xs k=O (ft,Ab):=by
 unfold P.vh at h;rw[h,a17,tn];simp
def P.VK(k:Mk):Prop:=∀ j,j<k.vars.length->∃ t:Nat,k.vars[j]?=O (O t)
section
variable{base mb vb:Nat}{cut:Int}
theorem oR.aQm{s a:Nat}{w:Z}{l:List Nat}(h:oR pb w (cV g n c) (a::l))(d:w.heap[g]?=aN iL 3) :
  oR pb (bS w g (ae (iL.setIfInBounds 0 (zi (s:Int))) 3 (0,0))) (cV g n c) (s::l):=by
 refine⟨zs,?_⟩;rcases h.2 with⟨b,-⟩| ⟨q,cap,cur,b,i,f,j,k,m,o⟩
 .grind
 .simp only[a1r,Option.some.injEq,Addr.mk.injEq,and_true] at b;obtain⟨rfl,rfl,rfl⟩:=b;rw[d] at f;cases f;refine .inr ⟨g,c,_,J,i,qJ J (bh d),j,k,by simp [m],?_⟩;have e:(iL.setIfInBounds 0 (zi (s:Int))).toList=iL.toList.set 0 (zi (s:Int)):=zs;have p:iL.toList.take ((s::l).length*1)=uY (a::l):=o;grind [List.take_set]
def ars:∀ (n:Nat) (x:Ex),gy x<=n->∀ {iv vv:Y} {gz:List Y} {sb:List Nat} {w:Z} {k:Mk} {N:Nat} {v:Y},fL base mb vb iv vv gz sb cut w k->GK N k->N+gy x<=90000->P.VK k->gR k.vars.length x->eL (fun _=>True) w v x ->
  Calls bbu 139 #[pp mb,v] w (arq base mb vb vv sb cut w (AR x k))
 | 0,x,hn,_,_,_,_,_,_,_,_,_,_,_,_,_,_=>by cases x;simp [gy] at hn
 | n+1,.mk kind name nn kv args,hn,iv,vv,gz,sb,w,k,N,v,h,hk,hN,sL,dj,hx=>by
  have ih:=ars n;suffices H:∀ R:Ending->Z->Prop,(∀ en w',arq base mb vb vv sb cut w (AR (.mk kind name nn kv args) k) en w'->R en w')->Calls bbu 139 #[pp mb,v] w R from H _ zg;intro R i;have pF:=hx;unfold gR at dj;obtain⟨o1,o2,o3,o4,o5,o6,o7,o8⟩:=dj;unfold eL at hx;obtain⟨b,av,dw,rfl,hF,f,hs,lJ⟩:=hx;have lb:=bh f;have Hf:=lJ.FV;obtain⟨aa,ac,rfl⟩:=hs.sl;have hc:=h.cell;have lc:=bh hc;obtain⟨kS,kl⟩:=h.vars;have lv:=bh kl;simp only[gy] at hn hN;have dK:Ext w w.drew:=yF;refine aQa ?_;unfold AR at i;by_cases Hz:kind=118
  .have M:(kind:Int)=118:=zo;have yw:=o4 Hz;obtain⟨t,ht⟩:=sL kv yw;rw[zip Hz,List.getD_eq_getElem?_getD,ht] at i;have wK:(kv:Int)<(k.vars.length:Int):=zo;have pS:(kv:Int).toNat=kv:=zo;have jR:(k.vars.map ui).toArray[kv]?=O (zi ((t:Nat):Int)):=by grind [ui]
   have Mt:(k.vars.map ui).toArray.size=k.vars.length:=zs;obtain⟨a,hA⟩:=cg ((k.vars.map ui).toArray);rw[<- hA] at kl jR Mt;rw[kS] at hc;refine dM f @M hc (zA kl (zA jR @pS)) ?_;exact i _ _ ⟨yF,J,iv,gz,[],yH,by rw[List.append_nil];exact h.ext dK⟩
  .have M:¬ (kind:Int)=118:=zo;rw[bI Hz] at i;by_cases vQ:kind=99
   .have e2:(kind:Int)=99:=zo;have e2b:¬ (kind:Int)≠99:=zo;rw[bI zo] at i;refine jk f @M @e2 ?_;have dE:Ext w (w.alloc (ae #[zi 0] 3)):=yF;refine⟨fun m z w'=>∃ j o B8 B9 q Q ls v1,z 44=zi ((j:Nat):Int)/\z 6=v1/\j<=args.length/\m=args.length-j/\ls.length=j/\fL base mb vb B8 vv B9 (sb++q) cut w' o/\(∀ b∈q,w.heap.size<=b/\v1.ownBlock≠O b)/\iI base mb vb w w'/\oR w.heap.size w' v1 (0::ls) /\
      P.vh k args j ls o/\GK Q o/\Q+fB (args.drop j)<=N+fB args/\o.vars=k.vars/\∀ y∈ls,y<64,
     ⟨_,0,k,iv,gz,[],N,[],_,J,J,a1q _,J,J,by rw[List.append_nil];exact h.ext dE,yH,yF,oR.one 0,P.vh.zero k args,hk,a1c _,J,zg⟩,?_⟩
    intro m z d w3 hI;refine toPr ?_;obtain⟨j,o,B8,B9,q,Q,ls,v1,OX,S,hj,rfl,Hk,h3,Vb,qA,T,mJ,U,hNj,DB,ag1⟩:=hI;obtain⟨ra,rc,rfl⟩:=il T;have Ry:=qA.size;have W:=fun b=>T.own (b:=b);by_cases r:j<args.length
    .have qY:j<dw.length:=zo;obtain⟨sb1,JF,e3,e4,e5,e6⟩:=hs.at' qY;obtain⟨u,e7,hu⟩:=eM.at' j r lJ;rw[e7] at e6;simp only[a1r,true_and] at e3;obtain⟨rfl,rfl⟩:=e3;have jV:((j:Nat):Int).toNat=j:=zo;have J0:=h.pV qA e5 zd;have fQ:((j:Nat):Int)<(dw.length:Int):=zo;refine dM OX fQ @J0 (zA @e6 @jV) ?_;have Gg:gR o.vars.length args[j]:=by rw[DB];exact o8.at r
     have QH:=Va args j r;have ag6:=Zt args j;refine a1a (ih args[j] zo h3 U zo (by grind [P.VK]) Gg (h.ex qA hu)) ?_;rintro e C ⟨l,c⟩;have Mu:=l.size;cases ht:AR args[j] o with
     | none=>
      rw[ht] at c;rw[mJ.none r ht] at i;have c:e=ig (.fault 4):=c;subst c;refine bG ?_;exact i _ _ ⟨yF,J⟩
     | some p=>
      obtain⟨s1,E⟩:=p;rw[ht] at c;obtain⟨he,Mv,Mw,nN,OY,D⟩:=c;subst he;obtain⟨g1,g2,g3⟩:=adX _ _ _ _ _ ht U Gg;have F:=T.fr l lc lv;have art:=fun b=>F.own (b:=b);have aQn:=D.ins.lt;refine cO S ?_;have X:∀ b∈sb++q++nN,(Value.slice ra (0::ls).length rc).ownBlock≠O b:=fun b f he=>by
       rcases a1o.1 f with f | f
       .rcases a1o.1 f with f | f
        .have:=(W b he).1;have:=h.ins.lt _ f;omega
        grind
       grind
      refine F.push zo zg fun v5 I Rm K yu=>?_;refine cO OX ?_;refine⟨_,?_,j+1,E,Mv,Mw,q++nN,Q+gy args[j],ls++[s1],v5,zg,zg,zo,J,zg,?_,fun y hy=>?_,iI.own yF K yH,Rm,mJ.step r ht,g1,zo,g2.trans DB,fun y hy=>?_⟩
      .omega
      .rw[<- a1E];exact D.Ih K yH X zg
      .exact yH
      grind
    .have r:j=args.length:=zo;subst r;have fQ:¬ (args.length:Int)<(dw.length:Int):=zo;rw[mJ.done] at i;simp only at i;refine dF OX fQ ?_;refine a1a (Mr h3 U.slots) ?_;rintro e C ⟨l,c⟩;have Mu:=l.size;cases B:o.slot with
     | none=>
      rw[B] at c i;have c:e=ig (.fault 4):=c;subst c;exact i _ _ ⟨yF,J⟩
     | some p=>
      obtain⟨s1,E⟩:=p;rw[B] at c i;obtain⟨he,D⟩:e = ah (zi (s1:Nat))/\fL base mb vb B8 vv B9 (sb++q) cut C E:=c;subst he;obtain⟨q1,q2,q3,-⟩:=U.slot B;have F:=T.fr l lc lv;have art:=fun b=>F.own (b:=b);obtain⟨g,gc,gu,ge,gh,gt⟩:=TX F (t:=0) zs;simp only[a1r,true_and] at ge;obtain⟨rfl,rfl⟩:=ge;have lg:=bh gh;have gsz:0<gu.size:=by
       grind
      have rp:(0:Int)<(((0::ls).length:Nat):Int):=zg;obtain⟨I,oN⟩:=cg (bS C g (ae (gu.setIfInBounds 0 (zi (s1:Int))) 3 (0,0)));have Vc:oR w.heap.size I (.slice (O ⟨g,0,V⟩) (0::ls).length rc) (s1::ls):=by grind [oR.aQm]
      have K:bB (fun b _=>O g=O b) C I:=yF;have X:∀ b∈sb++q,O g≠O b:=fun b f he=>by
       rcases a1o.1 f with f | f
       .have:=(W b he).1;have:=h.ins.lt _ f;omega
       .exact(Vb b f).2 he
      have h5:=D.Ih K yH X (fun e=>by have:=(W _ e).1;omega);have qy:iI base mb vb w I:=iI.own yF K (fun b e=>(W b e).1);have Uj:=h.pV qy f zd;refine jk S @gh @gsz ?_;rw[<- oN];refine dF S Uj ?_;rw[<- oN];obtain⟨bl,Im,pK⟩:=Vc.sin (fun h=>by cases h);refine a1a (Ms h5 (wd:=[109,97,107,101]) (nm:=name) (cv:=ai) (con:=V) (s:=s1::ls) J Im (fun y hy=>?_) (a1d q1.len zo)) ?_
      .have h1:=pK y hy;exact⟨fun hm=>X y hm h1,zg⟩
      rintro e w6 ⟨rfl,qz,uo,uq,Io⟩;have aQo:=Vc.fr qz lc lv;obtain⟨g',gc',gu',L,gh',gt'⟩:=TX aQo (t:=0) zs;simp only[a1r,Option.some.injEq,Addr.mk.injEq,and_true,true_and] at L;obtain⟨rfl,-,rfl⟩:=L;have gt2:gu'[0]?=O (zi (s1:Int)):=zg;refine jk S @gh' @gt2 ?_;refine i _ _ ⟨yF,J,uo,uq,q++bl,fun y hy=>?_,zg⟩;exact yH
   .have e2:¬ (kind:Int)=99:=zo;rw[zip vQ] at i;refine jk f @M @e2 ?_;refine a1a (Mr h hk.slots) ?_;rintro e C ⟨l,c⟩;have Mu:=l.size;cases B:k.slot with
    | none=>
     rw[B] at c i;have c:e=ig (.fault 4):=c;subst c;exact i _ _ ⟨l,J⟩
    | some p=>
     obtain⟨s1,E⟩:=p;rw[B] at c i;obtain⟨he,D⟩:e = ah (zi (s1:Nat))/\fL base mb vb iv vv gz sb cut C E:=c;subst he;obtain⟨q1,q2,q3,-⟩:=hk.slot B;refine bG ?_;refine a1a (arl (h.ex l pF) zo) ?_;rintro en I ⟨rfl,u,rfl,hu⟩;have uW:u = ai\/∃ t y,u = aj t y:=by
      unfold CX at hu;split at hu<;>exact .inr ⟨_,_,hu⟩
     rcases uW with rfl | ⟨ct,cy,rfl⟩;all_goals
      refine bG ?_;refine Gf D (wd:=[112,117,116]) (nm:=[]) (con:=O (CX kind name nn)) (s:=[s1]) zs hu (a1d q1.len zo) zo ?_;rintro w6 qz ⟨uo,uq,Io⟩;refine bG ?_;exact i _ _ ⟨yF,J,uo,uq,[_],yH,Io⟩
end
def yK:List P.In->Nat
 | []=>0
 | i::r=>(if i.s=[] then 0 else 1)+yK r
def ag7:∀ (a b:List P.In),yK (a++b)=yK a+yK b
 | [],b=>by simp [yK]
 | i::a,b=>by
  rw[List.cons_append,yK,yK,ag7 a b];omega
def rh.Rz{w:Z}:∀ {l:List P.In} {vs:List Y} {sb:List Nat},rh w vs l sb->sb.length=yK l
 | [],_,_,⟨_,a⟩=>by subst a;rfl
 | i::r,vs,sb,⟨cv,sv,bl,rest,f,g,a,h,c,d⟩=>by
  rw[a,List.length_append,rh.Rz d,yK];rcases c with⟨e,-,rfl⟩| ⟨b,cap,cs,rfl,e,-⟩<;>grind
theorem rh.land{w:Z}{i:P.In}{r:List P.In}{s2:List Nat}{g:Nat}(z:i.s≠[]):∀ {l:List P.In} {vs:List Y} {s1:List Nat},rh w vs (l++i::r) (s1++g::s2)->s1.length=yK l->(s1++g::s2).Nodup ->
  ∃ cap cs,vs[l.length*4+3]?=O (cV g i.s.length cap)/\w.heap[g]?=aN cs 3/\cs.size=cap/\i.s.length<=cap/\cs.toList.take i.s.length=uY i.s /\
   ∀ (w':Z) (cs':Array Y) (s':List Nat),(∀ b∈s1++g::s2,b≠g->∀ cs:Array Y,w.heap[b]?=aN cs 3->w'.heap[b]?=aN cs 3)->w'.heap[g]?=aN cs' 3->cs'.size=cap->s'.length=i.s.length->cs'.toList.take s'.length=uY s' ->
    rh w' vs (l++{ i with s:=s' }::r) (s1++g::s2)
 | [],vs,s1,h,c,m=>by
  have B:s1=[]:=List.length_eq_zero_iff.1 c;subst B;obtain⟨cv,sv,bl,rest,n,d,f,o,j,t⟩:=h;rcases j with⟨k,-,-⟩| ⟨b,cap,cs,rfl,k,rfl,C,D,E,F⟩
  .exact yH
  .have f:g::s2=b::n:=f;cases f;refine⟨cap,cs,zg,C,D,E,F,fun w' cs' s' hk p q u ht=>?_⟩;have M:g ∉ s2:=by
    grind
   refine⟨cv,_,[g],rest,s2,d,J,o,.inr ⟨g,cap,cs',J,fun e=>?_,zg,p,q,zg,ht⟩,(by grind [List.mem_cons_of_mem,bK])⟩;grind
 | x::l,vs,s1,h,c,m=>by
  obtain⟨cv,sv,bl,rest,n,d,f,o,j,t⟩:=h;have key:∃ a,s1=bl++a/\n=a++g::s2/\a.length=yK l:=by
   rw[yK] at c;rcases j with⟨k,-,rfl⟩| ⟨b,cap,cs,rfl,k,-⟩
   .grind
   .rw[bI k] at c;cases s1 with
    | nil=>grind
    | cons y a=>
     grind
  obtain⟨a,rfl,rfl,H⟩:=key;rw[a1E] at m;have I:=List.nodup_append.1 m;obtain⟨cap,cs,q1,q2,q3,q4,K,L⟩:=rh.land z t H I.2.1;refine⟨cap,cs,?_,q2,q3,q4,K,fun w' cs' s' hk p q u ht=>?_⟩
  .rw[d,List.length_cons,show(l.length+1)*4+3=4+(l.length*4+3) from by omega];grind
  .refine⟨cv,sv,bl,rest,a++g::s2,d,a1E _ _ _,o,j.bK fun b N cs hx=>?_,L w' cs' s' yH p q u ht⟩;exact yH
def Gh(mb vb:Nat)(w:Z)(f:Y)(j:Nat)(sb:List Nat):Prop:=∃ xb a,f = .func (.func 160) #[] #[pp xb,pp a] /\
 w.heap[xb]?=aN #[pp mb] 245/\w.heap[a]?=aN #[zi (j:Int)] 3/\a≠vb/\a ∉ sb
section
variable{base mb vb ba:Nat}{iv vv v:Y}{gz:List Y}{sb l:List Nat}{cut:Int}{w w':Z}{k:Mk}
theorem Gh.fr{f:Y}(c:Gh mb vb w f j sb)(h:fL base mb vb iv vv gz sb cut w k)(d:iI base mb vb w w')(l:∀ b∈bl,w.heap.size<=b):Gh mb vb w' f j (sb++bl):=by
 obtain⟨xb,g,rfl,m,a,i,n⟩:=c;refine⟨xb,g,J,(by grind [fL.pV]),d.block _ _ a ?_,i,fun hm=>?_⟩
 .rintro (e | e | ⟨-,cs',e⟩)
  .rw[e,h.cell] at a;grind
  .omega
  grind
 grind
def Gh.Ih{f:Y}(c:Gh mb vb w f j sb)(m:g∈sb)(hx:∃ cs,w.heap[g]?=aN cs 3)(a:bB (fun b _=>O g=O b) w w'):Gh mb vb w' f j sb:=by
 obtain⟨xb,d,rfl,h,i,k,l⟩:=c;refine⟨xb,d,J,a.block _ _ h (fun e=>?_),a.block _ _ i (fun e=>?_),k,l⟩<;>grind
def Vd(h:fL base mb vb iv vv gz sb cut w k)(l:k.ins.length<=100000)(wd:Bs):Calls bbu 138 #[pp mb,aT wd] w fun e w'=>iI base mb vb w w' /\
  ∃ b c g f,e = ah f/\w.heap.size<=g/\fL base mb vb b vv c (sb++[g]) cut w' (k.put wd [] V [0])/\Gh mb vb w' f k.ins.length (sb++[g]):=by
 suffices H:∀ R:Ending->Z->Prop,(∀ e w',(iI base mb vb w w'/\∃ b c g f,e = ah f/\w.heap.size<=g/\fL base mb vb b vv c (sb++[g]) cut w' (k.put wd [] V [0])/\Gh mb vb w' f k.ins.length (sb++[g]))->R e w') ->
  Calls bbu 138 #[pp mb,aT wd] w R from H _ fun _ _ h=>h
 intro R m;have d:=h.cell;have lc:=bh d;have lv:=bh h.vars.2;obtain⟨x,pc,n⟩:=il h.row;refine aQb ?_;have i:=d;rw[n] at i;refine cO i ?_;obtain⟨a,o⟩:=cg (bS ((w.alloc (ae #[pp mb] 245)).alloc (ae #[zi 0] 3)) (w.heap.size+1) (ae #[zi (k.ins.length:Int)] 3));rw[<- o,size_alloc];have j:Ext w a:=yF;have p:a.heap.size=w.heap.size+1+1:=yH;have g1:a.heap[w.heap.size]?=aN #[pp mb] 245:=yH;have g2:a.heap[w.heap.size+1]?=aN #[zi (k.ins.length:Int)] 3:=yH;have q:=h.ext j;have r:Gh mb vb a (.func (.func 160) #[] #[pp w.heap.size,pp (w.heap.size+1)]) k.ins.length sb:=⟨_,_,J,g1,g2,zo,fun hm=>by have:=h.ins.lt _ hm;omega⟩;rw[<- p];refine Gf q (wd:=wd) (nm:=[]) (cv:=ai) (con:=V) (s:=[0]) zs J l zo ?_;rintro y t ⟨b,c,u⟩;refine bG ?_;exact m _ _ ⟨(bB.eo j).trans t,b,c,a.heap.size,_,J,zo,u,(by grind [a1x,Gh.fr])⟩
def Ve{f:Y}{l r:List P.In}{i:P.In}{s1 s2:List Nat}(h:fL base mb vb iv vv gz sb cut w k)(I:Gh mb vb w f j sb)(L:k.ins=l++i::r)(hl:l.length=j)(z:i.s.length=1)(m:sb=s1++g::s2)(M:s1.length=yK l){K:Ending->Z->Prop}
  (N:∀ w',bB (fun b _=>O g=O b) w w'->(∃ cs,w.heap[g]?=aN cs 3)->fL base mb vb iv vv gz sb cut w' (k.land j)->K (ah (ak #[])) w') :
  ∃ x y,f = .func (.func 160) #[] #[x,y]/\Calls bbu 160 #[x,y] w K:=by
 have Q:i.s≠[]:=zg;have B:=h.ins;rw[L,m] at B;have a:=h.JZ;rw[m] at a;obtain⟨cap,cs,q1,q2,q3,q4,q5,R⟩:=B.land Q M a;obtain⟨xb,yb,rfl,g1,g2,g3,g4⟩:=I;refine⟨_,_,J,?_⟩;have C:=h.cell;have lg:=bh q2;obtain⟨pa,pc,zW⟩:=il h.row;have mr:k.ins.length=l.length+1+r.length:=zg;have S:(j:Int)<(k.ins.length:Int):=zo;have U:(j:Int).toNat=j:=zo;have D:=h.row;rcases D.2 with⟨n,E⟩| ⟨W,o,cur,n,E,F,X,h5,h6,h7⟩
 .omega
 have H:=C;rw[n] at H;have lib:=bh F;have oV:cur[j*4+3]?=O (cV g i.s.length cap):=by
  grind
 have WW:0<cs.size:=zo;refine aQc ?_;refine dM @g1 @g2 H (zA F (zA S (zA @U (zA oV (zA z (zA @q2 WW)))))) ?_;obtain⟨c,p⟩:=cg (bS w.drew g (ae (cs.setIfInBounds 0 (zi (k.ins.length:Int))) 3 (0,0)));rw[<- p];have d:bB (fun b _=>O g=O b) w c:=yF;have q:c.heap[g]?=aN (cs.setIfInBounds 0 (zi (k.ins.length:Int))) 3:=yH;have hb:∀ {b:Nat} {cs:Array Y} {T:Nat},T≠3->w.heap[b]?=aN cs T->c.heap[b]?=aN cs T:=yH;have Mi:g∈sb:=zg;have t:(k.land j).ins=l++{ i with s:=[k.ins.length] }::r:=by
  unfold Mk.land;simp only;have:=XV (fun x:P.In=>{ x with s:=[k.ins.length] }) l (i::r) 0;grind
 have hlen:(k.land j).ins.length=k.ins.length:=zg;refine N c d yH ⟨hb zo C,h.lo,?_,?_,⟨h.vars.1,d.block _ _ h.vars.2 (fun e=>?_)⟩,h.JY,h.sep,h.JZ⟩
 .rw[hlen];exact⟨D.1,.inr ⟨W,o,cur,n,E,yH,X,h5,h6,h7⟩⟩
 .rw[t,m];refine R c _ [k.ins.length] yH q zg zg ?_;have e:(cs.setIfInBounds 0 (zi (k.ins.length:Int))).toList=cs.toList.set 0 (zi (k.ins.length:Int)):=zs;have u:cs.toList.take [k.ins.length].length=uY i.s:=zg;rw[e,List.take_set,u];obtain⟨x,hx⟩:=List.length_eq_one_iff.1 z;grind
 .injection e with e;exact h.sep g Mi e
end
open Go.Proofs.YtoegidfbnkaabaaGreatDoor.Sx
section
variable{p0 p1 p2 p3 p4 p5 p6 p7:Y}{w:Z}{R:Ending->Z->Prop}
def Vg:=cz w R [p0,p1,p2] (gc [(3,[15,27]),(14,[73])] [] [28,45,60,61,66,67,74,82,83,110,111,157,158]) Tryz.func107
end
theorem arz{α:Type}(f:α->α):∀ (a b:List α) (q:Nat),q<a.length->(a++b).modify q f=a.modify q f++b
 | [],b,q,h=>zg
 | x::a,b,0,h=>zs
 | x::a,b,q+1,h=>by
  rw[List.cons_append,a2s,a2s,arz f a b q zg];rfl
def P.arA(b:Bd)(c:Nat)(m:Mk):tz [b] c m=ly b c m:=by
 unfold tz;cases ly b c m with
 | none=>rfl
 | some m=>simp [tz]
def P.arB{m:Mk}{w:Bs}(a:j<m.ins.length):∃ X,((m.put w [] V [0]).land j).ins=X++[⟨w,[],V,[0]⟩]/\X.length=m.ins.length:=by
 grind [Mk.land,Mk.put,arz]
section
variable{base mb vb:Nat}{cut:Int}
def fL.bd{w:Z}{k:Mk}(h:fL base mb vb iv vv gz ft cut w k)(a:iI base mb vb w w'){x:Bd}(hx:dP (fun _=>True) w v x):dP (fun _=>True) w' v x:=dP.mono zg (h.lG a) _ _ hx
abbrev Vh(base mb vb:Nat)(cut:Int)(n:Nat):Prop:=∀ (x:Bd),je x<=n->∀ {iv vv:Y} {gz:List Y} {sb:List Nat} {w:Z} {k:Mk} {N M cs:Nat} {v:Y},fL base mb vb iv vv gz sb cut w k->GK N k->N+4*je x<=90000->P.VK k->fe k.vars.length M x->dP (fun _=>True) w v x->cs<64 ->
 Calls bbu 107 #[pp mb,v,zi (cs:Nat)] w (vg base mb vb vv sb cut w (ly x cs k))
theorem VK.of{k k':Mk}(h:P.VK k)(hv:k'.vars=k.vars):P.VK k':=by grind [P.VK]
def arC:∀ (l:List Bd) (j:Nat) (a:j<l.length),jG (l.drop j)=je l[j]+jG (l.drop (j+1))
 | x::l,0,_=>by simp [jG]
 | x::l,j+1,a=>by simpa using arC l j zg
def arD:∀ (l:List Bd) (j:Nat),jG (l.drop j)<=jG l
 | [],j=>zg
 | x::l,0=>zs
 | x::l,j+1=>by have:=arD l j;grind [jG]
def arE:∀ (l:List Bd),l.length<=jG l
 | []=>zs
 | x::l=>by have:=arE l;grind [ano,jG]
def arF(ih:Vh base mb vb cut n){name:Bs}{args:List Ex}(U:je (.mk pb name args gI)<=n+1)(W:pb=33\/pb=44){w:Z}{k:Mk}{cs:Nat}
  (h:fL base mb vb iv vv gz ft cut w k) (hk:GK N k) (X:N+4*je (.mk pb name args gI)<=90000) (sL:P.VK k) (B:fe k.vars.length M (.mk pb name args gI)) (hx:dP (fun _=>True) w v (.mk pb name args gI)) (C:cs<64) :
  Calls bbu 107 #[pp mb,v,zi (cs:Nat)] w (vg base mb vb vv ft cut w (ly (.mk pb name args gI) cs k)):=by
 suffices H:∀ R:Ending->Z->Prop,(∀ D w',vg base mb vb vv ft cut w (ly (.mk pb name args gI) cs k) D w'->R D w')->Calls bbu 107 #[pp mb,v,zi (cs:Nat)] w R from H _ fun _ _ h=>h;intro R c;unfold fe at B;obtain⟨o1,o2,o3,o4,o5,o6,o7,o8⟩:=B;unfold dP at hx;obtain⟨b,av,pv,vs,us,rfl,-,E,gx,De,F,I⟩:=hx;have hc:=h.cell;have lv:=bh h.vars.2;have uU:=I.HW;obtain⟨pa,pc,rfl⟩:=F.sl;simp only[je] at U X;have kg:=arE gI;refine Vg ?_;unfold ly at c;rcases W with rfl | rfl
 .rw[zip rfl] at c;refine cO E ?_;refine Gf h (wd:=lx) (nm:=[]) (cv:=ai) (con:=V) (s:=[cs]) zs J (a1d hk.len zo) lv ?_;rintro w3 hG ⟨uk,um,h3⟩;refine bG ?_;exact c _ _ ⟨hG,J,uk,um,[_],yH,h3⟩
 .rw[bI zd,zip rfl] at c;refine cO E ?_;refine⟨fun m z w'=>∃ j a p q g l,z 73=zi ((j:Nat):Int)/\j<=gI.length/\m=gI.length-j/\fL base mb vb p vv q (ft++g) cut w' a/\(∀ b∈g,w.heap.size<=b)/\iI base mb vb w w' /\
    tz gI cs k=tz (gI.drop j) cs a/\GK l a/\l+4*jG (gI.drop j)<=N+4*jG gI/\a.vars=k.vars,
   ⟨_,0,k,iv,gz,[],N,J,a1q _,J,zg,yH,yF,J,hk,a1c _,J⟩,?_⟩
  intro m z1 d1 w5 hI;refine toPr ?_;obtain⟨j,a,p,q,g,l,r,hj,rfl,K,Vb,i,heq,L,hNj,t⟩:=hI;have sz5:=i.size;by_cases d:j<gI.length
  .have qY:j<us.length:=zo;obtain⟨sb1,JF,Q,e4,e5,S⟩:=F.at' qY;obtain⟨u,e7,hu⟩:=gF.Dh j d I;rw[e7] at S;simp only[a1r,true_and] at Q;obtain⟨rfl,rfl⟩:=Q;have jV:((j:Nat):Int).toNat=j:=zo;have J0:=h.pV i e5 zd;have x:((j:Nat):Int)<(us.length:Int):=zo;refine dM r x @J0 (zA @S @jV) ?_;have QH:=arC gI j d;have ag6:=arD gI j;have T:fe a.vars.length M gI[j]:=by rw[t];exact o8.at d
   refine a1a (ih gI[j] zo K L zo (VK.of sL t) T (h.bd i hu) C) ?_;rintro e w6 ⟨qz,f⟩;have o:tz (gI.drop j) cs a=match ly gI[j] cs a with
     | none=>V
     | some m=>tz (gI.drop (j+1)) cs m:=by
    rw[a1h d,tz];rfl
   cases ht:ly gI[j] cs a with
   | none=>
    rw[ht] at f o;rw[heq,o] at c;have f:e=ig (.fault 4):=f;subst f;exact c _ _ ⟨yF,J⟩
   | some k6=>
    rw[ht] at f o;obtain⟨he,uo,uq,DC,Zw,Io⟩:=f;subst he;obtain⟨g1,g2⟩:=Eu _ _ _ _ _ ht L T C zo;refine cO r ?_;refine⟨_,?_,j+1,k6,uo,uq,g++DC,l+4*je gI[j],by simp [jv],zo,J,by rw[<- a1E];exact Io,fun y hy=>?_,i.trans qz,heq.trans o,g1,zo,g2.trans t⟩<;>grind
  .have d:j=gI.length:=zo;subst d;have x:¬ (gI.length:Int)<(us.length:Int):=zo;rw[heq,a17,tz] at c;refine dF r x ?_;exact c _ _ ⟨i,J,p,q,g,Vb,K⟩
end
