/- A part of one proof (KG1, KG2, KG3, KG4, KG5, KG6, KG7, KG8, ShX3b, KG9). -/
import Derived.Test.YtoegidfbnkaabaaGreatDoorPkLAY
set_option linter.all false
set_option maxRecDepth 100000
set_option maxHeartbeats 8000000
open Option renaming some → O, none → V
open Go renaming Value → Y, World → Z
open Bool renaming true → A
open Go.Obj renaming cells → ae
open Go.Ending renaming returned → ah
open Go.Value renaming nilIface → ai, iface → aj, tuple → ak
open Go.Calls renaming mono → a1r
open Nat renaming le_refl → a1s, le_trans → a1t, zero_le → a1H
open List renaming drop_eq_getElem_cons → a1y, mem_append → a1F, mem_singleton → a1K, append_assoc → a1M, drop_length → a2o, modify_succ_cons → a2L
open Go.Value.slice renaming injEq → a1I
open Option renaming map_eq_some_iff → a1R, none → a35
open Go.Builtin renaming append_ → a1Y
open Go.Proofs.Tryz renaming prog → bbH
namespace Go.Proofs.YtoegidfbnkaabaaGreatDoor
open P
open Go.RowKit Sx
variable{F:Nat->Prop}{M N b base c g i j k m n pb:Nat}{X:Y->Z->Prop}{bl ft:List Nat}{cs iB:Array Y}{iv v vv:Y}{gk xs:List Y}{gr:List Bd}{zF:Mk}{w w' w0:Z}{wd:Bs}
def Tryz.aPJ:(Tryz.prog.info? 198).map (fun i=>(i.zero,i.size,i.bytes))=O (O (.agg #[aT [],aT [],ai,bW]),4,72):=zk
def agI(c:w.ownsRow base 198 4 v n xs){l:List Y}
  (d:w.heap[b]?=aO l.toArray 198) (p:l.length=4) (q:∀ u∈l,u.oneCell'=A)
  (r:n<=900000000) (f:base<=w.heap.size) {K:Y->Z->Prop}
  (h:∀ v' w',w'.ownsRow base 198 4 v' (n+1) (xs++l)->w.grownBy w' v.ownBlock->(v'.ownBlock=v.ownBlock\/∀ k,v'.ownBlock=O k->w.heap.size<=k)->K v' w') :
  WR bbH (a1Y #[194,194] 194 #[v,cS b 1 m]) w K X:=by
 obtain⟨i,hi,a⟩:=a1R.1 Tryz.aPJ;simp only[Prod.mk.injEq] at a;obtain⟨g,j,o⟩:=a;exact Sx.DC (m:=1) (t:=194) (e:=198) zk hi g j o J zo c d zo zg zo zo f h
def Jt(w:Z)(v:Y)(s:List Nat)(bl:List Nat):Prop:=(s=[]/\v = bW/\bl=[])\/∃ b cap cs,bl=[b]/\s≠[]/\v = cS b s.length cap/\w.heap[b]?=aO cs 3/\cs.size=cap/\s.length<=cap/\cs.toList.take s.length=uS s
def qV(w:Z):List Y->List P.In->List Nat->Prop
 | vs,[],sb=>vs=[]/\sb=[]
 | vs,i::r,sb=>∃ cv sv bl rest a,vs=[.string (bs i.word),.string (bs i.name),cv,sv]++rest/\sb=bl++a/\yn cv i.const/\Jt w sv i.s bl/\qV w rest r a
def ue:Option Nat->Y
 | none=>.int .i64 (-1)
 | some k=>.int .i64 (k:Int)
structure fH(base mb vb:Nat)(iv vv:Y)(gk:List Y)(sb:List Nat)(cut:Int)(w:Z)(k:Mk):Prop where
 cell:w.heap[mb]?=aO #[zi (k.slots:Nat),iv,vv,zi cut] 247
 lo:base<=mb
 row:w.ownsRow base 198 4 iv k.ins.length gk
 ins:qV w gk k.ins sb
 vars:vv = cS vb k.vars.length k.vars.length/\w.heap[vb]?=O (ae (k.vars.map ue).toArray 3 (0,0))
 Ju:base<=vb
 sep:∀ b∈sb,b≠vb
 Jv:sb.Nodup
def GM(base mb vb:Nat)(b:Nat)(o:Obj):Prop:=b=mb\/b=vb\/(base<=b/\∃ cs,o = ae cs 198 (0,0))
abbrev iA(base mb vb:Nat)(w w':Z):Prop:=bB (GM base mb vb) w w'
theorem Jt.bJ{s:List Nat}(h:Jt w v s bl)(hk:∀ b∈bl,∀ cs:Array Y,w.heap[b]?=aO cs 3->w'.heap[b]?=aO cs 3):Jt w' v s bl:=by
 rcases h with h | ⟨b,cap,cs,rfl,a,c,d,e⟩
 .exact .inl h
 .exact .inr yH
theorem qV.bJ{w w':Z}:∀ {l:List P.In} {vs:List Y} {sb:List Nat},qV w vs l sb->(∀ b∈sb,∀ cs:Array Y,w.heap[b]?=aO cs 3->w'.heap[b]?=aO cs 3)->qV w' vs l sb
 | [],vs,sb,h,_=>h
 | i::r,vs,sb,⟨cv,sv,bl,rest,a,c,d,e,g,f⟩,hk=>⟨cv,sv,bl,rest,a,c,d,e,(by grind [List.mem_append_left,Jt.bJ]),qV.bJ f yH⟩
def qV.snoc{w:Z}{i:P.In}{l0:List Y}{b0:List Nat}:∀ {l:List P.In} {vs:List Y} {sb:List Nat},qV w vs l sb->qV w l0 [i] b0->qV w (vs++l0) (l++[i]) (sb++b0)
 | [],vs,sb,⟨b,c⟩,a=>zg
 | x::r,vs,sb,⟨cv,sv,bl,rest,d,b,c,e,f,g⟩,a=>⟨cv,sv,bl,rest++l0,d++b0,zg,zg,e,f,qV.snoc g a⟩
section
variable{base mb vb:Nat}{iv vv:Y}{gk:List Y}{sb:List Nat}{cut:Int}{w w':Z}{k:Mk}
def fH.own(h:fH base mb vb iv vv gk sb cut w k)(d:bB (fun b _=>b=mb) w w'){a:Int}(f:w'.heap[mb]?=aO #[zi (n:Nat),iv,vv,zi a] 247):fH base mb vb iv vv gk sb a w' { k with slots:=n }:=by
 have j:∀ {b:Nat} {cs:Array Y} {T:Nat},T≠247->w.heap[b]?=aO cs T->w'.heap[b]?=aO cs T:=fun{b cs T} l c=>d.block b _ c fun e=>by
  rw[e,h.cell] at c;grind
 refine⟨f,h.lo,⟨h.row.1,?_⟩,h.ins.bJ yH,(by grind [vars]),h.Ju,h.sep,h.Jv⟩
 .rcases h.row.2 with m | ⟨b,cap,cur,rfl,g,o,i⟩
  .exact yH
  .exact .inr ⟨b,cap,cur,J,g,yH,i⟩
def LO(h:fH base mb vb iv vv gk sb cut w k)(r:k.slots<=64):Calls bbH 104 #[pp mb] w fun e w'=>iA base mb vb w w'/\match k.slot with
  | none=>e=gP (.fault 4)
  | some (s,k')=>e = ah (.int .i64 (s:Nat))/\fH base mb vb iv vv gk sb cut w' k':=by
 have f:=h.cell;have lc:=bg f;refine aPE ?_;obtain⟨w1,j⟩:=cg (bQ w mb (ae #[zi ((k.slots+1:Nat):Int),iv,vv,zi cut] 247));have g:bB (fun b _=>b=mb) w w1:=yF;have a:w1.heap[mb]?=aO #[zi ((k.slots+1:Nat):Int),iv,vv,zi cut] 247:=yH;have t:=h.own g (n:=k.slots+1) a;have l:iA base mb vb w w1:=g.mono fun b o _ e=>.inl e;have m:=bg a;have p:(k.slots:Int)+1=((k.slots+1:Nat):Int):=zo;have q:bQ w mb (ae (po #[zi (k.slots:Nat),iv,vv,zi cut] 0 (Value.int .i64 ((k.slots:Int)+1)).cells.toList) 247 (0,0))=w1:=by rw[j,<- p];rfl
 refine cJ f ?_;rw[q];unfold Mk.slot;by_cases i:64<k.slots+1
 .rw[zip i];have c:((k.slots+1:Nat):Int) > 64:=zo;refine⟨fun _ _=>False,?_,by rintro _ _ h;exact h.elim⟩;refine dj a c ?_;exact⟨l,J⟩
 .rw[bM i];have c:¬ ((k.slots+1:Nat):Int) > 64:=zo;refine⟨fun _ w'=>w'=w1,?_,?_⟩
  .exact lM a c
  .rintro s w2 rfl d;refine cJ a ?_;exact yF
def LP(h:fH base mb vb iv vv gk sb cut w k){nm:Bs}{cv sv:Y}{con:Option Tm}{s:List Nat}(m:yn cv con)(L:Jt w sv s bl)(hd:∀ b∈bl,b ∉ sb/\b≠vb)(hn:k.ins.length<=100000) :
  Calls bbH 105 #[pp mb,aT wd,aT nm,cv,sv] w fun e w'=>e = ah (ak #[])/\iA base mb vb w w'/\∃ S U,fH base mb vb S vv U (sb++bl) cut w' (k.put wd nm con s):=by
 have y:=h.cell;have lc:=bg y;have tW:=h.lo;obtain⟨pa,pc,z⟩:=gV h.row;have M:cv = ai\/∃ t u,cv = aj t u:=by
  cases con with
  | none=>exact .inl m
  | some t=>
   cases t with
   | atom s=>exact .inr ⟨_,_,m⟩
   | int s=>exact .inr ⟨_,_,m⟩
   | var i=>exact m.elim
   | comp s l=>exact m.elim
 obtain⟨sa,sn,sc,B⟩:∃ a n c,sv = .slice a n c:=by
  rcases L with⟨-,d,-⟩| ⟨b,cap,cs,-,-,d,-⟩<;>exact zg
 have Ls:cv.oneCell'=true:=by rcases M with rfl | ⟨_,_,rfl⟩<;>rfl
 refine aPD ?_;have N:=y;rw[z] at N;obtain⟨l0,C⟩:∃ l0:List Y,l0=[aT wd,aT nm,cv,sv]:=⟨_,J⟩;obtain⟨w1,D⟩:=cg (w.alloc (ae l0.toArray 198 (0,0)));have p:Ext w w1:=yF;have s1:w1.heap.size=w.heap.size+1:=yH;have g1:w1.heap[w.heap.size]?=aO l0.toArray 198:=yH;rw[C] at D;have main:∀ {K:Y->Z->Prop} {X:Y->Z->Prop},(∀ v' w3,w3.ownsRow base 198 4 v' (k.ins.length+1) (gk++l0)->w1.grownBy w3 iv.ownBlock->(v'.ownBlock=iv.ownBlock\/∀ j,v'.ownBlock=O j->w1.heap.size<=j)->K v' w3) ->
   WR bbH (a1Y #[194,194] 194 #[iv,cS w.heap.size 1 1]) w1 K X:=fun W=>
  agI (jL p.ext h.row) g1 zg (by
   rw[C];intro u hu;simp only[List.mem_cons,List.not_mem_nil,or_false] at hu;rcases hu with rfl | rfl | rfl | rfl
   .rfl
   .rfl
   .omega
   .rw[B];rfl) zo zo W
 rcases M with rfl | ⟨ct,cu,rfl⟩;all_goals
  rw[B] at D;refine dj N B ?_;rw[<- D,<- z];refine main fun v' w3 E q hv=>?_;obtain⟨P,pc',D2⟩:=gV E;subst D2;have Q:∀ {b:Nat} {cs:Array Y} {T:Nat},T≠198->w.heap[b]?=aO cs T->w3.heap[b]?=aO cs T:=fun{b cs T} hT f=>by
   have r:=p.ext _ _ f;rw[q.block b (bg r) (fun he=>?_)]
   .exact r
   .rcases h.row.2 with⟨d,-⟩| ⟨b',cap,cur,d,F,g,H⟩
    .rw[d] at he;cases he
    .rw[d] at he;cases he;rw[f] at g;injection g with g;injection g with _ g _;exact hT g
  have c3:=Q zd y;have l3:=bg c3;have x:=c3;rw[z] at x;refine cJ @x ?_;obtain⟨R,I⟩:=cg (bQ w3 mb (ae #[zi (k.slots:Nat),.slice P (k.ins.length+1) pc',vv,zi cut] 247));rw[<- I];have yE:∀ {b:Nat} {cs:Array Y} {T:Nat},T≠247->w3.heap[b]?=aO cs T->R.heap[b]?=aO cs T:=yH;have LC:=q.size;refine⟨?_,.slice P (k.ins.length+1) pc',gk++l0,?_⟩
  .rw[I];refine⟨q.os.trans p.os,q.tape.trans p.tape,q.output.trans p.output,by rw[vf];omega,fun b o f hm=>?_⟩;have r:=p.ext _ _ f;rw[jb (fun e=>hm (.inl e)),q.block b (bg r) (fun he=>?_)]
   .exact r
   .rcases h.row.2 with⟨d,-⟩| ⟨b',cap,cur,d,F,g,H⟩
    .rw[d] at he;cases he
    .rw[d] at he;cases he;rw[f] at g;exact hm (.inr zg)
  .refine⟨by rw[I];exact qz J l3,h.lo,?_,?_,?_,h.Ju,fun b f=>?_,?_⟩
   .show R.ownsRow base 198 4 _ (k.ins++[_]).length _;rw[List.length_append,List.length_singleton];refine⟨E.1,?_⟩;rcases E.2 with d | ⟨b,cap,cur,d,F,g,H⟩
    .exact yH
    .exact .inr ⟨b,cap,cur,d,F,yH,H⟩
   .refine qV.snoc (h.ins.bJ yH) ⟨_,sv,bl,[],[],by rw[C];rfl,zg,m,(by grind [Jt.bJ]),J,J⟩
   .exact⟨h.vars.1,yE zd (Q zd h.vars.2)⟩
   .rcases a1F.1 f with f | f
    .exact h.sep b f
    .exact zg
   .rw[List.nodup_append];refine⟨h.Jv,?_,zg⟩;rcases L with⟨-,-,rfl⟩| ⟨b,cap,cs,rfl,-⟩<;>simp
end
def Tryz.aPM:(Tryz.prog.info? 3).map (fun i=>(i.zero,i.size,i.bytes))=O (O (zi 0),1,8):=zk
def aq3(d:w.ownsRow base 3 1 v n xs){a:Y}
  (f:w.heap[b]?=aO #[a] 3) (p:a.oneCell'=A)
  (q:n<=100000000) (g:base<=w.heap.size) {K:Y->Z->Prop}
  (h:∀ v' w',w'.ownsRow base 3 1 v' (n+1) (xs++[a])->w.grownBy w' v.ownBlock->(v'.ownBlock=v.ownBlock\/∀ k,v'.ownBlock=O k->w.heap.size<=k)->K v' w') :
  WR bbH (a1Y #[45,45] 45 #[v,cS b 1 m]) w K X:=by
 obtain⟨i,hi,c⟩:=a1R.1 Tryz.aPM;simp only[Prod.mk.injEq] at c;obtain⟨j,l,o⟩:=c;refine Sx.DC (m:=1) (t:=45) (e:=3) zk hi j l o J zo d f J (fun u hu=>?_) zo zo g h;grind
def aq4{name:Bs}{n:Int}{args:List Ex}(h:eP F w v (.mk pb name n k args))(hk:pb<256) :
  Calls bbH 137 #[v] w fun e w'=>w'=w/\∃ u,e = ah u/\yn u (O (CO pb name n)):=by
 unfold eP at h;obtain⟨b,av,di,rfl,f,c,g,hx⟩:=h;refine aPF ?_;by_cases d:pb=110
 .have a:(pb:Int)=110:=zo;refine dj c @a ?_;refine⟨_,J,?_⟩;unfold CO;rw[zip d];rfl
 .have a:¬ (pb:Int)=110:=zo;refine dj c @a ?_;refine⟨_,J,?_⟩;unfold CO;rw[bM d];rfl
def uW(base mb vb:Nat)(vv:Y)(sb:List Nat)(cut:Int)(w:Z)(r:Option Mk)(e:Ending)(w':Z):Prop:=
 iA base mb vb w w'/\match r with
  | none=>e=gP (.fault 4)
  | some k'=>e = ah (ak #[])/\∃ a c bl,(∀ b∈bl,w.heap.size<=b)/\fH base mb vb a vv c (sb++bl) cut w' k'
section
variable{base mb vb:Nat}{iv vv:Y}{gk:List Y}{sb:List Nat}{cut:Int}{w w':Z}{k:Mk}
theorem qV.lt{w:Z}:∀ {l:List P.In} {vs:List Y} {sb:List Nat},qV w vs l sb->∀ b∈sb,b<w.heap.size
 | [],_,_,⟨_,c⟩,b,a=>yH
 | i::r,vs,sb,⟨cv,sv,bl,rest,f,g,c,h,d,e⟩,b,a=>by
  rw[c] at a;rcases a1F.1 a with a | a
  .rcases d with⟨-,-,rfl⟩| ⟨j,cap,cs,rfl,-,-,k,-⟩<;>grind
  .exact qV.lt e b a
theorem fH.ext(h:fH base mb vb iv vv gk sb cut w k)(a:Ext w w'):fH base mb vb iv vv gk sb cut w' k:=
 ⟨a.ext _ _ h.cell,h.lo,jL a.ext h.row,h.ins.bJ (by grind [bB.ext]),(by grind [vars,bB.ext]),h.Ju,h.sep,h.Jv⟩
def FY(h:fH base mb vb iv vv gk sb cut w k){nm:Bs}{cv:Y}{con:Option Tm}{s:List Nat}(d:s≠[])(f:yn cv con)(g:k.ins.length<=100000)(q:vb<w.heap.size){K:Ending->Z->Prop}
  (i:∀ w',iA base mb vb w w'->(∃ j l,fH base mb vb j vv l (sb++[w.heap.size]) cut w' (k.put wd nm con s))->K (ah (ak #[])) w') :
  Calls bbH 105 #[pp mb,aT wd,aT nm,cv,cS w.heap.size s.length s.length] (w.alloc (ae (uS s).toArray 3 (0,0))) K:=by
 have a:Ext w (w.alloc (ae (uS s).toArray 3 (0,0))):=yF;have m:(uS s).length=s.length:=zs;have n:(w.alloc (ae (uS s).toArray 3 (0,0))).heap[w.heap.size]?=O (ae (uS s).toArray 3 (0,0)):=yH;refine a1r (LP (h.ext a) (bl:=[w.heap.size]) f (.inr ⟨w.heap.size,s.length,_,J,d,J,n,zs,a1s _,by rw[<- m];exact List.take_length⟩) (fun b c=>?_) g) ?_
 .rw[a1K] at c;subst c;exact⟨fun hm=>by have:=h.ins.lt _ hm;omega,zo⟩
 .rintro e w' ⟨rfl,o,p⟩;exact i w' ((bB.mono a fun _ _ _ h=>h.elim).trans o) p
def fH.aq5(h:fH base mb vb iv vv gk sb cut w k){s:Nat}(e:j<k.vars.length)(a:vb<w.heap.size):fH base mb vb iv vv gk sb cut (bQ w vb (ae ((k.vars.map ue).toArray.setIfInBounds j (zi (s:Nat))) 3 (0,0))) { k with vars:=k.vars.set j (O s) } /\
  iA base mb vb w (bQ w vb (ae ((k.vars.map ue).toArray.setIfInBounds j (zi (s:Nat))) 3 (0,0))):=by
 obtain⟨f,g⟩:=h.vars;have hk:∀ {b:Nat} {cs:Array Y} {T:Nat},(T≠3\/b≠vb)->w.heap[b]?=aO cs T->(bQ w vb (ae ((k.vars.map ue).toArray.setIfInBounds j (zi (s:Nat))) 3 (0,0))).heap[b]?=aO cs T:=yH;refine⟨⟨(by grind [cell]),h.lo,⟨h.row.1,?_⟩,h.ins.bJ (by grind [sep]),.intro ?_ ?_,h.Ju,h.sep,h.Jv⟩,(bB.refl _ _).bQ (.inl fun _=>.inr (.inl J))⟩
 .rcases h.row.2 with i | ⟨b,cap,cur,rfl,c,l,d⟩
  .exact yH
  .exact .inr ⟨b,cap,cur,J,c,yH,d⟩
 .grind
 .rw[qz J a];grind [List.map_set,ue]
theorem fH.lF(h:fH base mb vb iv vv gk sb cut w k)(d:iA base mb vb w w'):∀ (b:Nat) (o:Obj),True->DE o->w.heap[b]?=O o->w'.heap[b]?=O o:=fun b o _ c a=>by
 cases o with
 | cells cs t z=>
  obtain⟨ht,rfl⟩:=c;refine d.block _ _ a ?_;rintro (e | e | ⟨-,cs',e⟩)
  .rw[e,h.cell] at a;grind
  .rw[e,h.vars.2] at a;grind
  grind
 | _=>exact c.elim
def fH.ex(h:fH base mb vb iv vv gk sb cut w k)(a:iA base mb vb w w'){x:Ex}(hx:eP (fun _=>True) w v x):eP (fun _=>True) w' v x:=eP.mono zg (h.lF a) _ _ hx
end
section
variable{base mb vb:Nat}{iv vv:Y}{gk:List Y}{sb:List Nat}{cut:Int}{w w':Z}{k:Mk}
def aPN(h:fH base mb vb iv vv gk sb cut w k){x:Ex}{name:Bs}{n:Int}{kv:Nat}{args:List Ex}(M:x = .mk pb name n kv args)(N:pb≠99)(C:ie k.vars.length x)(hx:eP (fun _=>True) w v x){s:Nat}(D:k.ins.length<=100000) :
  Calls bbH 106 #[pp mb,v,zi (s:Nat)] w (uW base mb vb vv sb cut w (za x s k)):=by
 suffices H:∀ R:Ending->Z->Prop,(∀ m w',uW base mb vb vv sb cut w (za x s k) m w'->R m w')->Calls bbH 106 #[pp mb,v,zi (s:Nat)] w R from H _ fun _ _ h=>h;intro R c;subst M;have P:=hx;unfold ie at C;obtain⟨o1,o2,o3,o4,o5,o6,o7,o8⟩:=C;unfold eP at hx;obtain⟨b,av,di,rfl,hF,e,hs,ml⟩:=hx;have lb:=bg e;have f:=h.cell;have lc:=bg f;obtain⟨Q,g⟩:=h.vars;have lv:=bg g;have i:Ext w w.drew.drew:=yF;refine aq0 ?_;by_cases o:pb=118
 .have l:(pb:Int)=118:=zo;have S:=o4 o;have vW:(kv:Int)<(k.vars.length:Int):=zo;have p:(kv:Int).toNat=kv:=zo;have d:(k.vars.map ue).toArray[kv]?=O (ue k.vars[kv]):=zg;have T:(k.vars.map ue).toArray.size=k.vars.length:=zs;have E:=fun s=>h.ext i |>.aq5 (s:=s) S (by rw[Ca,Ca];exact lv);obtain⟨a,F⟩:=cg ((k.vars.map ue).toArray);rw[<- F] at g d T;rw[<- F] at E;unfold za at c;rw[zip o] at c;have U:k.vars.getD kv V=k.vars[kv]:=zg;rw[U] at c;rw[Q] at f;cases I:k.vars[kv] with
  | none=>
   rw[I] at c d;have d:a[kv]?=O (zi (-1)):=d;refine dB e @l f (zA g (zA d @p)) ?_;obtain⟨r1,r2⟩:=E s;exact c _ _ ⟨yF,J,iv,gk,[],yH,zg⟩
  | some j=>
   rw[I] at c d;have d:a[kv]?=O (zi (j:Int)):=d;refine dB e @l f (zA g (zA d @p)) ?_;refine⟨fun w'=>Ext w w',i,?_⟩;rw[jx];refine cQ (pq mb 2) (fun w' K=>eT) ?_;refine cQ (cS vb k.vars.length k.vars.length) (fun w' K=>by have L:=K.ext _ _ f;have:=bg L;exact fh L) ?_;refine dB e g d @p ?_;refine⟨i.alloc _,?_⟩;refine FY (h.ext i) (wd:=[115,97,109,101]) (nm:=[]) (cv:=ai) (con:=V) (s:=[s,j]) zs J D (yH) ?_;rintro w3 q ⟨r,z,B⟩;refine bH ?_;exact c _ _ ⟨(bB.mono i fun _ _ _ h=>h.elim).trans q,J,r,z,[w.heap.size],yH,B⟩
 .have l:¬ (pb:Int)=118:=zo;have W:¬ (pb:Int)=99:=zo;unfold za at c;rw[bM o,bM N] at c;refine jc e @l @W ?_;refine a1r (aq4 P zo) ?_;rintro m w1 ⟨rfl,u,rfl,hu⟩;have X:u = ai\/∃ t y,u = aj t y:=by
   unfold CO at hu;split at hu<;>exact .inr ⟨_,_,hu⟩
  rcases X with rfl | ⟨ct,cy,rfl⟩;all_goals
   refine bH ?_;refine FY h (wd:=[99,111,110,115,116]) (nm:=[]) (con:=O (CO pb name n)) (s:=[s]) zs hu D lv ?_;rintro w3 q ⟨r,z,B⟩;refine bH ?_;exact c _ _ ⟨q,J,r,z,[_],yH,B⟩
end
abbrev oN(base:Nat)(w:Z)(v:Y)(l:List Nat):Prop:=w.ownsRow base 3 1 v l.length (uS l)
section
variable{base mb vb ba:Nat}{iv vv v:Y}{gk:List Y}{sb l:List Nat}{cut:Int}{w w':Z}{k:Mk}
def oN.one(s:Nat):oN w.heap.size (w.alloc (ae #[zi (s:Int)] 3)) (cS w.heap.size 1 1) [s]:=
 ⟨J,.inr ⟨w.heap.size,1,_,J,a1s _,sK J,a1s _,zd,J,J⟩⟩
theorem oN.nil:oN ba w bW []:=⟨J,yH⟩
theorem oN.bJ(h:oN ba w v l)(hk:∀ (g:Nat) (cs:Array Y),ba<=g->w.heap[g]?=aO cs 3->w'.heap[g]?=aO cs 3):oN ba w' v l:=by
 refine⟨h.1,?_⟩;rcases h.2 with a | ⟨g,cap,cur,a,b,d,c⟩
 .exact yH
 .exact .inr ⟨g,cap,cur,a,b,yH,c⟩
theorem oN.fr(h:oN ba w v l)(a:iA base mb vb w w')(hm:mb<ba)(hv:vb<ba):oN ba w' v l:=h.bJ fun g cs c b=>a.block _ _ b (by
 rintro (e | e | ⟨-,cs',e⟩)<;>grind)
def oN.own(h:oN ba w v l)(a:v.ownBlock=O b):ba<=b/\b<w.heap.size/\∃ cs,w.heap[b]?=aO cs 3:=by
 rcases h.2 with⟨c,-⟩| ⟨g,cap,cur,c,d,e,f⟩
 .rw[c] at a;cases a
 .rw[c] at a;injection a with a;exact yH
def oN.sin(h:oN ba w v l)(c:l=[]->v = bW):∃ bl,Jt w v l bl/\∀ b∈bl,v.ownBlock=O b:=by
 by_cases d:l=[]
 .exact⟨[],.inl zg,zg⟩
 .rcases h.2 with⟨rfl,e⟩| ⟨g,cap,cur,rfl,f,i,j,k,m,n⟩
  .grind
  .exact⟨[g],.inr yH,fun b a=>by rw[a1K] at a;subst a;rfl⟩
def oN.push(h:oN ba w v l)(f:ba<=w.heap.size)(k:l.length<=1000){s:Nat}{K:Y->Z->Prop}
  (g:∀ v' w',oN ba w' v' (l++[s])->bB (fun b _=>v.ownBlock=O b) w w'->(v'.ownBlock=v.ownBlock\/∀ j,v'.ownBlock=O j->w.heap.size<=j)->K v' w') :
  WR bbH (a1Y #[45,45] 45 #[v,cS w.heap.size 1 1]) (w.alloc (ae #[zi (s:Int)] 3)) K X:=by
 have a:Ext w (w.alloc (ae #[zi (s:Int)] 3)):=yF;refine aq3 (base:=ba) (jL a.ext h) (sK J) J zo (by rw[size_alloc];omega) fun v' w' m c hv=>g v' w' ?_ ?_ ?_
 .grind
 .have:=c.size;have s1:=a.size;refine⟨c.os.trans a.os,c.tape.trans a.tape,c.output.trans a.output,zo,fun b o i hm=>?_⟩;have d:=a.ext _ _ i;rw[c.block b (bg d) (fun e=>hm e.symm)];exact d
 exact yH
def fH.Hr(h:fH base mb vb iv vv gk sb cut w k){x:Option Nat}(d:bB (fun b _=>x=O b) w w')(hx:∀ b,x=O b->∃ cs,w.heap[b]?=aO cs 3)(e:∀ b∈sb,x≠O b)(hv:x≠O vb):fH base mb vb iv vv gk sb cut w' k:=by
 have f:∀ {b:Nat} {cs:Array Y} {T:Nat},T≠3->w.heap[b]?=aO cs T->w'.heap[b]?=aO cs T:=(by grind [bB.block]);refine⟨(by grind [cell]),h.lo,⟨h.row.1,?_⟩,h.ins.bJ (by grind [bB.block]),(by grind [vars,bB.block]),h.Ju,h.sep,h.Jv⟩;rcases h.row.2 with g | ⟨b,cap,cur,rfl,a,i,c⟩
 .exact yH
 .exact .inr ⟨b,cap,cur,J,a,yH,c⟩
def iA.own{x:Option Nat}(h:iA base mb vb w0 w)(a:bB (fun b _=>x=O b) w w')(hx:∀ b,x=O b->w0.heap.size<=b):iA base mb vb w0 w':=
 ⟨a.os.trans h.os,a.tape.trans h.tape,a.output.trans h.output,a1t h.size a.size,(by grind [bg,bB.block])⟩
theorem fH.pM(h:fH base mb vb iv vv gk sb cut w k)(c:iA base mb vb w w'){T:Nat}(a:w.heap[b]?=aO cs T)(d:T≠247/\T≠3/\T≠198):w'.heap[b]?=aO cs T:=c.block _ _ a (by
 rintro (e | e | ⟨-,cs',e⟩)
 .rw[e,h.cell] at a;grind
 .rw[e,h.vars.2] at a;grind
 grind)
theorem bB.ed{M:Nat->Obj->Prop}(h:Ext w w'):bB M w w':=yF
end
def P.Dk(k:Mk)(i:Nat)(ls:List Nat)(a:Mk):Prop:=∀ q,k.tg (i+q)=match a.tg q with
 | none=>V
 | some (l',k')=>O (ls++l',k')
def P.Dk.zero(k:Mk):P.Dk k 0 [] k:=fun q=>by
 grind
theorem P.Dk.step{k a:Mk}{s:Nat}(h:P.Dk k i ft zF)(b:zF.slot=O (s,a)):P.Dk k (i+1) (ft++[s]) a:=fun q=>by
 have:=h (q+1);rw[Nat.add_assoc,Nat.add_comm 1 q,this];have e:zF.tg (q+1)=match zF.slot with
  | none=>V
  | some (s,m)=>match m.tg q with
   | none=>V
   | some (l,m)=>O (s::l,m):=rfl
 grind
theorem P.Dk.none{k a:Mk}{i n:Nat}{ls:List Nat}(h:P.Dk k i ls a)(c:a.slot=a35)(hi:i<n):k.tg n=a35:=by
 have:=h (n-i-1+1);have b:i+(n-i-1+1)=n:=zo;rw[b] at this;rw[this];have e:a.tg (n-i-1+1)=match a.slot with
  | a35=>a35
  | some (s,m)=>match m.tg (n-i-1) with
   | a35=>a35
   | some (l,m)=>O (s::l,m):=rfl
 grind
def P.Dk.done{k:Mk}(h:P.Dk k i ft zF):k.tg i=O (ft,zF):=by
 have:=h 0;rw[Nat.add_zero] at this;grind [Mk.tg]
def U2:∀ (l:List Ex) (j:Nat) (a:j<l.length),fG (l.drop j)=iD l[j]+fG (l.drop (j+1))
 | x::l,0,_=>by simp [fG]
 | x::l,j+1,a=>by simpa using U2 l j zg
def Zk:∀ (l:List Ex) (j:Nat),fG (l.drop j)<=fG l
 | [],j=>zg
 | x::l,0=>zs
 | x::l,j+1=>by have:=Zk l j;grind [fG]
section
variable{base mb vb:Nat}{cut:Int}
def aq6:∀ (n:Nat) (x:Ex),iD x<=n->∀ {iv vv:Y} {gk:List Y} {sb:List Nat} {w:Z} {k:Mk} {N s:Nat} {v:Y},fH base mb vb iv vv gk sb cut w k->GK N k->N+iD x<=90000->ie k.vars.length x->eP (fun _=>True) w v x->s<64 ->
  Calls bbH 106 #[pp mb,v,zi (s:Nat)] w (uW base mb vb vv sb cut w (za x s k))
 | 0,x,hn,_,_,_,_,_,_,_,_,_,_,_,_,_,_,_=>by cases x;simp [iD] at hn
 | n+1,.mk kind name nn kv args,hn,iv,vv,gk,sb,w,k,N,s,v,h,hk,hN,dA,hx,aYU=>by
  have ih:=aq6 n;by_cases Zj:kind=99
  .suffices H:∀ R:Ending->Z->Prop,(∀ C w',uW base mb vb vv sb cut w (za (.mk kind name nn kv args) s k) C w'->R C w')->Calls bbH 106 #[pp mb,v,zi (s:Nat)] w R from H _ fun _ _ h=>h;intro R c;have nR:=hx;unfold ie at dA;obtain⟨o1,o2,o3,o4,o5,o6,o7,o8⟩:=dA;unfold eP at hx;obtain⟨b,av,di,rfl,hF,q,hs,ml⟩:=hx;have lb:=bg q;have GV:=ml.FF;obtain⟨aa,ac,rfl⟩:=hs.sl;have hc:=h.cell;have lc:=bg hc;obtain⟨kK,j4⟩:=h.vars;have lv:=bg j4;simp only[iD] at hn hN;have e1:(kind:Int)=99:=zo;unfold za at c;rw[bM zo,zip Zj] at c;refine aq0 ?_;refine dj q @e1 ?_;have dF:Ext w (w.alloc (ae #[zi (s:Int)] 3)):=yF;refine⟨fun m z w'=>∃ i ls l v1,z 65=zi ((i:Nat):Int)/\z 6=v1/\i<=args.length/\m=args.length-i/\ls.length=i/\P.Dk k i ls l/\fH base mb vb iv vv gk sb cut w' l/\iA base mb vb w w'/\oN w.heap.size w' v1 (s::ls)/\GK N l/\l.vars=k.vars/\∀ y∈ls,y<64,
    ⟨_,0,[],k,_,J,J,a1H _,J,J,P.Dk.zero k,h.ext dF,yF,oN.one s,hk,J,zg⟩,?_⟩
   intro m z d w3 hI;refine toPr ?_;obtain⟨i,ls,l,v1,o,M,hi,rfl,GZ,iQ,h1,Q,D,S,Qf,agK⟩:=hI;have h6':=M;obtain⟨ra,rc,rfl⟩:=gV D;have Rg:=Q.size;by_cases hlt:i<args.length
   .have qO:((i:Nat):Int)<(di.length:Int):=zo;refine dj o qO ?_;refine a1r (LO h1 S.slots) ?_;rintro e w4 ⟨r,a⟩;cases E:l.slot with
    | none=>
     rw[E] at a;rw[iQ.none E hlt] at c;have a:e=gP (.fault 4):=a;subst a;exact c _ _ ⟨yF,J⟩
    | some p=>
     obtain⟨s1,k2⟩:=p;rw[E] at a;obtain⟨he,h2⟩:e = ah (zi (s1:Nat))/\fH base mb vb iv vv gk sb cut w4 k2:=a;subst he;obtain⟨q1,q2,q3,-⟩:=S.slot E;refine cJ M ?_;have T:=D.fr r lc lv;have LR:=r.size;refine T.push zo zg fun v5 w5 Q3 iP yf=>?_;have B:=fun b=>T.own (b:=b);have yG:∀ b∈sb,(Value.slice ra (s::ls).length rc).ownBlock≠O b:=fun b q he=>by
      have:=(B b he).1;have:=h.ins.lt _ q;omega
     refine cJ o ?_;refine⟨_,?_,i+1,ls++[s1],k2,v5,by simp [jg],by simp [jg],zo,J,by simp;omega,iQ.step E,h2.Hr iP (fun b e=>(B b e).2.2) yG (fun e=>by have:=(B _ e).1;omega),iA.own (Q.trans r) iP (fun b e=>(B b e).1),Q3,q1,q3.trans Qf,?_⟩<;>grind
   .have mj:i=args.length:=zo;subst mj;have MN:=iQ.done;rw[MN] at c;have c:∀ C w',uW base mb vb vv sb cut w (th args ls (l.put [115,112,108,105,116] name V (s::ls))) C w'->R C w':=c;have eL:=h.pM Q q zd;have aPO:¬ (args.length:Int)<(di.length:Int):=zo;refine dB o M aPO eL ?_;obtain⟨bl,Hw,py⟩:=D.sin (fun h=>by cases h);have B:=fun b=>D.own (b:=b);refine a1r (LP h1 (wd:=[115,112,108,105,116]) (nm:=name) (cv:=ai) (con:=V) (s:=s::ls) J Hw (fun y hy=>?_) (a1t S.len zo)) ?_
    .have:=(B y (py y hy)).1;exact⟨fun hm=>by have:=h.ins.lt _ hm;omega,zo⟩
    rintro e w4 ⟨rfl,r,LS,LU,h4⟩;have F:=Q.trans r;have hb4:=h.pM F q zd;have T:=D.fr r lc lv;obtain⟨U,ri⟩:=cg (l.put [115,112,108,105,116] name V (s::ls));rw[<- ri] at h4 c;have aPQ:GK (N+1) U:=by
     rw[ri];exact S.put ⟨zs,o1,by simp [AH],zg,zg⟩
    have aYW:U.vars=k.vars:=by rw[ri];exact Qf
    refine cJ hb4 ?_;refine⟨fun m z w'=>∃ j f BV BW I W,z 85=zi ((j:Nat):Int)/\j<=args.length/\m=args.length-j/\fH base mb vb BV vv BW (sb++bl++I) cut w' f/\(∀ b∈I,w.heap.size<=b)/\iA base mb vb w w'/\oN w.heap.size w' (.slice ra (s::ls).length rc) (s::ls) /\
      th args ls U=th (args.drop j) (ls.drop j) f/\GK W f/\W+fG (args.drop j)<=N+1+fG args/\f.vars.length=k.vars.length,
     ⟨_,0,U,LS,LU,[],N+1,J,a1H _,J,zg,yH,F,T,J,aPQ,a1s _,zg⟩,?_⟩
    intro m z1 d1 w5 hI;refine toPr ?_;obtain⟨j,f,BV,BW,I,W,Oz,hj,rfl,h5,U3,K,U4,heq,yq,hNj,Dp⟩:=hI;have sz5:=K.size;by_cases L:j<args.length
    .have qO:j<di.length:=zo;obtain⟨sb1,Jc,e3,e4,e5,e6⟩:=hs.at' qO;obtain⟨u,e7,hu⟩:=eQ.at' j L ml;rw[e7] at e6;simp only[a1I,true_and] at e3;obtain⟨rfl,rfl⟩:=e3;have j6:((j:Nat):Int).toNat=j:=zo;have aPR:(((j:Nat):Int)+1).toNat=j+1:=zo;have Jw:=h.pM K e5 zd;have fM:((j:Nat):Int)<(di.length:Int):=zo;obtain⟨g,gc,gu,ge,gh,gt⟩:=TQ U4 (t:=j+1) zg;simp only[a1I,true_and] at ge;obtain⟨rfl,rfl⟩:=ge;have aYX:j<ls.length:=zo;have gt2:gu[j+1]?=O (zi ((ls[j]:Nat):Int)):=zg;have BA:(((j:Nat):Int)+1)<(((s::ls).length:Nat):Int):=zg;refine dB M Oz fM (zA @Jw (zA @e6 (zA @j6 (zA @aPR (zA @gh (zA @gt2 BA)))))) ?_;have FZ:ie f.vars.length args[j]:=by rw[Dp];exact o8.at L
     have Qn:=U2 args j L;have agP:=Zk args j;have WT:iD args[j]<=n:=zo;refine a1r (ih args[j] WT h5 yq zo FZ (h.ex K hu) (by grind [List.getElem_mem])) ?_;rintro e w6 ⟨qn,a⟩;have X:th (args.drop j) (ls.drop j) f=match za args[j] ls[j] f with
       | none=>V
       | some m=>th (args.drop (j+1)) (ls.drop (j+1)) m:=by
      grind [a1y,th]
     cases ht:za args[j] ls[j] f with
     | none=>
      rw[ht] at a X;rw[heq,X] at c;have a:e=gP (.fault 4):=a;subst a;exact c _ _ ⟨yF,J⟩
     | some k6=>
      rw[ht] at a X;obtain⟨he,uh,ui,Dq,Zn,Hx⟩:=a;subst he;obtain⟨g1,g2⟩:=adN _ _ _ _ _ ht yq (agK _ (List.getElem_mem _)) FZ;refine cJ Oz ?_;refine⟨_,?_,j+1,k6,uh,ui,I++Dq,W+iD args[j],by simp [jg],zo,J,by rw[<- a1M];exact Hx,fun y hy=>?_,K.trans qn,U4.fr qn lc lv,heq.trans X,g1,zo,g2.trans Dp⟩<;>grind
    .have L:j=args.length:=zo;subst L;have fM:¬ (args.length:Int)<(di.length:Int):=zo;rw[heq,a2o,th] at c;refine dj Oz fM ?_;refine c _ _ ⟨K,J,BV,BW,bl++I,fun y hy=>?_,zg⟩;exact yH
  .exact aPN h J Zj dA hx (a1t hk.len zo)
end
def aq8(base mb vb:Nat)(vv:Y)(sb:List Nat)(cut:Int)(w:Z)(r:Option (Nat×Mk))(e:Ending)(w':Z):Prop:=
 iA base mb vb w w'/\match r with
  | none=>e=gP (.fault 4)
  | some (s,k')=>e = ah (.int .i64 (s:Int))/\∃ a c bl,(∀ b∈bl,w.heap.size<=b)/\fH base mb vb a vv c (sb++bl) cut w' k'
def P.uX(k:Mk)(xs:List Ex)(i:Nat)(ls:List Nat)(a:Mk):Prop:=ti xs k=match ti (xs.drop i) a with
 | none=>V
 | some (l',k')=>O (ls++l',k')
def P.uX.zero(k:Mk)(xs:List Ex):P.uX k xs 0 [] k:=by
 grind [P.uX,ti]
theorem P.uX.eq{a:Mk}{xs:List Ex}{i:Nat}(hi:i<xs.length):ti (xs.drop i) a=match AG xs[i] a with
 | none=>V
 | some (s,m)=>match ti (xs.drop (i+1)) m with
  | none=>V
  | some (l,m)=>O (s::l,m):=by grind [a1y,ti]
theorem P.uX.step{k a:Mk}{xs:List Ex}{s:Nat}(h:P.uX k xs i ft zF)(hi:i<xs.length)(b:AG xs[i] zF=O (s,a)):P.uX k xs (i+1) (ft++[s]) a:=by
 grind [P.uX,P.uX.eq,ti,eq]
theorem P.uX.none{k a:Mk}{xs:List Ex}{i:Nat}{ls:List Nat}(h:P.uX k xs i ls a)(hi:i<xs.length)(b:AG xs[i] a=a35):ti xs k=a35:=by
 grind [P.uX,P.uX.eq,eq]
def P.uX.done{k:Mk}{xs:List Ex}(h:P.uX k xs xs.length ft zF):ti xs k=O (ft,zF):=by
 unfold P.uX at h;rw[h,a2o,ti];simp
def P.VK(k:Mk):Prop:=∀ j,j<k.vars.length->∃ t:Nat,k.vars[j]?=O (O t)
section
variable{base mb vb:Nat}{cut:Int}
theorem oN.aPS{s a:Nat}{l:List Nat}(h:oN pb w (cS g n c) (a::l))(d:w.heap[g]?=aO iB 3) :
  oN pb (bQ w g (ae (iB.setIfInBounds 0 (zi (s:Int))) 3 (0,0))) (cS g n c) (s::l):=by
 refine⟨zs,?_⟩;rcases h.2 with⟨b,-⟩| ⟨q,cap,cur,b,i,f,j,k,m,o⟩
 .grind
 .simp only[a1I,Option.some.injEq,Addr.mk.injEq,and_true] at b;obtain⟨rfl,rfl,rfl⟩:=b;rw[d] at f;cases f;refine .inr ⟨g,c,_,J,i,qz J (bg d),j,k,by simp [m],?_⟩;have e:(iB.setIfInBounds 0 (zi (s:Int))).toList=iB.toList.set 0 (zi (s:Int)):=zs;have p:iB.toList.take ((s::l).length*1)=uS (a::l):=o;grind [List.take_set]
def aq9:∀ (n:Nat) (x:Ex),iD x<=n->∀ {iv vv:Y} {gk:List Y} {sb:List Nat} {w:Z} {k:Mk} {N:Nat} {v:Y},fH base mb vb iv vv gk sb cut w k->GK N k->N+iD x<=90000->P.VK k->ie k.vars.length x->eP (fun _=>True) w v x ->
  Calls bbH 139 #[pp mb,v] w (aq8 base mb vb vv sb cut w (AG x k))
 | 0,x,hn,_,_,_,_,_,_,_,_,_,_,_,_,_,_=>by cases x;simp [iD] at hn
 | n+1,.mk kind name nn kv args,hn,iv,vv,gk,sb,w,k,N,v,h,hk,hN,sk,dA,hx=>by
  have ih:=aq9 n;suffices H:∀ R:Ending->Z->Prop,(∀ en w',aq8 base mb vb vv sb cut w (AG (.mk kind name nn kv args) k) en w'->R en w')->Calls bbH 139 #[pp mb,v] w R from H _ zg;intro R i;have nR:=hx;unfold ie at dA;obtain⟨o1,o2,o3,o4,o5,o6,o7,o8⟩:=dA;unfold eP at hx;obtain⟨b,av,di,rfl,hF,f,hs,ml⟩:=hx;have lb:=bg f;have GV:=ml.FF;obtain⟨aa,ac,rfl⟩:=hs.sl;have hc:=h.cell;have lc:=bg hc;obtain⟨kK,j4⟩:=h.vars;have lv:=bg j4;simp only[iD] at hn hN;have dD:Ext w w.drew:=yF;refine aPG ?_;unfold AG at i;by_cases Hd:kind=118
  .have M:(kind:Int)=118:=zo;have zm:=o4 Hd;obtain⟨t,ht⟩:=sk kv zm;rw[zip Hd,List.getD_eq_getElem?_getD,ht] at i;have vW:(kv:Int)<(k.vars.length:Int):=zo;have pJ:(kv:Int).toNat=kv:=zo;have jF:(k.vars.map ue).toArray[kv]?=O (zi ((t:Nat):Int)):=by grind [ue]
   have LQ:(k.vars.map ue).toArray.size=k.vars.length:=zs;obtain⟨a,hA⟩:=cg ((k.vars.map ue).toArray);rw[<- hA] at j4 jF LQ;rw[kK] at hc;refine dB f @M hc (zA j4 (zA jF @pJ)) ?_;exact i _ _ ⟨yF,J,iv,gk,[],yH,by rw[List.append_nil];exact h.ext dD⟩
  .have M:¬ (kind:Int)=118:=zo;rw[bM Hd] at i;by_cases vE:kind=99
   .have e2:(kind:Int)=99:=zo;have e2b:¬ (kind:Int)≠99:=zo;rw[bM zo] at i;refine jc f @M @e2 ?_;have dF:Ext w (w.alloc (ae #[zi 0] 3)):=yF;refine⟨fun m z w'=>∃ j o BV BW q Q ls v1,z 44=zi ((j:Nat):Int)/\z 6=v1/\j<=args.length/\m=args.length-j/\ls.length=j/\fH base mb vb BV vv BW (sb++q) cut w' o/\(∀ b∈q,w.heap.size<=b/\v1.ownBlock≠O b)/\iA base mb vb w w'/\oN w.heap.size w' v1 (0::ls) /\
      P.uX k args j ls o/\GK Q o/\Q+fG (args.drop j)<=N+fG args/\o.vars=k.vars/\∀ y∈ls,y<64,
     ⟨_,0,k,iv,gk,[],N,[],_,J,J,a1H _,J,J,by rw[List.append_nil];exact h.ext dF,yH,yF,oN.one 0,P.uX.zero k args,hk,a1s _,J,zg⟩,?_⟩
    intro m z d w3 hI;refine toPr ?_;obtain⟨j,o,BV,BW,q,Q,ls,v1,OA,S,hj,rfl,GZ,h3,U3,qo,T,mL,U,hNj,Dp,agK⟩:=hI;obtain⟨ra,rc,rfl⟩:=gV T;have Rg:=qo.size;have W:=fun b=>T.own (b:=b);by_cases r:j<args.length
    .have qO:j<di.length:=zo;obtain⟨sb1,Jc,e3,e4,e5,e6⟩:=hs.at' qO;obtain⟨u,e7,hu⟩:=eQ.at' j r ml;rw[e7] at e6;simp only[a1I,true_and] at e3;obtain⟨rfl,rfl⟩:=e3;have j6:((j:Nat):Int).toNat=j:=zo;have Jw:=h.pM qo e5 zd;have fM:((j:Nat):Int)<(di.length:Int):=zo;refine dB OA fM @Jw (zA @e6 @j6) ?_;have FZ:ie o.vars.length args[j]:=by rw[Dp];exact o8.at r
     have Qn:=U2 args j r;have agP:=Zk args j;refine a1r (ih args[j] zo h3 U zo (by grind [P.VK]) FZ (h.ex qo hu)) ?_;rintro e C ⟨l,c⟩;have LR:=l.size;cases ht:AG args[j] o with
     | none=>
      rw[ht] at c;rw[mL.none r ht] at i;have c:e=gP (.fault 4):=c;subst c;refine bH ?_;exact i _ _ ⟨yF,J⟩
     | some p=>
      obtain⟨s1,E⟩:=p;rw[ht] at c;obtain⟨he,LS,LU,nO,OB,D⟩:=c;subst he;obtain⟨g1,g2,g3⟩:=adP _ _ _ _ _ ht U FZ;have F:=T.fr l lc lv;have ara:=fun b=>F.own (b:=b);have aPT:=D.ins.lt;refine cJ S ?_;have X:∀ b∈sb++q++nO,(Value.slice ra (0::ls).length rc).ownBlock≠O b:=fun b f he=>by
       rcases a1F.1 f with f | f
       .rcases a1F.1 f with f | f
        .have:=(W b he).1;have:=h.ins.lt _ f;omega
        grind
       grind
      refine F.push zo zg fun v5 I Q3 K yf=>?_;refine cJ OA ?_;refine⟨_,?_,j+1,E,LS,LU,q++nO,Q+iD args[j],ls++[s1],v5,zg,zg,zo,J,zg,?_,fun y hy=>?_,iA.own yF K yH,Q3,mL.step r ht,g1,zo,g2.trans Dp,fun y hy=>?_⟩
      .omega
      .rw[<- a1M];exact D.Hr K yH X zg
      .exact yH
      grind
    .have r:j=args.length:=zo;subst r;have fM:¬ (args.length:Int)<(di.length:Int):=zo;rw[mL.done] at i;simp only at i;refine dj OA fM ?_;refine a1r (LO h3 U.slots) ?_;rintro e C ⟨l,c⟩;have LR:=l.size;cases B:o.slot with
     | none=>
      rw[B] at c i;have c:e=gP (.fault 4):=c;subst c;exact i _ _ ⟨yF,J⟩
     | some p=>
      obtain⟨s1,E⟩:=p;rw[B] at c i;obtain⟨he,D⟩:e = ah (zi (s1:Nat))/\fH base mb vb BV vv BW (sb++q) cut C E:=c;subst he;obtain⟨q1,q2,q3,-⟩:=U.slot B;have F:=T.fr l lc lv;have ara:=fun b=>F.own (b:=b);obtain⟨g,gc,gu,ge,gh,gt⟩:=TQ F (t:=0) zs;simp only[a1I,true_and] at ge;obtain⟨rfl,rfl⟩:=ge;have lg:=bg gh;have gsz:0<gu.size:=by
       grind
      have rf:(0:Int)<(((0::ls).length:Nat):Int):=zg;obtain⟨I,nE⟩:=cg (bQ C g (ae (gu.setIfInBounds 0 (zi (s1:Int))) 3 (0,0)));have U4:oN w.heap.size I (.slice (O ⟨g,0,V⟩) (0::ls).length rc) (s1::ls):=by grind [oN.aPS]
      have K:bB (fun b _=>O g=O b) C I:=yF;have X:∀ b∈sb++q,O g≠O b:=fun b f he=>by
       rcases a1F.1 f with f | f
       .have:=(W b he).1;have:=h.ins.lt _ f;omega
       .exact(U3 b f).2 he
      have h5:=D.Hr K yH X (fun e=>by have:=(W _ e).1;omega);have ql:iA base mb vb w I:=iA.own yF K (fun b e=>(W b e).1);have NZ:=h.pM ql f zd;refine jc S @gh @gsz ?_;rw[<- nE];refine dj S NZ ?_;rw[<- nE];obtain⟨bl,Hw,py⟩:=U4.sin (fun h=>by cases h);refine a1r (LP h5 (wd:=[109,97,107,101]) (nm:=name) (cv:=ai) (con:=V) (s:=s1::ls) J Hw (fun y hy=>?_) (a1t q1.len zo)) ?_
      .have h1:=py y hy;exact⟨fun hm=>X y hm h1,zg⟩
      rintro e w6 ⟨rfl,qn,uh,ui,Hx⟩;have aPU:=U4.fr qn lc lv;obtain⟨g',gc',gu',L,gh',gt'⟩:=TQ aPU (t:=0) zs;simp only[a1I,Option.some.injEq,Addr.mk.injEq,and_true,true_and] at L;obtain⟨rfl,-,rfl⟩:=L;have gt2:gu'[0]?=O (zi (s1:Int)):=zg;refine jc S @gh' @gt2 ?_;refine i _ _ ⟨yF,J,uh,ui,q++bl,fun y hy=>?_,zg⟩;exact yH
   .have e2:¬ (kind:Int)=99:=zo;rw[zip vE] at i;refine jc f @M @e2 ?_;refine a1r (LO h hk.slots) ?_;rintro e C ⟨l,c⟩;have LR:=l.size;cases B:k.slot with
    | none=>
     rw[B] at c i;have c:e=gP (.fault 4):=c;subst c;exact i _ _ ⟨l,J⟩
    | some p=>
     obtain⟨s1,E⟩:=p;rw[B] at c i;obtain⟨he,D⟩:e = ah (zi (s1:Nat))/\fH base mb vb iv vv gk sb cut C E:=c;subst he;obtain⟨q1,q2,q3,-⟩:=hk.slot B;refine bH ?_;refine a1r (aq4 (h.ex l nR) zo) ?_;rintro en I ⟨rfl,u,rfl,hu⟩;have uQ:u = ai\/∃ t y,u = aj t y:=by
      unfold CO at hu;split at hu<;>exact .inr ⟨_,_,hu⟩
     rcases uQ with rfl | ⟨ct,cy,rfl⟩;all_goals
      refine bH ?_;refine FY D (wd:=[112,117,116]) (nm:=[]) (con:=O (CO kind name nn)) (s:=[s1]) zs hu (a1t q1.len zo) zo ?_;rintro w6 qn ⟨uh,ui,Hx⟩;refine bH ?_;exact i _ _ ⟨yF,J,uh,ui,[_],yH,Hx⟩
end
def yt:List P.In->Nat
 | []=>0
 | i::r=>(if i.s=[] then 0 else 1)+yt r
def agQ:∀ (a b:List P.In),yt (a++b)=yt a+yt b
 | [],b=>by simp [yt]
 | i::a,b=>by
  rw[List.cons_append,yt,yt,agQ a b];omega
def qV.Rh{w:Z}:∀ {l:List P.In} {vs:List Y} {sb:List Nat},qV w vs l sb->sb.length=yt l
 | [],_,_,⟨_,a⟩=>by subst a;rfl
 | i::r,vs,sb,⟨cv,sv,bl,rest,f,g,a,h,c,d⟩=>by
  rw[a,List.length_append,qV.Rh d,yt];rcases c with⟨e,-,rfl⟩| ⟨b,cap,cs,rfl,e,-⟩<;>grind
theorem qV.land{w:Z}{i:P.In}{r:List P.In}{s2:List Nat}{g:Nat}(hi:i.s≠[]):∀ {l:List P.In} {vs:List Y} {s1:List Nat},qV w vs (l++i::r) (s1++g::s2)->s1.length=yt l->(s1++g::s2).Nodup ->
  ∃ cap cs,vs[l.length*4+3]?=O (cS g i.s.length cap)/\w.heap[g]?=aO cs 3/\cs.size=cap/\i.s.length<=cap/\cs.toList.take i.s.length=uS i.s /\
   ∀ (w':Z) (cs':Array Y) (s':List Nat),(∀ b∈s1++g::s2,b≠g->∀ cs:Array Y,w.heap[b]?=aO cs 3->w'.heap[b]?=aO cs 3)->w'.heap[g]?=aO cs' 3->cs'.size=cap->s'.length=i.s.length->cs'.toList.take s'.length=uS s' ->
    qV w' vs (l++{ i with s:=s' }::r) (s1++g::s2)
 | [],vs,s1,h,c,m=>by
  have z:s1=[]:=List.length_eq_zero_iff.1 c;subst z;obtain⟨cv,sv,bl,rest,n,d,f,o,j,t⟩:=h;rcases j with⟨k,-,-⟩| ⟨b,cap,cs,rfl,k,rfl,B,C,D,E⟩
  .exact yH
  .have f:g::s2=b::n:=f;cases f;refine⟨cap,cs,zg,B,C,D,E,fun w' cs' s' hk p q u ht=>?_⟩;have L:g ∉ s2:=by
    grind
   refine⟨cv,_,[g],rest,s2,d,J,o,.inr ⟨g,cap,cs',J,fun e=>?_,zg,p,q,zg,ht⟩,(by grind [List.mem_cons_of_mem,bJ])⟩;grind
 | x::l,vs,s1,h,c,m=>by
  obtain⟨cv,sv,bl,rest,n,d,f,o,j,t⟩:=h;have key:∃ a,s1=bl++a/\n=a++g::s2/\a.length=yt l:=by
   rw[yt] at c;rcases j with⟨k,-,rfl⟩| ⟨b,cap,cs,rfl,k,-⟩
   .grind
   .rw[bM k] at c;cases s1 with
    | nil=>grind
    | cons y a=>
     grind
  obtain⟨a,rfl,rfl,F⟩:=key;rw[a1M] at m;have H:=List.nodup_append.1 m;obtain⟨cap,cs,q1,q2,q3,q4,I,K⟩:=qV.land hi t F H.2.1;refine⟨cap,cs,?_,q2,q3,q4,I,fun w' cs' s' hk p q u ht=>?_⟩
  .rw[d,List.length_cons,show(l.length+1)*4+3=4+(l.length*4+3) from by omega];grind
  .refine⟨cv,sv,bl,rest,a++g::s2,d,a1M _ _ _,o,j.bJ fun b M cs hx=>?_,K w' cs' s' yH p q u ht⟩;exact yH
def F0(mb vb:Nat)(w:Z)(f:Y)(j:Nat)(sb:List Nat):Prop:=∃ xb a,f = .func (.func 160) #[] #[pp xb,pp a] /\
 w.heap[xb]?=aO #[pp mb] 245/\w.heap[a]?=aO #[zi (j:Int)] 3/\a≠vb/\a ∉ sb
section
variable{base mb vb ba:Nat}{iv vv v:Y}{gk:List Y}{sb l:List Nat}{cut:Int}{w w':Z}{k:Mk}
theorem F0.fr{f:Y}(c:F0 mb vb w f j sb)(h:fH base mb vb iv vv gk sb cut w k)(d:iA base mb vb w w')(l:∀ b∈bl,w.heap.size<=b):F0 mb vb w' f j (sb++bl):=by
 obtain⟨xb,g,rfl,m,a,i,n⟩:=c;refine⟨xb,g,J,(by grind [fH.pM]),d.block _ _ a ?_,i,fun hm=>?_⟩
 .rintro (e | e | ⟨-,cs',e⟩)
  .rw[e,h.cell] at a;grind
  .omega
  grind
 grind
def F0.Hr{f:Y}(c:F0 mb vb w f j sb)(m:g∈sb)(hx:∃ cs,w.heap[g]?=aO cs 3)(a:bB (fun b _=>O g=O b) w w'):F0 mb vb w' f j sb:=by
 obtain⟨xb,d,rfl,h,i,k,l⟩:=c;refine⟨xb,d,J,a.block _ _ h (fun e=>?_),a.block _ _ i (fun e=>?_),k,l⟩<;>grind
def U5(h:fH base mb vb iv vv gk sb cut w k)(l:k.ins.length<=100000)(wd:Bs):Calls bbH 138 #[pp mb,aT wd] w fun e w'=>iA base mb vb w w' /\
  ∃ b c g f,e = ah f/\w.heap.size<=g/\fH base mb vb b vv c (sb++[g]) cut w' (k.put wd [] V [0])/\F0 mb vb w' f k.ins.length (sb++[g]):=by
 suffices H:∀ R:Ending->Z->Prop,(∀ e w',(iA base mb vb w w'/\∃ b c g f,e = ah f/\w.heap.size<=g/\fH base mb vb b vv c (sb++[g]) cut w' (k.put wd [] V [0])/\F0 mb vb w' f k.ins.length (sb++[g]))->R e w') ->
  Calls bbH 138 #[pp mb,aT wd] w R from H _ fun _ _ h=>h
 intro R m;have d:=h.cell;have lc:=bg d;have lv:=bg h.vars.2;obtain⟨x,pc,n⟩:=gV h.row;refine aPH ?_;have i:=d;rw[n] at i;refine cJ i ?_;obtain⟨a,o⟩:=cg (bQ ((w.alloc (ae #[pp mb] 245)).alloc (ae #[zi 0] 3)) (w.heap.size+1) (ae #[zi (k.ins.length:Int)] 3));rw[<- o,size_alloc];have j:Ext w a:=yF;have p:a.heap.size=w.heap.size+1+1:=yH;have g1:a.heap[w.heap.size]?=aO #[pp mb] 245:=yH;have g2:a.heap[w.heap.size+1]?=aO #[zi (k.ins.length:Int)] 3:=yH;have q:=h.ext j;have r:F0 mb vb a (.func (.func 160) #[] #[pp w.heap.size,pp (w.heap.size+1)]) k.ins.length sb:=⟨_,_,J,g1,g2,zo,fun hm=>by have:=h.ins.lt _ hm;omega⟩;rw[<- p];refine FY q (wd:=wd) (nm:=[]) (cv:=ai) (con:=V) (s:=[0]) zs J l zo ?_;rintro y t ⟨b,c,u⟩;refine bH ?_;exact m _ _ ⟨(bB.ed j).trans t,b,c,a.heap.size,_,J,zo,u,(by grind [a1K,F0.fr])⟩
def U6{f:Y}{l r:List P.In}{i:P.In}{s1 s2:List Nat}(h:fH base mb vb iv vv gk sb cut w k)(H:F0 mb vb w f j sb)(I:k.ins=l++i::r)(hl:l.length=j)(hi:i.s.length=1)(m:sb=s1++g::s2)(L:s1.length=yt l){K:Ending->Z->Prop}
  (M:∀ w',bB (fun b _=>O g=O b) w w'->(∃ cs,w.heap[g]?=aO cs 3)->fH base mb vb iv vv gk sb cut w' (k.land j)->K (ah (ak #[])) w') :
  ∃ x y,f = .func (.func 160) #[] #[x,y]/\Calls bbH 160 #[x,y] w K:=by
 have N:i.s≠[]:=zg;have z:=h.ins;rw[I,m] at z;have a:=h.Jv;rw[m] at a;obtain⟨cap,cs,q1,q2,q3,q4,q5,Q⟩:=z.land N L a;obtain⟨xb,yb,rfl,g1,g2,g3,g4⟩:=H;refine⟨_,_,J,?_⟩;have B:=h.cell;have lg:=bg q2;obtain⟨pa,pc,zy⟩:=gV h.row;have mj:k.ins.length=l.length+1+r.length:=zg;have R:(j:Int)<(k.ins.length:Int):=zo;have S:(j:Int).toNat=j:=zo;have C:=h.row;rcases C.2 with⟨n,D⟩| ⟨U,o,cur,n,D,E,W,X,h6,h7⟩
 .omega
 have F:=B;rw[n] at F;have lib:=bg E;have nJ:cur[j*4+3]?=O (cS g i.s.length cap):=by
  grind
 have WT:0<cs.size:=zo;refine aPI ?_;refine dB @g1 @g2 F (zA E (zA R (zA @S (zA nJ (zA hi (zA @q2 WT)))))) ?_;obtain⟨c,p⟩:=cg (bQ w.drew g (ae (cs.setIfInBounds 0 (zi (k.ins.length:Int))) 3 (0,0)));rw[<- p];have d:bB (fun b _=>O g=O b) w c:=yF;have q:c.heap[g]?=aO (cs.setIfInBounds 0 (zi (k.ins.length:Int))) 3:=yH;have hb:∀ {b:Nat} {cs:Array Y} {T:Nat},T≠3->w.heap[b]?=aO cs T->c.heap[b]?=aO cs T:=yH;have LC:g∈sb:=zg;have t:(k.land j).ins=l++{ i with s:=[k.ins.length] }::r:=by
  unfold Mk.land;simp only;have:=XR (fun x:P.In=>{ x with s:=[k.ins.length] }) l (i::r) 0;grind
 have hlen:(k.land j).ins.length=k.ins.length:=zg;refine M c d yH ⟨hb zo B,h.lo,?_,?_,⟨h.vars.1,d.block _ _ h.vars.2 (fun e=>?_)⟩,h.Ju,h.sep,h.Jv⟩
 .rw[hlen];exact⟨C.1,.inr ⟨U,o,cur,n,D,yH,W,X,h6,h7⟩⟩
 .rw[t,m];refine Q c _ [k.ins.length] yH q zg zg ?_;have e:(cs.setIfInBounds 0 (zi (k.ins.length:Int))).toList=cs.toList.set 0 (zi (k.ins.length:Int)):=zs;have u:cs.toList.take [k.ins.length].length=uS i.s:=zg;rw[e,List.take_set,u];obtain⟨x,hx⟩:=List.length_eq_one_iff.1 hi;grind
 .injection e with e;exact h.sep g LC e
end
open Go.Proofs.YtoegidfbnkaabaaGreatDoor.Sx
section
variable{p0 p1 p2 p3 p4 p5 p6 p7:Y}{w:Z}{R:Ending->Z->Prop}
def U8:=cz w R [p0,p1,p2] (gc [(3,[15,27]),(14,[73])] [] [28,45,60,61,66,67,74,82,83,110,111,157,158]) Tryz.func107
end
theorem arh{α:Type}(f:α->α):∀ (a b:List α) (q:Nat),q<a.length->(a++b).modify q f=a.modify q f++b
 | [],b,q,h=>zg
 | x::a,b,0,h=>zs
 | x::a,b,q+1,h=>by
  rw[List.cons_append,a2L,a2L,arh f a b q zg];rfl
def P.ari(b:Bd)(c:Nat)(m:Mk):tl [b] c m=lC b c m:=by
 unfold tl;cases lC b c m with
 | none=>rfl
 | some m=>simp [tl]
def P.arj{m:Mk}{w:Bs}(a:j<m.ins.length):∃ X,((m.put w [] V [0]).land j).ins=X++[⟨w,[],V,[0]⟩]/\X.length=m.ins.length:=by
 grind [Mk.land,Mk.put,arh]
section
variable{base mb vb:Nat}{cut:Int}
def fH.bd{k:Mk}(h:fH base mb vb iv vv gk ft cut w k)(a:iA base mb vb w w'){x:Bd}(hx:dJ (fun _=>True) w v x):dJ (fun _=>True) w' v x:=dJ.mono zg (h.lF a) _ _ hx
abbrev U9(base mb vb:Nat)(cut:Int)(n:Nat):Prop:=∀ (x:Bd),iR x<=n->∀ {iv vv:Y} {gk:List Y} {sb:List Nat} {w:Z} {k:Mk} {N M cs:Nat} {v:Y},fH base mb vb iv vv gk sb cut w k->GK N k->N+4*iR x<=90000->P.VK k->eX k.vars.length M x->dJ (fun _=>True) w v x->cs<64 ->
 Calls bbH 107 #[pp mb,v,zi (cs:Nat)] w (uW base mb vb vv sb cut w (lC x cs k))
theorem VK.of{k k':Mk}(h:P.VK k)(hv:k'.vars=k.vars):P.VK k':=by grind [P.VK]
def ark:∀ (l:List Bd) (j:Nat) (a:j<l.length),ju (l.drop j)=iR l[j]+ju (l.drop (j+1))
 | x::l,0,_=>by simp [ju]
 | x::l,j+1,a=>by simpa using ark l j zg
def arl:∀ (l:List Bd) (j:Nat),ju (l.drop j)<=ju l
 | [],j=>zg
 | x::l,0=>zs
 | x::l,j+1=>by have:=arl l j;grind [ju]
def arn:∀ (l:List Bd),l.length<=ju l
 | []=>zs
 | x::l=>by have:=arn l;grind [anf,ju]
def aro(ih:U9 base mb vb cut n){name:Bs}{args:List Ex}(U:iR (.mk pb name args gr)<=n+1)(W:pb=33\/pb=44){k:Mk}{cs:Nat}
  (h:fH base mb vb iv vv gk ft cut w k) (hk:GK N k) (X:N+4*iR (.mk pb name args gr)<=90000) (sk:P.VK k) (B:eX k.vars.length M (.mk pb name args gr)) (hx:dJ (fun _=>True) w v (.mk pb name args gr)) (C:cs<64) :
  Calls bbH 107 #[pp mb,v,zi (cs:Nat)] w (uW base mb vb vv ft cut w (lC (.mk pb name args gr) cs k)):=by
 suffices H:∀ R:Ending->Z->Prop,(∀ D w',uW base mb vb vv ft cut w (lC (.mk pb name args gr) cs k) D w'->R D w')->Calls bbH 107 #[pp mb,v,zi (cs:Nat)] w R from H _ fun _ _ h=>h;intro R c;unfold eX at B;obtain⟨o1,o2,o3,o4,o5,o6,o7,o8⟩:=B;unfold dJ at hx;obtain⟨b,av,pv,vs,us,rfl,-,E,gx,Es,F,I⟩:=hx;have hc:=h.cell;have lv:=bg h.vars.2;have uO:=I.Hh;obtain⟨pa,pc,rfl⟩:=F.sl;simp only[iR] at U X;have j3:=arn gr;refine U8 ?_;unfold lC at c;rcases W with rfl | rfl
 .rw[zip rfl] at c;refine cJ E ?_;refine FY h (wd:=kE) (nm:=[]) (cv:=ai) (con:=V) (s:=[cs]) zs J (a1t hk.len zo) lv ?_;rintro w3 hG ⟨uf,ug,h3⟩;refine bH ?_;exact c _ _ ⟨hG,J,uf,ug,[_],yH,h3⟩
 .rw[bM zd,zip rfl] at c;refine cJ E ?_;refine⟨fun m z w'=>∃ j a p q g l,z 73=zi ((j:Nat):Int)/\j<=gr.length/\m=gr.length-j/\fH base mb vb p vv q (ft++g) cut w' a/\(∀ b∈g,w.heap.size<=b)/\iA base mb vb w w' /\
    tl gr cs k=tl (gr.drop j) cs a/\GK l a/\l+4*ju (gr.drop j)<=N+4*ju gr/\a.vars=k.vars,
   ⟨_,0,k,iv,gk,[],N,J,a1H _,J,zg,yH,yF,J,hk,a1s _,J⟩,?_⟩
  intro m z1 d1 w5 hI;refine toPr ?_;obtain⟨j,a,p,q,g,l,r,hj,rfl,K,U3,i,heq,L,hNj,t⟩:=hI;have sz5:=i.size;by_cases d:j<gr.length
  .have qO:j<us.length:=zo;obtain⟨sb1,Jc,Q,e4,e5,S⟩:=F.at' qO;obtain⟨u,e7,hu⟩:=gy.C5 j d I;rw[e7] at S;simp only[a1I,true_and] at Q;obtain⟨rfl,rfl⟩:=Q;have j6:((j:Nat):Int).toNat=j:=zo;have Jw:=h.pM i e5 zd;have x:((j:Nat):Int)<(us.length:Int):=zo;refine dB r x @Jw (zA @S @j6) ?_;have Qn:=ark gr j d;have agP:=arl gr j;have T:eX a.vars.length M gr[j]:=by rw[t];exact o8.at d
   refine a1r (ih gr[j] zo K L zo (VK.of sk t) T (h.bd i hu) C) ?_;rintro e w6 ⟨qn,f⟩;have o:tl (gr.drop j) cs a=match lC gr[j] cs a with
     | none=>V
     | some m=>tl (gr.drop (j+1)) cs m:=by
    rw[a1y d,tl];rfl
   cases ht:lC gr[j] cs a with
   | none=>
    rw[ht] at f o;rw[heq,o] at c;have f:e=gP (.fault 4):=f;subst f;exact c _ _ ⟨yF,J⟩
   | some k6=>
    rw[ht] at f o;obtain⟨he,uh,ui,Dq,Zn,Hx⟩:=f;subst he;obtain⟨g1,g2⟩:=Ea _ _ _ _ _ ht L T C zo;refine cJ r ?_;refine⟨_,?_,j+1,k6,uh,ui,g++Dq,l+4*iR gr[j],by simp [jg],zo,J,by rw[<- a1M];exact Hx,fun y hy=>?_,i.trans qn,heq.trans o,g1,zo,g2.trans t⟩<;>grind
  .have d:j=gr.length:=zo;subst d;have x:¬ (gr.length:Int)<(us.length:Int):=zo;rw[heq,a2o,tl] at c;refine dj r x ?_;exact c _ _ ⟨i,J,p,q,g,U3,K⟩
end
