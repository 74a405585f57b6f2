/- A part of one proof (KG1, KG2, KG3, KG4, KG5, KG6, KG7, KG8, ShX3b, KG9). -/
import Derived.Test.YtoegidfbnkaabaaGreatDoorPkMAY
set_option linter.all false
set_option maxRecDepth 100000
set_option maxHeartbeats 8000000
open Option renaming some → O, none → V
open Go renaming Value → Y, World → Z
open Bool renaming true → G
open Go.Obj renaming cells → ah
open Go.Ending renaming returned → ai
open Go.Value renaming nilIface → aj, iface → ak, tuple → aq
open Go.Calls renaming mono → a3L
open Nat renaming le_refl → a3O, le_trans → a3Q, zero_le → a33
open List renaming drop_eq_getElem_cons → a3U, mem_append → a3Z, mem_singleton → a35, append_assoc → a36, drop_length → a4E, modify_succ_cons → a44
open Go.Value.slice renaming injEq → a34
open Option renaming map_eq_some_iff → a4c, none → a6p
open Go.Builtin renaming append_ → a4e
open Go.Proofs.Tryz renaming prog → bdU
namespace Go.Proofs.YtoegidfbnkaabaaGreatDoor
open P
open Go.RowKit Sx
variable{F:Nat->Prop}{M N b base c g i j k m n pb:Nat}{X:Y->Z->Prop}{bl fz:List Nat}{cs iF:Array Y}{iv v vv:Y}{gr xs:List Y}{gz:List Bd}{Ae:Mk}{w w' w0:Z}{wd:Bs}
def Tryz.aRg:(Tryz.prog.info? 198).map (fun i=>(i.zero,i.size,i.bytes))=O (O (.agg #[aW [],aW [],aj,bW]),4,72):=zk
def ahS(c:w.ownsRow base 198 4 v n xs){l:List Y}
  (d:w.heap[b]?=aO l.toArray 198) (p:l.length=4) (q:∀ u∈l,u.oneCell'=G)
  (r:n<=900000000) (f:base<=w.heap.size) {K:Y->Z->Prop}
  (h:∀ v' w',w'.ownsRow base 198 4 v' (n+1) (xs++l)->w.grownBy w' v.ownBlock->(v'.ownBlock=v.ownBlock\/∀ k,v'.ownBlock=O k->w.heap.size<=k)->K v' w') :
  WR bdU (a4e #[194,194] 194 #[v,cS b 1 m]) w K X:=by
 obtain⟨i,hi,a⟩:=a4c.1 Tryz.aRg;simp only[Prod.mk.injEq] at a;obtain⟨g,j,o⟩:=a;exact Sx.DY (m:=1) (t:=194) (e:=198) zk hi g j o J zo c d zo zg zo zo f h
def JZ(w:Z)(v:Y)(s:List Nat)(bl:List Nat):Prop:=(s=[]/\v = bW/\bl=[])\/∃ b cap cs,bl=[b]/\s≠[]/\v = cS b s.length cap/\w.heap[b]?=aO cs 3/\cs.size=cap/\s.length<=cap/\cs.toList.take s.length=vi s
def q9(w:Z):List Y->List P.In->List Nat->Prop
 | vs,[],sb=>vs=[]/\sb=[]
 | vs,i::r,sb=>∃ cv sv bl rest a,vs=[.string (bs i.word),.string (bs i.name),cv,sv]++rest/\sb=bl++a/\yA cv i.const/\JZ w sv i.s bl/\q9 w rest r a
def uu:Option Nat->Y
 | none=>.int .i64 (-1)
 | some k=>.int .i64 (k:Int)
structure fL(base mb vb:Nat)(iv vv:Y)(gr:List Y)(sb:List Nat)(cut:Int)(w:Z)(k:Mk):Prop where
 cell:w.heap[mb]?=aO #[zi (k.slots:Nat),iv,vv,zi cut] 247
 lo:base<=mb
 row:w.ownsRow base 198 4 iv k.ins.length gr
 ins:q9 w gr k.ins sb
 vars:vv = cS vb k.vars.length k.vars.length/\w.heap[vb]?=O (ah (k.vars.map uu).toArray 3 (0,0))
 J0:base<=vb
 sep:∀ b∈sb,b≠vb
 J1:sb.Nodup
def GM(base mb vb:Nat)(b:Nat)(o:Obj):Prop:=b=mb\/b=vb\/(base<=b/\∃ cs,o = ah cs 198 (0,0))
abbrev iE(base mb vb:Nat)(w w':Z):Prop:=bD (GM base mb vb) w w'
theorem JZ.bL{s:List Nat}(h:JZ w v s bl)(hk:∀ b∈bl,∀ cs:Array Y,w.heap[b]?=aO cs 3->w'.heap[b]?=aO cs 3):JZ w' v s bl:=by
 rcases h with h | ⟨b,cap,cs,rfl,a,c,d,e⟩
 .exact .inl h
 .exact .inr yH
theorem q9.bL{w w':Z}:∀ {l:List P.In} {vs:List Y} {sb:List Nat},q9 w vs l sb->(∀ b∈sb,∀ cs:Array Y,w.heap[b]?=aO cs 3->w'.heap[b]?=aO cs 3)->q9 w' vs l sb
 | [],vs,sb,h,_=>h
 | i::r,vs,sb,⟨cv,sv,bl,rest,a,c,d,e,g,f⟩,hk=>⟨cv,sv,bl,rest,a,c,d,e,(by grind [List.mem_append_left,JZ.bL]),q9.bL f yH⟩
def q9.snoc{w:Z}{i:P.In}{l0:List Y}{b0:List Nat}:∀ {l:List P.In} {vs:List Y} {sb:List Nat},q9 w vs l sb->q9 w l0 [i] b0->q9 w (vs++l0) (l++[i]) (sb++b0)
 | [],vs,sb,⟨b,c⟩,a=>zg
 | x::r,vs,sb,⟨cv,sv,bl,rest,d,b,c,e,f,g⟩,a=>⟨cv,sv,bl,rest++l0,d++b0,zg,zg,e,f,q9.snoc g a⟩
section
variable{base mb vb:Nat}{iv vv:Y}{gr:List Y}{sb:List Nat}{cut:Int}{w w':Z}{k:Mk}
def fL.own(h:fL base mb vb iv vv gr sb cut w k)(d:bD (fun b _=>b=mb) w w'){a:Int}(f:w'.heap[mb]?=aO #[zi (n:Nat),iv,vv,zi a] 247):fL base mb vb iv vv gr sb a w' { k with slots:=n }:=by
 have j:∀ {b:Nat} {cs:Array Y} {T:Nat},T≠247->w.heap[b]?=aO cs T->w'.heap[b]?=aO cs T:=fun{b cs T} l c=>d.block b _ c fun e=>by
  rw[e,h.cell] at c;grind
 refine⟨f,h.lo,⟨h.row.1,?_⟩,h.ins.bL yH,(by grind [vars]),h.J0,h.sep,h.J1⟩
 .rcases h.row.2 with m | ⟨b,cap,cur,rfl,g,o,i⟩
  .exact yH
  .exact .inr ⟨b,cap,cur,J,g,yH,i⟩
def Mv(h:fL base mb vb iv vv gr sb cut w k)(r:k.slots<=64):Calls bdU 104 #[pp mb] w fun e w'=>iE base mb vb w w'/\match k.slot with
  | none=>e=gW (.fault 4)
  | some (s,k')=>e = ai (.int .i64 (s:Nat))/\fL base mb vb iv vv gr sb cut w' k':=by
 have f:=h.cell;have lc:=bn f;refine aRb ?_;obtain⟨w1,j⟩:=cj (bR w mb (ah #[zi ((k.slots+1:Nat):Int),iv,vv,zi cut] 247));have g:bD (fun b _=>b=mb) w w1:=yF;have a:w1.heap[mb]?=aO #[zi ((k.slots+1:Nat):Int),iv,vv,zi cut] 247:=yH;have t:=h.own g (n:=k.slots+1) a;have l:iE base mb vb w w1:=g.mono fun b o _ e=>.inl e;have m:=bn a;have p:(k.slots:Int)+1=((k.slots+1:Nat):Int):=zo;have q:bR w mb (ah (pF #[zi (k.slots:Nat),iv,vv,zi cut] 0 (Value.int .i64 ((k.slots:Int)+1)).cells.toList) 247 (0,0))=w1:=by rw[j,<- p];rfl
 refine cJ f ?_;rw[q];unfold Mk.slot;by_cases i:64<k.slots+1
 .rw[zip i];have c:((k.slots+1:Nat):Int) > 64:=zo;refine⟨fun _ _=>False,?_,by rintro _ _ h;exact h.elim⟩;refine dA a c ?_;exact⟨l,J⟩
 .rw[bU i];have c:¬ ((k.slots+1:Nat):Int) > 64:=zo;refine⟨fun _ w'=>w'=w1,?_,?_⟩
  .exact mv a c
  .rintro s w2 rfl d;refine cJ a ?_;exact yF
def Mw(h:fL base mb vb iv vv gr sb cut w k){nm:Bs}{cv sv:Y}{con:Option Tm}{s:List Nat}(m:yA cv con)(I:JZ w sv s bl)(hd:∀ b∈bl,b ∉ sb/\b≠vb)(hn:k.ins.length<=100000) :
  Calls bdU 105 #[pp mb,aW wd,aW nm,cv,sv] w fun e w'=>e = ai (aq #[])/\iE base mb vb w w'/\∃ R S,fL base mb vb R vv S (sb++bl) cut w' (k.put wd nm con s):=by
 have y:=h.cell;have lc:=bn y;have ui:=h.lo;obtain⟨pa,pc,z⟩:=gZ h.row;have L:cv = aj\/∃ t u,cv = ak t u:=by
  cases con with
  | none=>exact .inl m
  | some t=>
   cases t with
   | atom s=>exact .inr ⟨_,_,m⟩
   | int s=>exact .inr ⟨_,_,m⟩
   | var i=>exact m.elim
   | comp s l=>exact m.elim
 obtain⟨sa,sn,sc,A⟩:∃ a n c,sv = .slice a n c:=by
  rcases I with⟨-,d,-⟩| ⟨b,cap,cs,-,-,d,-⟩<;>exact zg
 have Mc:cv.oneCell'=true:=by rcases L with rfl | ⟨_,_,rfl⟩<;>rfl
 refine aRa ?_;have M:=y;rw[z] at M;obtain⟨l0,B⟩:∃ l0:List Y,l0=[aW wd,aW nm,cv,sv]:=⟨_,J⟩;obtain⟨w1,C⟩:=cj (w.alloc (ah l0.toArray 198 (0,0)));have p:Ext w w1:=yF;have s1:w1.heap.size=w.heap.size+1:=yH;have g1:w1.heap[w.heap.size]?=aO l0.toArray 198:=yH;rw[B] at C;have main:∀ {K:Y->Z->Prop} {X:Y->Z->Prop},(∀ v' w3,w3.ownsRow base 198 4 v' (k.ins.length+1) (gr++l0)->w1.grownBy w3 iv.ownBlock->(v'.ownBlock=iv.ownBlock\/∀ j,v'.ownBlock=O j->w1.heap.size<=j)->K v' w3) ->
   WR bdU (a4e #[194,194] 194 #[iv,cS w.heap.size 1 1]) w1 K X:=fun U=>
  ahS (jK p.ext h.row) g1 zg (by
   rw[B];intro u hu;simp only[List.mem_cons,List.not_mem_nil,or_false] at hu;rcases hu with rfl | rfl | rfl | rfl
   .rfl
   .rfl
   .omega
   .rw[A];rfl) zo zo U
 rcases L with rfl | ⟨ct,cu,rfl⟩;all_goals
  rw[A] at C;refine dA M A ?_;rw[<- C,<- z];refine main fun v' w3 D q hv=>?_;obtain⟨N,pc',W⟩:=gZ D;subst W;have P:∀ {b:Nat} {cs:Array Y} {T:Nat},T≠198->w.heap[b]?=aO cs T->w3.heap[b]?=aO cs T:=fun{b cs T} hT f=>by
   have r:=p.ext _ _ f;rw[q.block b (bn r) (fun he=>?_)]
   .exact r
   .rcases h.row.2 with⟨d,-⟩| ⟨b',cap,cur,d,E,g,F⟩
    .rw[d] at he;cases he
    .rw[d] at he;cases he;rw[f] at g;injection g with g;injection g with _ g _;exact hT g
  have c3:=P zd y;have l3:=bn c3;have x:=c3;rw[z] at x;refine cJ @x ?_;obtain⟨Q,H⟩:=cj (bR w3 mb (ah #[zi (k.slots:Nat),.slice N (k.ins.length+1) pc',vv,zi cut] 247));rw[<- H];have yW:∀ {b:Nat} {cs:Array Y} {T:Nat},T≠247->w3.heap[b]?=aO cs T->Q.heap[b]?=aO cs T:=yH;have Mn:=q.size;refine⟨?_,.slice N (k.ins.length+1) pc',gr++l0,?_⟩
  .rw[H];refine⟨q.os.trans p.os,q.tape.trans p.tape,q.output.trans p.output,by rw[vy];omega,fun b o f hm=>?_⟩;have r:=p.ext _ _ f;rw[jg (fun e=>hm (.inl e)),q.block b (bn r) (fun he=>?_)]
   .exact r
   .rcases h.row.2 with⟨d,-⟩| ⟨b',cap,cur,d,E,g,F⟩
    .rw[d] at he;cases he
    .rw[d] at he;cases he;rw[f] at g;exact hm (.inr zg)
  .refine⟨by rw[H];exact qI J l3,h.lo,?_,?_,?_,h.J0,fun b f=>?_,?_⟩
   .show Q.ownsRow base 198 4 _ (k.ins++[_]).length _;rw[List.length_append,List.length_singleton];refine⟨D.1,?_⟩;rcases D.2 with d | ⟨b,cap,cur,d,E,g,F⟩
    .exact yH
    .exact .inr ⟨b,cap,cur,d,E,yH,F⟩
   .refine q9.snoc (h.ins.bL yH) ⟨_,sv,bl,[],[],by rw[B];rfl,zg,m,(by grind [JZ.bL]),J,J⟩
   .exact⟨h.vars.1,yW zd (P zd h.vars.2)⟩
   .rcases a3Z.1 f with f | f
    .exact h.sep b f
    .exact zg
   .rw[List.nodup_append];refine⟨h.J1,?_,zg⟩;rcases I with⟨-,-,rfl⟩| ⟨b,cap,cs,rfl,-⟩<;>simp
end
def Tryz.asq:(Tryz.prog.info? 3).map (fun i=>(i.zero,i.size,i.bytes))=O (O (zi 0),1,8):=zk
def ahT(d:w.ownsRow base 3 1 v n xs){a:Y}
  (f:w.heap[b]?=aO #[a] 3) (p:a.oneCell'=G)
  (q:n<=100000000) (g:base<=w.heap.size) {K:Y->Z->Prop}
  (h:∀ v' w',w'.ownsRow base 3 1 v' (n+1) (xs++[a])->w.grownBy w' v.ownBlock->(v'.ownBlock=v.ownBlock\/∀ k,v'.ownBlock=O k->w.heap.size<=k)->K v' w') :
  WR bdU (a4e #[45,45] 45 #[v,cS b 1 m]) w K X:=by
 obtain⟨i,hi,c⟩:=a4c.1 Tryz.asq;simp only[Prod.mk.injEq] at c;obtain⟨j,l,o⟩:=c;refine Sx.DY (m:=1) (t:=45) (e:=3) zk hi j l o J zo d f J (fun u hu=>?_) zo zo g h;grind
def asr{name:Bs}{n:Int}{args:List Ex}(h:eQ F w v (.mk pb name n k args))(hk:pb<256) :
  Calls bdU 137 #[v] w fun e w'=>w'=w/\∃ u,e = ai u/\yA u (O (Dc pb name n)):=by
 unfold eQ at h;obtain⟨b,av,dk,rfl,f,c,g,hx⟩:=h;refine aRc ?_;by_cases d:pb=110
 .have a:(pb:Int)=110:=zo;refine dA c @a ?_;refine⟨_,J,?_⟩;unfold Dc;rw[zip d];rfl
 .have a:¬ (pb:Int)=110:=zo;refine dA c @a ?_;refine⟨_,J,?_⟩;unfold Dc;rw[bU d];rfl
def vn(base mb vb:Nat)(vv:Y)(sb:List Nat)(cut:Int)(w:Z)(r:Option Mk)(e:Ending)(w':Z):Prop:=
 iE base mb vb w w'/\match r with
  | none=>e=gW (.fault 4)
  | some k'=>e = ai (aq #[])/\∃ a c bl,(∀ b∈bl,w.heap.size<=b)/\fL base mb vb a vv c (sb++bl) cut w' k'
section
variable{base mb vb:Nat}{iv vv:Y}{gr:List Y}{sb:List Nat}{cut:Int}{w w':Z}{k:Mk}
theorem q9.lt{w:Z}:∀ {l:List P.In} {vs:List Y} {sb:List Nat},q9 w vs l sb->∀ b∈sb,b<w.heap.size
 | [],_,_,⟨_,c⟩,b,a=>yH
 | i::r,vs,sb,⟨cv,sv,bl,rest,f,g,c,h,d,e⟩,b,a=>by
  rw[c] at a;rcases a3Z.1 a with a | a
  .rcases d with⟨-,-,rfl⟩| ⟨j,cap,cs,rfl,-,-,k,-⟩<;>grind
  .exact q9.lt e b a
theorem fL.ext(h:fL base mb vb iv vv gr sb cut w k)(a:Ext w w'):fL base mb vb iv vv gr sb cut w' k:=
 ⟨a.ext _ _ h.cell,h.lo,jK a.ext h.row,h.ins.bL (by grind [bD.ext]),(by grind [vars,bD.ext]),h.J0,h.sep,h.J1⟩
def Gu(h:fL base mb vb iv vv gr sb cut w k){nm:Bs}{cv:Y}{con:Option Tm}{s:List Nat}(d:s≠[])(f:yA cv con)(g:k.ins.length<=100000)(q:vb<w.heap.size){K:Ending->Z->Prop}
  (i:∀ w',iE base mb vb w w'->(∃ j l,fL base mb vb j vv l (sb++[w.heap.size]) cut w' (k.put wd nm con s))->K (ai (aq #[])) w') :
  Calls bdU 105 #[pp mb,aW wd,aW nm,cv,cS w.heap.size s.length s.length] (w.alloc (ah (vi s).toArray 3 (0,0))) K:=by
 have a:Ext w (w.alloc (ah (vi s).toArray 3 (0,0))):=yF;have m:(vi s).length=s.length:=zs;have n:(w.alloc (ah (vi s).toArray 3 (0,0))).heap[w.heap.size]?=O (ah (vi s).toArray 3 (0,0)):=yH;refine a3L (Mw (h.ext a) (bl:=[w.heap.size]) f (.inr ⟨w.heap.size,s.length,_,J,d,J,n,zs,a3O _,by rw[<- m];exact List.take_length⟩) (fun b c=>?_) g) ?_
 .rw[a35] at c;subst c;exact⟨fun hm=>by have:=h.ins.lt _ hm;omega,zo⟩
 .rintro e w' ⟨rfl,o,p⟩;exact i w' ((bD.mono a fun _ _ _ h=>h.elim).trans o) p
def fL.ass(h:fL base mb vb iv vv gr sb cut w k){s:Nat}(e:j<k.vars.length)(a:vb<w.heap.size):fL base mb vb iv vv gr sb cut (bR w vb (ah ((k.vars.map uu).toArray.setIfInBounds j (zi (s:Nat))) 3 (0,0))) { k with vars:=k.vars.set j (O s) } /\
  iE base mb vb w (bR w vb (ah ((k.vars.map uu).toArray.setIfInBounds j (zi (s:Nat))) 3 (0,0))):=by
 obtain⟨f,g⟩:=h.vars;have hk:∀ {b:Nat} {cs:Array Y} {T:Nat},(T≠3\/b≠vb)->w.heap[b]?=aO cs T->(bR w vb (ah ((k.vars.map uu).toArray.setIfInBounds j (zi (s:Nat))) 3 (0,0))).heap[b]?=aO cs T:=yH;refine⟨⟨(by grind [cell]),h.lo,⟨h.row.1,?_⟩,h.ins.bL (by grind [sep]),.intro ?_ ?_,h.J0,h.sep,h.J1⟩,(bD.refl _ _).bR (.inl fun _=>.inr (.inl J))⟩
 .rcases h.row.2 with i | ⟨b,cap,cur,rfl,c,l,d⟩
  .exact yH
  .exact .inr ⟨b,cap,cur,J,c,yH,d⟩
 .grind
 .rw[qI J a];grind [List.map_set,uu]
theorem fL.lL(h:fL base mb vb iv vv gr sb cut w k)(d:iE base mb vb w w'):∀ (b:Nat) (o:Obj),True->D0 o->w.heap[b]?=O o->w'.heap[b]?=O o:=fun b o _ c a=>by
 cases o with
 | cells cs t z=>
  obtain⟨ht,rfl⟩:=c;refine d.block _ _ a ?_;rintro (e | e | ⟨-,cs',e⟩)
  .rw[e,h.cell] at a;grind
  .rw[e,h.vars.2] at a;grind
  grind
 | _=>exact c.elim
def fL.ex(h:fL base mb vb iv vv gr sb cut w k)(a:iE base mb vb w w'){x:Ex}(hx:eQ (fun _=>True) w v x):eQ (fun _=>True) w' v x:=eQ.mono zg (h.lL a) _ _ hx
end
section
variable{base mb vb:Nat}{iv vv:Y}{gr:List Y}{sb:List Nat}{cut:Int}{w w':Z}{k:Mk}
def aRj(h:fL base mb vb iv vv gr sb cut w k){x:Ex}{name:Bs}{n:Int}{kv:Nat}{args:List Ex}(L:x = .mk pb name n kv args)(M:pb≠99)(B:ij k.vars.length x)(hx:eQ (fun _=>True) w v x){s:Nat}(C:k.ins.length<=100000) :
  Calls bdU 106 #[pp mb,v,zi (s:Nat)] w (vn base mb vb vv sb cut w (zy x s k)):=by
 suffices H:∀ R:Ending->Z->Prop,(∀ l w',vn base mb vb vv sb cut w (zy x s k) l w'->R l w')->Calls bdU 106 #[pp mb,v,zi (s:Nat)] w R from H _ fun _ _ h=>h;intro R a;subst L;have N:=hx;unfold ij at B;obtain⟨o1,o2,X,o4,o5,o6,o7,o8⟩:=B;unfold eQ at hx;obtain⟨b,av,dk,rfl,hF,d,hs,my⟩:=hx;have lb:=bn d;have e:=h.cell;have lc:=bn e;obtain⟨P,f⟩:=h.vars;have lv:=bn f;have g:Ext w w.drew.drew:=yF;refine asn ?_;by_cases m:pb=118
 .have i:(pb:Int)=118:=zo;have Q:=o4 m;have wO:(kv:Int)<(k.vars.length:Int):=zo;have o:(kv:Int).toNat=kv:=zo;have c:(k.vars.map uu).toArray[kv]?=O (uu k.vars[kv]):=zg;have S:(k.vars.map uu).toArray.size=k.vars.length:=zs;have D:=fun s=>h.ext g |>.ass (s:=s) Q (by rw[Cq,Cq];exact lv);obtain⟨A,E⟩:=cj ((k.vars.map uu).toArray);rw[<- E] at f c S;rw[<- E] at D;unfold zy at a;rw[zip m] at a;have T:k.vars.getD kv V=k.vars[kv]:=zg;rw[T] at a;rw[P] at e;cases F:k.vars[kv] with
  | none=>
   rw[F] at a c;have c:A[kv]?=O (zi (-1)):=c;refine dG d @i e (zA f (zA c @o)) ?_;obtain⟨r1,r2⟩:=D s;exact a _ _ ⟨yF,J,iv,gr,[],yH,zg⟩
  | some j=>
   rw[F] at a c;have c:A[kv]?=O (zi (j:Int)):=c;refine dG d @i e (zA f (zA c @o)) ?_;refine⟨fun w'=>Ext w w',g,?_⟩;rw[jI];refine cQ (pq mb 2) (fun w' I=>eR) ?_;refine cQ (cS vb k.vars.length k.vars.length) (fun w' I=>by have K:=I.ext _ _ e;have:=bn K;exact eV K) ?_;refine dG d f c @o ?_;refine⟨g.alloc _,?_⟩;refine Gu (h.ext g) (wd:=[115,97,109,101]) (nm:=[]) (cv:=aj) (con:=V) (s:=[s,j]) zs J C (yH) ?_;rintro w3 p ⟨q,r,z⟩;refine bG ?_;exact a _ _ ⟨(bD.mono g fun _ _ _ h=>h.elim).trans p,J,q,r,[w.heap.size],yH,z⟩
 .have i:¬ (pb:Int)=118:=zo;have U:¬ (pb:Int)=99:=zo;unfold zy at a;rw[bU m,bU M] at a;refine jh d @i @U ?_;refine a3L (asr N zo) ?_;rintro l w1 ⟨rfl,u,rfl,hu⟩;have W:u = aj\/∃ t y,u = ak t y:=by
   unfold Dc at hu;split at hu<;>exact .inr ⟨_,_,hu⟩
  rcases W with rfl | ⟨ct,cy,rfl⟩;all_goals
   refine bG ?_;refine Gu h (wd:=[99,111,110,115,116]) (nm:=[]) (con:=O (Dc pb name n)) (s:=[s]) zs hu C lv ?_;rintro w3 p ⟨q,r,z⟩;refine bG ?_;exact a _ _ ⟨p,J,q,r,[_],yH,z⟩
end
abbrev oS(base:Nat)(w:Z)(v:Y)(l:List Nat):Prop:=w.ownsRow base 3 1 v l.length (vi l)
section
variable{base mb vb ba:Nat}{iv vv v:Y}{gr:List Y}{sb l:List Nat}{cut:Int}{w w':Z}{k:Mk}
def oS.one(s:Nat):oS w.heap.size (w.alloc (ah #[zi (s:Int)] 3)) (cS w.heap.size 1 1) [s]:=
 ⟨J,.inr ⟨w.heap.size,1,_,J,a3O _,tW J,a3O _,zd,J,J⟩⟩
theorem oS.nil:oS ba w bW []:=⟨J,yH⟩
theorem oS.bL(h:oS ba w v l)(hk:∀ (g:Nat) (cs:Array Y),ba<=g->w.heap[g]?=aO cs 3->w'.heap[g]?=aO cs 3):oS ba w' v l:=by
 refine⟨h.1,?_⟩;rcases h.2 with a | ⟨g,cap,cur,a,b,d,c⟩
 .exact yH
 .exact .inr ⟨g,cap,cur,a,b,yH,c⟩
theorem oS.fr(h:oS ba w v l)(a:iE base mb vb w w')(hm:mb<ba)(hv:vb<ba):oS ba w' v l:=h.bL fun g cs c b=>a.block _ _ b (by
 rintro (e | e | ⟨-,cs',e⟩)<;>grind)
def oS.own(h:oS ba w v l)(a:v.ownBlock=O b):ba<=b/\b<w.heap.size/\∃ cs,w.heap[b]?=aO cs 3:=by
 rcases h.2 with⟨c,-⟩| ⟨g,cap,cur,c,d,e,f⟩
 .rw[c] at a;cases a
 .rw[c] at a;injection a with a;exact yH
def oS.sin(h:oS ba w v l)(c:l=[]->v = bW):∃ bl,JZ w v l bl/\∀ b∈bl,v.ownBlock=O b:=by
 by_cases d:l=[]
 .exact⟨[],.inl zg,zg⟩
 .rcases h.2 with⟨rfl,e⟩| ⟨g,cap,cur,rfl,f,i,j,k,m,n⟩
  .grind
  .exact⟨[g],.inr yH,fun b a=>by rw[a35] at a;subst a;rfl⟩
def oS.push(h:oS ba w v l)(f:ba<=w.heap.size)(k:l.length<=1000){s:Nat}{K:Y->Z->Prop}
  (g:∀ v' w',oS ba w' v' (l++[s])->bD (fun b _=>v.ownBlock=O b) w w'->(v'.ownBlock=v.ownBlock\/∀ j,v'.ownBlock=O j->w.heap.size<=j)->K v' w') :
  WR bdU (a4e #[45,45] 45 #[v,cS w.heap.size 1 1]) (w.alloc (ah #[zi (s:Int)] 3)) K X:=by
 have a:Ext w (w.alloc (ah #[zi (s:Int)] 3)):=yF;refine ahT (base:=ba) (jK a.ext h) (tW J) J zo (by rw[size_alloc];omega) fun v' w' m c hv=>g v' w' ?_ ?_ ?_
 .grind
 .have:=c.size;have s1:=a.size;refine⟨c.os.trans a.os,c.tape.trans a.tape,c.output.trans a.output,zo,fun b o i hm=>?_⟩;have d:=a.ext _ _ i;rw[c.block b (bn d) (fun e=>hm e.symm)];exact d
 exact yH
def fL.Ip(h:fL base mb vb iv vv gr sb cut w k){x:Option Nat}(d:bD (fun b _=>x=O b) w w')(hx:∀ b,x=O b->∃ cs,w.heap[b]?=aO cs 3)(e:∀ b∈sb,x≠O b)(hv:x≠O vb):fL base mb vb iv vv gr sb cut w' k:=by
 have f:∀ {b:Nat} {cs:Array Y} {T:Nat},T≠3->w.heap[b]?=aO cs T->w'.heap[b]?=aO cs T:=(by grind [bD.block]);refine⟨(by grind [cell]),h.lo,⟨h.row.1,?_⟩,h.ins.bL (by grind [bD.block]),(by grind [vars,bD.block]),h.J0,h.sep,h.J1⟩;rcases h.row.2 with g | ⟨b,cap,cur,rfl,a,i,c⟩
 .exact yH
 .exact .inr ⟨b,cap,cur,J,a,yH,c⟩
def iE.own{x:Option Nat}(h:iE base mb vb w0 w)(a:bD (fun b _=>x=O b) w w')(hx:∀ b,x=O b->w0.heap.size<=b):iE base mb vb w0 w':=
 ⟨a.os.trans h.os,a.tape.trans h.tape,a.output.trans h.output,a3Q h.size a.size,(by grind [bn,bD.block])⟩
theorem fL.pR(h:fL base mb vb iv vv gr sb cut w k)(c:iE base mb vb w w'){T:Nat}(a:w.heap[b]?=aO cs T)(d:T≠247/\T≠3/\T≠198):w'.heap[b]?=aO cs T:=c.block _ _ a (by
 rintro (e | e | ⟨-,cs',e⟩)
 .rw[e,h.cell] at a;grind
 .rw[e,h.vars.2] at a;grind
 grind)
theorem bD.ea{M:Nat->Obj->Prop}(h:Ext w w'):bD M w w':=yF
end
def P.DJ(k:Mk)(i:Nat)(ls:List Nat)(a:Mk):Prop:=∀ q,k.tF (i+q)=match a.tF q with
 | none=>V
 | some (l',k')=>O (ls++l',k')
def P.DJ.zero(k:Mk):P.DJ k 0 [] k:=fun q=>by
 grind
theorem P.DJ.step{k a:Mk}{s:Nat}(h:P.DJ k i fz Ae)(b:Ae.slot=O (s,a)):P.DJ k (i+1) (fz++[s]) a:=fun q=>by
 have:=h (q+1);rw[Nat.add_assoc,Nat.add_comm 1 q,this];have e:Ae.tF (q+1)=match Ae.slot with
  | none=>V
  | some (s,m)=>match m.tF q with
   | none=>V
   | some (l,m)=>O (s::l,m):=rfl
 grind
theorem P.DJ.none{k a:Mk}{i n:Nat}{ls:List Nat}(h:P.DJ k i ls a)(c:a.slot=a6p)(hi:i<n):k.tF n=a6p:=by
 have:=h (n-i-1+1);have b:i+(n-i-1+1)=n:=zo;rw[b] at this;rw[this];have e:a.tF (n-i-1+1)=match a.slot with
  | a6p=>a6p
  | some (s,m)=>match m.tF (n-i-1) with
   | a6p=>a6p
   | some (l,m)=>O (s::l,m):=rfl
 grind
def P.DJ.done{k:Mk}(h:P.DJ k i fz Ae):k.tF i=O (fz,Ae):=by
 have:=h 0;rw[Nat.add_zero] at this;grind [Mk.tF]
def VX:∀ (l:List Ex) (j:Nat) (a:j<l.length),fJ (l.drop j)=iG l[j]+fJ (l.drop (j+1))
 | x::l,0,_=>by simp [fJ]
 | x::l,j+1,a=>by simpa using VX l j zg
def Z8:∀ (l:List Ex) (j:Nat),fJ (l.drop j)<=fJ l
 | [],j=>zg
 | x::l,0=>zs
 | x::l,j+1=>by have:=Z8 l j;grind [fJ]
section
variable{base mb vb:Nat}{cut:Int}
def asu:∀ (n:Nat) (x:Ex),iG x<=n->∀ {iv vv:Y} {gr:List Y} {sb:List Nat} {w:Z} {k:Mk} {N s:Nat} {v:Y},fL base mb vb iv vv gr sb cut w k->GK N k->N+iG x<=90000->ij k.vars.length x->eQ (fun _=>True) w v x->s<64 ->
  Calls bdU 106 #[pp mb,v,zi (s:Nat)] w (vn base mb vb vv sb cut w (zy x s k))
 | 0,x,W,_,_,_,_,_,_,_,_,_,_,_,_,_,_,_=>by cases x;simp [iG] at W
 | n+1,.mk kind name nn kv args,W,iv,vv,gr,sb,w,k,N,s,v,h,hk,hN,X,hx,a0V=>by
  have ih:=asu n;by_cases Z7:kind=99
  .suffices H:∀ R:Ending->Z->Prop,(∀ A w',vn base mb vb vv sb cut w (zy (.mk kind name nn kv args) s k) A w'->R A w')->Calls bdU 106 #[pp mb,v,zi (s:Nat)] w R from H _ fun _ _ h=>h;intro R c;have pG:=hx;unfold ij at X;obtain⟨o1,o2,o3,o4,o5,o6,o7,o8⟩:=X;unfold eQ at hx;obtain⟨b,av,dk,rfl,hF,o,hs,my⟩:=hx;have lb:=bn o;have Er:=my.ER;obtain⟨aa,ac,rfl⟩:=hs.sl;have hc:=h.cell;have lc:=bn hc;obtain⟨kR,j9⟩:=h.vars;have lv:=bn j9;simp only[iG] at W hN;have e1:(kind:Int)=99:=zo;unfold zy at c;rw[bU zo,zip Z7] at c;refine asn ?_;refine dA o @e1 ?_;have dF:Ext w (w.alloc (ah #[zi (s:Int)] 3)):=yF;refine⟨fun m z w'=>∃ i ls l v1,z 65=zi ((i:Nat):Int)/\z 6=v1/\i<=args.length/\m=args.length-i/\ls.length=i/\P.DJ k i ls l/\fL base mb vb iv vv gr sb cut w' l/\iE base mb vb w w'/\oS w.heap.size w' v1 (s::ls)/\GK N l/\l.vars=k.vars/\∀ y∈ls,y<64,
    ⟨_,0,[],k,_,J,J,a33 _,J,J,P.DJ.zero k,h.ext dF,yF,oS.one s,hk,J,zg⟩,?_⟩
   intro m z d w3 hI;refine toPr ?_;obtain⟨i,ls,l,v1,yG,K,hi,rfl,Hv,iW,h1,L,B,M,Q3,ahU⟩:=hI;have h6':=K;obtain⟨ra,rc,rfl⟩:=gZ B;have R5:=L.size;by_cases hlt:i<args.length
   .have qV:((i:Nat):Int)<(dk.length:Int):=zo;refine dA yG qV ?_;refine a3L (Mv h1 M.slots) ?_;rintro e w4 ⟨q,a⟩;cases C:l.slot with
    | none=>
     rw[C] at a;rw[iW.none C hlt] at c;have a:e=gW (.fault 4):=a;subst a;exact c _ _ ⟨yF,J⟩
    | some p=>
     obtain⟨s1,k2⟩:=p;rw[C] at a;obtain⟨he,h2⟩:e = ai (zi (s1:Nat))/\fL base mb vb iv vv gr sb cut w4 k2:=a;subst he;obtain⟨q1,q2,q3,-⟩:=M.slot C;refine cJ K ?_;have Q:=B.fr q lc lv;have My:=q.size;refine Q.push zo zg fun v5 w5 RS iV yr=>?_;have r:=fun b=>Q.own (b:=b);have yX:∀ b∈sb,(Value.slice ra (s::ls).length rc).ownBlock≠O b:=fun b o he=>by
      have:=(r b he).1;have:=h.ins.lt _ o;omega
     refine cJ yG ?_;refine⟨_,?_,i+1,ls++[s1],k2,v5,by simp [jo],by simp [jo],zo,J,by simp;omega,iW.step C,h2.Ip iV (fun b e=>(r b e).2.2) yX (fun e=>by have:=(r _ e).1;omega),iE.own (L.trans q) iV (fun b e=>(r b e).1),RS,q1,q3.trans Q3,?_⟩<;>grind
   .have mw:i=args.length:=zo;subst mw;have Nz:=iW.done;rw[Nz] at c;have c:∀ A w',vn base mb vb vv sb cut w (tG args ls (l.put [115,112,108,105,116] name V (s::ls))) A w'->R A w':=c;have eO:=h.pR L o zd;have aRk:¬ (args.length:Int)<(dk.length:Int):=zo;refine dG yG K aRk eO ?_;obtain⟨bl,Iw,pJ⟩:=B.sin (fun h=>by cases h);have r:=fun b=>B.own (b:=b);refine a3L (Mw h1 (wd:=[115,112,108,105,116]) (nm:=name) (cv:=aj) (con:=V) (s:=s::ls) J Iw (fun y hy=>?_) (a3Q M.len zo)) ?_
    .have:=(r y (pJ y hy)).1;exact⟨fun hm=>by have:=h.ins.lt _ hm;omega,zo⟩
    rintro e w4 ⟨rfl,q,Mz,MA,h4⟩;have D:=L.trans q;have hb4:=h.pR D o zd;have Q:=B.fr q lc lv;obtain⟨S,rq⟩:=cj (l.put [115,112,108,105,116] name V (s::ls));rw[<- rq] at h4 c;have aRm:GK (N+1) S:=by
     rw[rq];exact M.put ⟨zs,o1,by simp [Dd],zg,zg⟩
    have a0X:S.vars=k.vars:=by rw[rq];exact Q3
    refine cJ hb4 ?_;refine⟨fun m z w'=>∃ j f Ca Cb E T,z 85=zi ((j:Nat):Int)/\j<=args.length/\m=args.length-j/\fL base mb vb Ca vv Cb (sb++bl++E) cut w' f/\(∀ b∈E,w.heap.size<=b)/\iE base mb vb w w'/\oS w.heap.size w' (.slice ra (s::ls).length rc) (s::ls) /\
      tG args ls S=tG (args.drop j) (ls.drop j) f/\GK T f/\T+fJ (args.drop j)<=N+1+fJ args/\f.vars.length=k.vars.length,
     ⟨_,0,S,Mz,MA,[],N+1,J,a33 _,J,zg,yH,D,Q,J,aRm,a3O _,zg⟩,?_⟩
    intro m z1 d1 w5 hI;refine toPr ?_;obtain⟨j,f,Ca,Cb,E,T,Pa,hj,rfl,h5,VY,F,VZ,heq,yD,hNj,DL⟩:=hI;have sz5:=F.size;by_cases I:j<args.length
    .have qV:j<dk.length:=zo;obtain⟨sb1,JJ,e3,e4,e5,e6⟩:=hs.at' qV;obtain⟨u,e7,hu⟩:=eS.at' j I my;rw[e7] at e6;simp only[a34,true_and] at e3;obtain⟨rfl,rfl⟩:=e3;have kf:((j:Nat):Int).toNat=j:=zo;have aRn:(((j:Nat):Int)+1).toNat=j+1:=zo;have J2:=h.pR F e5 zd;have fH:((j:Nat):Int)<(dk.length:Int):=zo;obtain⟨g,gc,gu,ge,gh,gt⟩:=UL VZ (t:=j+1) zg;simp only[a34,true_and] at ge;obtain⟨rfl,rfl⟩:=ge;have a0Y:j<ls.length:=zo;have gt2:gu[j+1]?=O (zi ((ls[j]:Nat):Int)):=zg;have BL:(((j:Nat):Int)+1)<(((s::ls).length:Nat):Int):=zg;refine dG K Pa fH (zA @J2 (zA @e6 (zA @kf (zA @aRn (zA @gh (zA @gt2 BL)))))) ?_;have Gv:ij f.vars.length args[j]:=by rw[DL];exact o8.at I
     have Ra:=VX args j I;have ahZ:=Z8 args j;have XM:iG args[j]<=n:=zo;refine a3L (ih args[j] XM h5 yD zo Gv (h.ex F hu) (by grind [List.getElem_mem])) ?_;rintro e w6 ⟨qu,a⟩;have U:tG (args.drop j) (ls.drop j) f=match zy args[j] ls[j] f with
       | none=>V
       | some m=>tG (args.drop (j+1)) (ls.drop (j+1)) m:=by
      grind [a3U,tG]
     cases ht:zy args[j] ls[j] f with
     | none=>
      rw[ht] at a U;rw[heq,U] at c;have a:e=gW (.fault 4):=a;subst a;exact c _ _ ⟨yF,J⟩
     | some k6=>
      rw[ht] at a U;obtain⟨he,uz,uA,DM,aab,Ix⟩:=a;subst he;obtain⟨g1,g2⟩:=ae0 _ _ _ _ _ ht yD (ahU _ (List.getElem_mem _)) Gv;refine cJ Pa ?_;refine⟨_,?_,j+1,k6,uz,uA,E++DM,T+iG args[j],by simp [jo],zo,J,by rw[<- a36];exact Ix,fun y hy=>?_,F.trans qu,VZ.fr qu lc lv,heq.trans U,g1,zo,g2.trans DL⟩<;>grind
    .have I:j=args.length:=zo;subst I;have fH:¬ (args.length:Int)<(dk.length:Int):=zo;rw[heq,a4E,tG] at c;refine dA Pa fH ?_;refine c _ _ ⟨F,J,Ca,Cb,bl++E,fun y hy=>?_,zg⟩;exact yH
  .exact aRj h J Z7 X hx (a3Q hk.len zo)
end
def asx(base mb vb:Nat)(vv:Y)(sb:List Nat)(cut:Int)(w:Z)(r:Option (Nat×Mk))(e:Ending)(w':Z):Prop:=
 iE base mb vb w w'/\match r with
  | none=>e=gW (.fault 4)
  | some (s,k')=>e = ai (.int .i64 (s:Int))/\∃ a c bl,(∀ b∈bl,w.heap.size<=b)/\fL base mb vb a vv c (sb++bl) cut w' k'
def P.vo(k:Mk)(xs:List Ex)(i:Nat)(ls:List Nat)(a:Mk):Prop:=tH xs k=match tH (xs.drop i) a with
 | none=>V
 | some (l',k')=>O (ls++l',k')
def P.vo.zero(k:Mk)(xs:List Ex):P.vo k xs 0 [] k:=by
 grind [P.vo,tH]
theorem P.vo.eq{a:Mk}{xs:List Ex}{i:Nat}(hi:i<xs.length):tH (xs.drop i) a=match AV xs[i] a with
 | none=>V
 | some (s,m)=>match tH (xs.drop (i+1)) m with
  | none=>V
  | some (l,m)=>O (s::l,m):=by grind [a3U,tH]
theorem P.vo.step{k a:Mk}{xs:List Ex}{s:Nat}(h:P.vo k xs i fz Ae)(hi:i<xs.length)(b:AV xs[i] Ae=O (s,a)):P.vo k xs (i+1) (fz++[s]) a:=by
 grind [P.vo,P.vo.eq,tH,eq]
theorem P.vo.none{k a:Mk}{xs:List Ex}{i:Nat}{ls:List Nat}(h:P.vo k xs i ls a)(hi:i<xs.length)(b:AV xs[i] a=a6p):tH xs k=a6p:=by
 grind [P.vo,P.vo.eq,eq]
def P.vo.done{k:Mk}{xs:List Ex}(h:P.vo k xs xs.length fz Ae):tH xs k=O (fz,Ae):=by
 unfold P.vo at h;rw[h,a4E,tH];simp
def P.VK(k:Mk):Prop:=∀ j,j<k.vars.length->∃ t:Nat,k.vars[j]?=O (O t)
section
variable{base mb vb:Nat}{cut:Int}
theorem oS.aRo{s a:Nat}{l:List Nat}(h:oS pb w (cS g n c) (a::l))(d:w.heap[g]?=aO iF 3) :
  oS pb (bR w g (ah (iF.setIfInBounds 0 (zi (s:Int))) 3 (0,0))) (cS g n c) (s::l):=by
 refine⟨zs,?_⟩;rcases h.2 with⟨b,-⟩| ⟨q,cap,cur,b,i,f,j,k,m,o⟩
 .grind
 .simp only[a34,Option.some.injEq,Addr.mk.injEq,and_true] at b;obtain⟨rfl,rfl,rfl⟩:=b;rw[d] at f;cases f;refine .inr ⟨g,c,_,J,i,qI J (bn d),j,k,by simp [m],?_⟩;have e:(iF.setIfInBounds 0 (zi (s:Int))).toList=iF.toList.set 0 (zi (s:Int)):=zs;have p:iF.toList.take ((s::l).length*1)=vi (a::l):=o;grind [List.take_set]
def asy:∀ (n:Nat) (x:Ex),iG x<=n->∀ {iv vv:Y} {gr:List Y} {sb:List Nat} {w:Z} {k:Mk} {N:Nat} {v:Y},fL base mb vb iv vv gr sb cut w k->GK N k->N+iG x<=90000->P.VK k->ij k.vars.length x->eQ (fun _=>True) w v x ->
  Calls bdU 139 #[pp mb,v] w (asx base mb vb vv sb cut w (AV x k))
 | 0,x,hn,_,_,_,_,_,_,_,_,_,_,_,_,_,_=>by cases x;simp [iG] at hn
 | n+1,.mk kind name nn kv args,hn,iv,vv,gr,sb,w,k,N,v,h,hk,hN,sI,dx,hx=>by
  have ih:=asy n;suffices H:∀ R:Ending->Z->Prop,(∀ en w',asx base mb vb vv sb cut w (AV (.mk kind name nn kv args) k) en w'->R en w')->Calls bdU 139 #[pp mb,v] w R from H _ zg;intro R f;have pG:=hx;unfold ij at dx;obtain⟨o1,o2,o3,o4,o5,o6,o7,o8⟩:=dx;unfold eQ at hx;obtain⟨b,av,dk,rfl,hF,c,hs,my⟩:=hx;have lb:=bn c;have Er:=my.ER;obtain⟨aa,ac,rfl⟩:=hs.sl;have hc:=h.cell;have lc:=bn hc;obtain⟨kR,j9⟩:=h.vars;have lv:=bn j9;simp only[iG] at hn hN;have dI:Ext w w.drew:=yF;refine aRd ?_;unfold AV at f;by_cases H6:kind=118
  .have L:(kind:Int)=118:=zo;have zP:=o4 H6;obtain⟨t,ht⟩:=sI kv zP;rw[zip H6,List.getD_eq_getElem?_getD,ht] at f;have wO:(kv:Int)<(k.vars.length:Int):=zo;have pP:(kv:Int).toNat=kv:=zo;have jR:(k.vars.map uu).toArray[kv]?=O (zi ((t:Nat):Int)):=by grind [uu]
   have Mx:(k.vars.map uu).toArray.size=k.vars.length:=zs;obtain⟨A,hA⟩:=cj ((k.vars.map uu).toArray);rw[<- hA] at j9 jR Mx;rw[kR] at hc;refine dG c @L hc (zA j9 (zA jR @pP)) ?_;exact f _ _ ⟨yF,J,iv,gr,[],yH,by rw[List.append_nil];exact h.ext dI⟩
  .have L:¬ (kind:Int)=118:=zo;rw[bU H6] at f;by_cases vT:kind=99
   .have e2:(kind:Int)=99:=zo;have e2b:¬ (kind:Int)≠99:=zo;rw[bU zo] at f;refine jh c @L @e2 ?_;have dF:Ext w (w.alloc (ah #[zi 0] 3)):=yF;refine⟨fun m z w'=>∃ j l Ca Cb o M ls v1,z 44=zi ((j:Nat):Int)/\z 6=v1/\j<=args.length/\m=args.length-j/\ls.length=j/\fL base mb vb Ca vv Cb (sb++o) cut w' l/\(∀ b∈o,w.heap.size<=b/\v1.ownBlock≠O b)/\iE base mb vb w w'/\oS w.heap.size w' v1 (0::ls) /\
      P.vo k args j ls l/\GK M l/\M+fJ (args.drop j)<=N+fJ args/\l.vars=k.vars/\∀ y∈ls,y<64,
     ⟨_,0,k,iv,gr,[],N,[],_,J,J,a33 _,J,J,by rw[List.append_nil];exact h.ext dF,yH,yF,oS.one 0,P.vo.zero k args,hk,a3O _,J,zg⟩,?_⟩
    intro m z d w3 hI;refine toPr ?_;obtain⟨j,l,Ca,Cb,o,M,ls,v1,Pb,Q,hj,rfl,Hv,h3,VY,qw,S,mT,T,hNj,DL,ahU⟩:=hI;obtain⟨ra,rc,rfl⟩:=gZ S;have R5:=qw.size;have U:=fun b=>S.own (b:=b);by_cases q:j<args.length
    .have qV:j<dk.length:=zo;obtain⟨sb1,JJ,e3,e4,e5,e6⟩:=hs.at' qV;obtain⟨u,e7,hu⟩:=eS.at' j q my;rw[e7] at e6;simp only[a34,true_and] at e3;obtain⟨rfl,rfl⟩:=e3;have kf:((j:Nat):Int).toNat=j:=zo;have J2:=h.pR qw e5 zd;have fH:((j:Nat):Int)<(dk.length:Int):=zo;refine dG Pb fH @J2 (zA @e6 @kf) ?_;have Gv:ij l.vars.length args[j]:=by rw[DL];exact o8.at q
     have Ra:=VX args j q;have ahZ:=Z8 args j;refine a3L (ih args[j] zo h3 T zo (by grind [P.VK]) Gv (h.ex qw hu)) ?_;rintro e B ⟨i,a⟩;have My:=i.size;cases ht:AV args[j] l with
     | none=>
      rw[ht] at a;rw[mT.none q ht] at f;have a:e=gW (.fault 4):=a;subst a;refine bG ?_;exact f _ _ ⟨yF,J⟩
     | some p=>
      obtain⟨s1,D⟩:=p;rw[ht] at a;obtain⟨he,Mz,MA,nR,Pe,C⟩:=a;subst he;obtain⟨g1,g2,g3⟩:=ae2 _ _ _ _ _ ht T Gv;have E:=S.fr i lc lv;have asz:=fun b=>E.own (b:=b);have aRp:=C.ins.lt;refine cJ Q ?_;have W:∀ b∈sb++o++nR,(Value.slice ra (0::ls).length rc).ownBlock≠O b:=fun b c he=>by
       rcases a3Z.1 c with c | c
       .rcases a3Z.1 c with c | c
        .have:=(U b he).1;have:=h.ins.lt _ c;omega
        grind
       grind
      refine E.push zo zg fun v5 F RS I yr=>?_;refine cJ Pb ?_;refine⟨_,?_,j+1,D,Mz,MA,o++nR,M+iG args[j],ls++[s1],v5,zg,zg,zo,J,zg,?_,fun y X=>?_,iE.own yF I yH,RS,mT.step q ht,g1,zo,g2.trans DL,fun y X=>?_⟩
      .omega
      .rw[<- a36];exact C.Ip I yH W zg
      .exact yH
      grind
    .have q:j=args.length:=zo;subst q;have fH:¬ (args.length:Int)<(dk.length:Int):=zo;rw[mT.done] at f;simp only at f;refine dA Pb fH ?_;refine a3L (Mv h3 T.slots) ?_;rintro e B ⟨i,a⟩;have My:=i.size;cases r:l.slot with
     | none=>
      rw[r] at a f;have a:e=gW (.fault 4):=a;subst a;exact f _ _ ⟨yF,J⟩
     | some p=>
      obtain⟨s1,D⟩:=p;rw[r] at a f;obtain⟨he,C⟩:e = ai (zi (s1:Nat))/\fL base mb vb Ca vv Cb (sb++o) cut B D:=a;subst he;obtain⟨q1,q2,q3,-⟩:=T.slot r;have E:=S.fr i lc lv;have asz:=fun b=>E.own (b:=b);obtain⟨g,gc,gu,ge,gh,gt⟩:=UL E (t:=0) zs;simp only[a34,true_and] at ge;obtain⟨rfl,rfl⟩:=ge;have lg:=bn gh;have gsz:0<gu.size:=by
       grind
      have rm:(0:Int)<(((0::ls).length:Nat):Int):=zg;obtain⟨F,oO⟩:=cj (bR B g (ah (gu.setIfInBounds 0 (zi (s1:Int))) 3 (0,0)));have VZ:oS w.heap.size F (.slice (O ⟨g,0,V⟩) (0::ls).length rc) (s1::ls):=by grind [oS.aRo]
      have I:bD (fun b _=>O g=O b) B F:=yF;have W:∀ b∈sb++o,O g≠O b:=fun b c he=>by
       rcases a3Z.1 c with c | c
       .have:=(U b he).1;have:=h.ins.lt _ c;omega
       .exact(VY b c).2 he
      have h5:=C.Ip I yH W (fun e=>by have:=(U _ e).1;omega);have qt:iE base mb vb w F:=iE.own yF I (fun b e=>(U b e).1);have U5:=h.pR qt c zd;refine jh Q @gh @gsz ?_;rw[<- oO];refine dA Q U5 ?_;rw[<- oO];obtain⟨bl,Iw,pJ⟩:=VZ.sin (fun h=>by cases h);refine a3L (Mw h5 (wd:=[109,97,107,101]) (nm:=name) (cv:=aj) (con:=V) (s:=s1::ls) J Iw (fun y X=>?_) (a3Q q1.len zo)) ?_
      .have h1:=pJ y X;exact⟨fun hm=>W y hm h1,zg⟩
      rintro e w6 ⟨rfl,qu,uz,uA,Ix⟩;have aRq:=VZ.fr qu lc lv;obtain⟨g',gc',gu',K,gh',gt'⟩:=UL aRq (t:=0) zs;simp only[a34,Option.some.injEq,Addr.mk.injEq,and_true,true_and] at K;obtain⟨rfl,-,rfl⟩:=K;have gt2:gu'[0]?=O (zi (s1:Int)):=zg;refine jh Q @gh' @gt2 ?_;refine f _ _ ⟨yF,J,uz,uA,o++bl,fun y X=>?_,zg⟩;exact yH
   .have e2:¬ (kind:Int)=99:=zo;rw[zip vT] at f;refine jh c @L @e2 ?_;refine a3L (Mv h hk.slots) ?_;rintro e B ⟨i,a⟩;have My:=i.size;cases r:k.slot with
    | none=>
     rw[r] at a f;have a:e=gW (.fault 4):=a;subst a;exact f _ _ ⟨i,J⟩
    | some p=>
     obtain⟨s1,D⟩:=p;rw[r] at a f;obtain⟨he,C⟩:e = ai (zi (s1:Nat))/\fL base mb vb iv vv gr sb cut B D:=a;subst he;obtain⟨q1,q2,q3,-⟩:=hk.slot r;refine bG ?_;refine a3L (asr (h.ex i pG) zo) ?_;rintro en F ⟨rfl,u,rfl,hu⟩;have vh:u = aj\/∃ t y,u = ak t y:=by
      unfold Dc at hu;split at hu<;>exact .inr ⟨_,_,hu⟩
     rcases vh with rfl | ⟨ct,cy,rfl⟩;all_goals
      refine bG ?_;refine Gu C (wd:=[112,117,116]) (nm:=[]) (con:=O (Dc kind name nn)) (s:=[s1]) zs hu (a3Q q1.len zo) zo ?_;rintro w6 qu ⟨uz,uA,Ix⟩;refine bG ?_;exact f _ _ ⟨yF,J,uz,uA,[_],yH,Ix⟩
end
def yI:List P.In->Nat
 | []=>0
 | i::r=>(if i.s=[] then 0 else 1)+yI r
def ah0:∀ (a b:List P.In),yI (a++b)=yI a+yI b
 | [],b=>by simp [yI]
 | i::a,b=>by
  rw[List.cons_append,yI,yI,ah0 a b];omega
def q9.Gw{w:Z}:∀ {l:List P.In} {vs:List Y} {sb:List Nat},q9 w vs l sb->sb.length=yI l
 | [],_,_,⟨_,a⟩=>by subst a;rfl
 | i::r,vs,sb,⟨cv,sv,bl,rest,f,g,a,h,c,d⟩=>by
  rw[a,List.length_append,q9.Gw d,yI];rcases c with⟨e,-,rfl⟩| ⟨b,cap,cs,rfl,e,-⟩<;>grind
theorem q9.land{w:Z}{i:P.In}{r:List P.In}{s2:List Nat}{g:Nat}(hi:i.s≠[]):∀ {l:List P.In} {vs:List Y} {s1:List Nat},q9 w vs (l++i::r) (s1++g::s2)->s1.length=yI l->(s1++g::s2).Nodup ->
  ∃ cap cs,vs[l.length*4+3]?=O (cS g i.s.length cap)/\w.heap[g]?=aO cs 3/\cs.size=cap/\i.s.length<=cap/\cs.toList.take i.s.length=vi i.s /\
   ∀ (w':Z) (cs':Array Y) (s':List Nat),(∀ b∈s1++g::s2,b≠g->∀ cs:Array Y,w.heap[b]?=aO cs 3->w'.heap[b]?=aO cs 3)->w'.heap[g]?=aO cs' 3->cs'.size=cap->s'.length=i.s.length->cs'.toList.take s'.length=vi s' ->
    q9 w' vs (l++{ i with s:=s' }::r) (s1++g::s2)
 | [],vs,s1,h,c,m=>by
  have z:s1=[]:=List.length_eq_zero_iff.1 c;subst z;obtain⟨cv,sv,bl,rest,n,d,f,o,j,t⟩:=h;rcases j with⟨k,-,-⟩| ⟨b,cap,cs,rfl,k,rfl,A,B,C,D⟩
  .exact yH
  .have f:g::s2=b::n:=f;cases f;refine⟨cap,cs,zg,A,B,C,D,fun w' cs' s' hk p q u ht=>?_⟩;have K:g ∉ s2:=by
    grind
   refine⟨cv,_,[g],rest,s2,d,J,o,.inr ⟨g,cap,cs',J,fun e=>?_,zg,p,q,zg,ht⟩,(by grind [List.mem_cons_of_mem,bL])⟩;grind
 | x::l,vs,s1,h,c,m=>by
  obtain⟨cv,sv,bl,rest,n,d,f,o,j,t⟩:=h;have key:∃ a,s1=bl++a/\n=a++g::s2/\a.length=yI l:=by
   rw[yI] at c;rcases j with⟨k,-,rfl⟩| ⟨b,cap,cs,rfl,k,-⟩
   .grind
   .rw[bU k] at c;cases s1 with
    | nil=>grind
    | cons y a=>
     grind
  obtain⟨a,rfl,rfl,E⟩:=key;rw[a36] at m;have F:=List.nodup_append.1 m;obtain⟨cap,cs,q1,q2,q3,q4,H,I⟩:=q9.land hi t E F.2.1;refine⟨cap,cs,?_,q2,q3,q4,H,fun w' cs' s' hk p q u ht=>?_⟩
  .rw[d,List.length_cons,show(l.length+1)*4+3=4+(l.length*4+3) from by omega];grind
  .refine⟨cv,sv,bl,rest,a++g::s2,d,a36 _ _ _,o,j.bL fun b L cs hx=>?_,I w' cs' s' yH p q u ht⟩;exact yH
def Gx(mb vb:Nat)(w:Z)(f:Y)(j:Nat)(sb:List Nat):Prop:=∃ xb a,f = .func (.func 160) #[] #[pp xb,pp a] /\
 w.heap[xb]?=aO #[pp mb] 245/\w.heap[a]?=aO #[zi (j:Int)] 3/\a≠vb/\a ∉ sb
section
variable{base mb vb ba:Nat}{iv vv v:Y}{gr:List Y}{sb l:List Nat}{cut:Int}{w w':Z}{k:Mk}
theorem Gx.fr{f:Y}(c:Gx mb vb w f j sb)(h:fL base mb vb iv vv gr sb cut w k)(d:iE base mb vb w w')(l:∀ b∈bl,w.heap.size<=b):Gx mb vb w' f j (sb++bl):=by
 obtain⟨xb,g,rfl,m,a,i,n⟩:=c;refine⟨xb,g,J,(by grind [fL.pR]),d.block _ _ a ?_,i,fun hm=>?_⟩
 .rintro (e | e | ⟨-,cs',e⟩)
  .rw[e,h.cell] at a;grind
  .omega
  grind
 grind
def Gx.Ip{f:Y}(c:Gx mb vb w f j sb)(m:g∈sb)(hx:∃ cs,w.heap[g]?=aO cs 3)(a:bD (fun b _=>O g=O b) w w'):Gx mb vb w' f j sb:=by
 obtain⟨xb,d,rfl,h,i,k,l⟩:=c;refine⟨xb,d,J,a.block _ _ h (fun e=>?_),a.block _ _ i (fun e=>?_),k,l⟩<;>grind
def V0(h:fL base mb vb iv vv gr sb cut w k)(l:k.ins.length<=100000)(wd:Bs):Calls bdU 138 #[pp mb,aW wd] w fun e w'=>iE base mb vb w w' /\
  ∃ b c g f,e = ai f/\w.heap.size<=g/\fL base mb vb b vv c (sb++[g]) cut w' (k.put wd [] V [0])/\Gx mb vb w' f k.ins.length (sb++[g]):=by
 suffices H:∀ R:Ending->Z->Prop,(∀ e w',(iE base mb vb w w'/\∃ b c g f,e = ai f/\w.heap.size<=g/\fL base mb vb b vv c (sb++[g]) cut w' (k.put wd [] V [0])/\Gx mb vb w' f k.ins.length (sb++[g]))->R e w') ->
  Calls bdU 138 #[pp mb,aW wd] w R from H _ fun _ _ h=>h
 intro R m;have d:=h.cell;have lc:=bn d;have lv:=bn h.vars.2;obtain⟨x,pc,n⟩:=gZ h.row;refine aRe ?_;have i:=d;rw[n] at i;refine cJ i ?_;obtain⟨a,o⟩:=cj (bR ((w.alloc (ah #[pp mb] 245)).alloc (ah #[zi 0] 3)) (w.heap.size+1) (ah #[zi (k.ins.length:Int)] 3));rw[<- o,size_alloc];have j:Ext w a:=yF;have p:a.heap.size=w.heap.size+1+1:=yH;have g1:a.heap[w.heap.size]?=aO #[pp mb] 245:=yH;have g2:a.heap[w.heap.size+1]?=aO #[zi (k.ins.length:Int)] 3:=yH;have q:=h.ext j;have r:Gx mb vb a (.func (.func 160) #[] #[pp w.heap.size,pp (w.heap.size+1)]) k.ins.length sb:=⟨_,_,J,g1,g2,zo,fun hm=>by have:=h.ins.lt _ hm;omega⟩;rw[<- p];refine Gu q (wd:=wd) (nm:=[]) (cv:=aj) (con:=V) (s:=[0]) zs J l zo ?_;rintro y t ⟨b,c,u⟩;refine bG ?_;exact m _ _ ⟨(bD.ea j).trans t,b,c,a.heap.size,_,J,zo,u,(by grind [a35,Gx.fr])⟩
def V1{f:Y}{l r:List P.In}{i:P.In}{s1 s2:List Nat}(h:fL base mb vb iv vv gr sb cut w k)(F:Gx mb vb w f j sb)(H:k.ins=l++i::r)(hl:l.length=j)(hi:i.s.length=1)(m:sb=s1++g::s2)(I:s1.length=yI l){K:Ending->Z->Prop}
  (L:∀ w',bD (fun b _=>O g=O b) w w'->(∃ cs,w.heap[g]?=aO cs 3)->fL base mb vb iv vv gr sb cut w' (k.land j)->K (ai (aq #[])) w') :
  ∃ x y,f = .func (.func 160) #[] #[x,y]/\Calls bdU 160 #[x,y] w K:=by
 have M:i.s≠[]:=zg;have z:=h.ins;rw[H,m] at z;have a:=h.J1;rw[m] at a;obtain⟨cap,cs,q1,q2,q3,q4,q5,N⟩:=z.land M I a;obtain⟨xb,yb,rfl,g1,g2,g3,g4⟩:=F;refine⟨_,_,J,?_⟩;have A:=h.cell;have lg:=bn q2;obtain⟨pa,pc,Ab⟩:=gZ h.row;have mw:k.ins.length=l.length+1+r.length:=zg;have Q:(j:Int)<(k.ins.length:Int):=zo;have R:(j:Int).toNat=j:=zo;have B:=h.row;rcases B.2 with⟨n,C⟩| ⟨S,o,cur,n,C,D,U,W,X,h7⟩
 .omega
 have E:=A;rw[n] at E;have lib:=bn D;have nE:cur[j*4+3]?=O (cS g i.s.length cap):=by
  grind
 have XM:0<cs.size:=zo;refine aRf ?_;refine dG @g1 @g2 E (zA D (zA Q (zA @R (zA nE (zA hi (zA @q2 XM)))))) ?_;obtain⟨c,p⟩:=cj (bR w.drew g (ah (cs.setIfInBounds 0 (zi (k.ins.length:Int))) 3 (0,0)));rw[<- p];have d:bD (fun b _=>O g=O b) w c:=yF;have q:c.heap[g]?=aO (cs.setIfInBounds 0 (zi (k.ins.length:Int))) 3:=yH;have hb:∀ {b:Nat} {cs:Array Y} {T:Nat},T≠3->w.heap[b]?=aO cs T->c.heap[b]?=aO cs T:=yH;have Mn:g∈sb:=zg;have t:(k.land j).ins=l++{ i with s:=[k.ins.length] }::r:=by
  unfold Mk.land;simp only;have:=YG (fun x:P.In=>{ x with s:=[k.ins.length] }) l (i::r) 0;grind
 have hlen:(k.land j).ins.length=k.ins.length:=zg;refine L c d yH ⟨hb zo A,h.lo,?_,?_,⟨h.vars.1,d.block _ _ h.vars.2 (fun e=>?_)⟩,h.J0,h.sep,h.J1⟩
 .rw[hlen];exact⟨B.1,.inr ⟨S,o,cur,n,C,yH,U,W,X,h7⟩⟩
 .rw[t,m];refine N c _ [k.ins.length] yH q zg zg ?_;have e:(cs.setIfInBounds 0 (zi (k.ins.length:Int))).toList=cs.toList.set 0 (zi (k.ins.length:Int)):=zs;have u:cs.toList.take [k.ins.length].length=vi i.s:=zg;rw[e,List.take_set,u];obtain⟨x,hx⟩:=List.length_eq_one_iff.1 hi;grind
 .injection e with e;exact h.sep g Mn e
end
open Go.Proofs.YtoegidfbnkaabaaGreatDoor.Sx
section
variable{p0 p1 p2 p3 p4 p5 p6 p7:Y}{w:Z}{R:Ending->Z->Prop}
def V3:=cz w R [p0,p1,p2] (gc [(3,[15,27]),(14,[73])] [] [28,45,60,61,66,67,74,82,83,110,111,157,158]) Tryz.func107
end
theorem asF{α:Type}(f:α->α):∀ (a b:List α) (q:Nat),q<a.length->(a++b).modify q f=a.modify q f++b
 | [],b,q,h=>zg
 | x::a,b,0,h=>zs
 | x::a,b,q+1,h=>by
  rw[List.cons_append,a44,a44,asF f a b q zg];rfl
def P.asG(b:Bd)(c:Nat)(m:Mk):tI [b] c m=lG b c m:=by
 unfold tI;cases lG b c m with
 | none=>rfl
 | some m=>simp [tI]
def P.asH{m:Mk}{w:Bs}(a:j<m.ins.length):∃ X,((m.put w [] V [0]).land j).ins=X++[⟨w,[],V,[0]⟩]/\X.length=m.ins.length:=by
 grind [Mk.land,Mk.put,asF]
section
variable{base mb vb:Nat}{cut:Int}
def fL.bd{k:Mk}(h:fL base mb vb iv vv gr fz cut w k)(a:iE base mb vb w w'){x:Bd}(hx:dL (fun _=>True) w v x):dL (fun _=>True) w' v x:=dL.mono zg (h.lL a) _ _ hx
abbrev V4(base mb vb:Nat)(cut:Int)(n:Nat):Prop:=∀ (x:Bd),iX x<=n->∀ {iv vv:Y} {gr:List Y} {sb:List Nat} {w:Z} {k:Mk} {N M cs:Nat} {v:Y},fL base mb vb iv vv gr sb cut w k->GK N k->N+4*iX x<=90000->P.VK k->eZ k.vars.length M x->dL (fun _=>True) w v x->cs<64 ->
 Calls bdU 107 #[pp mb,v,zi (cs:Nat)] w (vn base mb vb vv sb cut w (lG x cs k))
theorem VK.of{k k':Mk}(h:P.VK k)(hv:k'.vars=k.vars):P.VK k':=by grind [P.VK]
def asI:∀ (l:List Bd) (j:Nat) (a:j<l.length),jG (l.drop j)=iX l[j]+jG (l.drop (j+1))
 | x::l,0,_=>by simp [jG]
 | x::l,j+1,a=>by simpa using asI l j zg
def asJ:∀ (l:List Bd) (j:Nat),jG (l.drop j)<=jG l
 | [],j=>zg
 | x::l,0=>zs
 | x::l,j+1=>by have:=asJ l j;grind [jG]
def asK:∀ (l:List Bd),l.length<=jG l
 | []=>zs
 | x::l=>by have:=asK l;grind [aoC,jG]
def asL(ih:V4 base mb vb cut n){name:Bs}{args:List Ex}(T:iX (.mk pb name args gz)<=n+1)(U:pb=33\/pb=44){k:Mk}{cs:Nat}
  (h:fL base mb vb iv vv gr fz cut w k) (hk:GK N k) (W:N+4*iX (.mk pb name args gz)<=90000) (X:P.VK k) (A:eZ k.vars.length M (.mk pb name args gz)) (hx:dL (fun _=>True) w v (.mk pb name args gz)) (B:cs<64) :
  Calls bdU 107 #[pp mb,v,zi (cs:Nat)] w (vn base mb vb vv fz cut w (lG (.mk pb name args gz) cs k)):=by
 suffices H:∀ R:Ending->Z->Prop,(∀ C w',vn base mb vb vv fz cut w (lG (.mk pb name args gz) cs k) C w'->R C w')->Calls bdU 107 #[pp mb,v,zi (cs:Nat)] w R from H _ fun _ _ h=>h;intro R c;unfold eZ at A;obtain⟨o1,o2,o3,o4,o5,o6,o7,o8⟩:=A;unfold dL at hx;obtain⟨b,av,pv,vs,us,rfl,-,D,gA,EU,E,F⟩:=hx;have hc:=h.cell;have lv:=bn h.vars.2;have vf:=F.Ic;obtain⟨pa,pc,rfl⟩:=E.sl;simp only[iX] at T W;have j3:=asK gz;refine V3 ?_;unfold lG at c;rcases U with rfl | rfl
 .rw[zip rfl] at c;refine cJ D ?_;refine Gu h (wd:=kZ) (nm:=[]) (cv:=aj) (con:=V) (s:=[cs]) zs J (a3Q hk.len zo) lv ?_;rintro w3 hG ⟨uw,uy,h3⟩;refine bG ?_;exact c _ _ ⟨hG,J,uw,uy,[_],yH,h3⟩
 .rw[bU zd,zip rfl] at c;refine cJ D ?_;refine⟨fun m z w'=>∃ j a p q g l,z 73=zi ((j:Nat):Int)/\j<=gz.length/\m=gz.length-j/\fL base mb vb p vv q (fz++g) cut w' a/\(∀ b∈g,w.heap.size<=b)/\iE base mb vb w w' /\
    tI gz cs k=tI (gz.drop j) cs a/\GK l a/\l+4*jG (gz.drop j)<=N+4*jG gz/\a.vars=k.vars,
   ⟨_,0,k,iv,gr,[],N,J,a33 _,J,zg,yH,yF,J,hk,a3O _,J⟩,?_⟩
  intro m z1 d1 w5 hI;refine toPr ?_;obtain⟨j,a,p,q,g,l,r,hj,rfl,I,VY,i,heq,K,hNj,t⟩:=hI;have sz5:=i.size;by_cases d:j<gz.length
  .have qV:j<us.length:=zo;obtain⟨sb1,JJ,L,e4,e5,Q⟩:=E.at' qV;obtain⟨u,e7,hu⟩:=gD.Ds j d F;rw[e7] at Q;simp only[a34,true_and] at L;obtain⟨rfl,rfl⟩:=L;have kf:((j:Nat):Int).toNat=j:=zo;have J2:=h.pR i e5 zd;have x:((j:Nat):Int)<(us.length:Int):=zo;refine dG r x @J2 (zA @Q @kf) ?_;have Ra:=asI gz j d;have ahZ:=asJ gz j;have S:eZ a.vars.length M gz[j]:=by rw[t];exact o8.at d
   refine a3L (ih gz[j] zo I K zo (VK.of X t) S (h.bd i hu) B) ?_;rintro e w6 ⟨qu,f⟩;have o:tI (gz.drop j) cs a=match lG gz[j] cs a with
     | none=>V
     | some m=>tI (gz.drop (j+1)) cs m:=by
    rw[a3U d,tI];rfl
   cases ht:lG gz[j] cs a with
   | none=>
    rw[ht] at f o;rw[heq,o] at c;have f:e=gW (.fault 4):=f;subst f;exact c _ _ ⟨yF,J⟩
   | some k6=>
    rw[ht] at f o;obtain⟨he,uz,uA,DM,aab,Ix⟩:=f;subst he;obtain⟨g1,g2⟩:=EA _ _ _ _ _ ht K S B zo;refine cJ r ?_;refine⟨_,?_,j+1,k6,uz,uA,g++DM,l+4*iX gz[j],by simp [jo],zo,J,by rw[<- a36];exact Ix,fun y hy=>?_,i.trans qu,heq.trans o,g1,zo,g2.trans t⟩<;>grind
  .have d:j=gz.length:=zo;subst d;have x:¬ (gz.length:Int)<(us.length:Int):=zo;rw[heq,a4E,tI] at c;refine dA r x ?_;exact c _ _ ⟨i,J,p,q,g,VY,I⟩
end
