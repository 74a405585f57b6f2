/- A part of one proof (KW1, KW2, ShQ2, KW3, KW4, KW5). -/
import Derived.Test.YtoegidfbnkaabaaGreatDoorPkLAR
set_option linter.all false
set_option maxRecDepth 100000
set_option maxHeartbeats 8000000
open Option renaming some → O, none → V
open Go renaming Value → Y, World → Z
open Bool renaming true → A, false → G
open Go.Obj renaming cells → ae
open Go.Ending renaming returned → ah
open Go.Value renaming nilIface → ai, iface → aj, tuple → ak, pointer → aq
open Option.some renaming injEq → a1o
open Go.Calls renaming mono → a1r
open Nat renaming le_refl → a1s, le_trans → a1t, lt_of_lt_of_le → a1W
open List renaming length_append → a1v, drop_eq_getElem_cons → a1y, length_singleton → a2e, range' → a2j
open Go.Value renaming slice → a1D
open Go.Value.slice renaming injEq → a1I
open Go.Proofs.Tryz renaming prog → bbA
namespace Go.Proofs.YtoegidfbnkaabaaGreatDoor
open P
open Go.RowKit Sx
variable{B M b base c cap e f g j m mb n o pb so:Nat}{D F:Nat->Prop}{K:Y->Prop}{X:Y->Z->Prop}{av iv o4 o5 tv v vv:Y}{cs iB:Array Y}{t:Tm}{ud ρ:Nat->Nat}{gr:List Bd}{ft:List Nat}{vs xs:List Y}{w w' w1 w2:Z}{y:Operand}
def oK(w:Z)(a:TypeId)(v:Y)(vs:List Y):Prop:=
 (vs=[]/\v = bW) \/
 ∃ b o cap cs,v = .slice (O ⟨b,o,V⟩) vs.length cap/\w.heap[b]?=aO cs a/\vs.length<=cap/\(cs.toList.drop o).take vs.length=vs/\vs≠[]
theorem oK.of{a:TypeId}(h:fJ F w a v vs)(c:vs≠[]):oK w a v vs:=by
 rcases h with h | ⟨b,cs,d,-,e,f,g⟩
 .grind
 .exact .inr yH
theorem oK.nil{a:TypeId}:oK w a bW []:=.inl ⟨J,J⟩
theorem oK.bJ{a:TypeId}(h:oK w a v vs)(hw:∀ (b:Nat) (cs:Array Y),w.heap[b]?=aO cs a->w'.heap[b]?=aO cs a):oK w' a v vs:=by
 rcases h with h | ⟨b,o,cap,cs,c,d,e,f⟩
 .exact .inl h
 .exact .inr yH
theorem oK.at{a:TypeId}(h:oK w a v vs)(c:j<vs.length):∃ b o cap cs,v = .slice (O ⟨b,o,V⟩) vs.length cap/\w.heap[b]?=aO cs a/\cs[o+j]?=vs[j]?/\vs.length<=cap:=by
 rcases h with⟨rfl,-⟩| ⟨b,o,cap,cs,d,e,f,g,-⟩<;>grind
def oK.tail{a:TypeId}{x:Y}(h:oK w a (.slice (O ⟨b,o,V⟩) n cap) (x::vs))(d:vs≠[]):oK w a (sliced (O ⟨b,o,V⟩) 1 n cap 1) vs:=by
 rcases h with⟨h,-⟩| ⟨i,j,k,cs,c,e,f,g,-⟩
 .grind
 .simp only[a1I,a1o,Addr.mk.injEq,and_true] at c;obtain⟨⟨rfl,rfl⟩,rfl,rfl⟩:=c;have m:vs.length≠0:=zg;simp only[List.length_cons] at f g;refine .inr ⟨b,o+1,cap-1,cs,?_,e,zo,?_,d⟩
  .unfold sliced;rw[bM zo];simp [Addr.add]
  .cases p:cs.toList.drop o with
   | nil=>grind
   | cons y l=>
    grind [List.tail_drop]
def Qq(w:Z)(v:Y):Option Bd->Prop
 | none=>v = aq V
 | some b=>dJ (fun _=>True) w v b
def uM(ρ:Nat->Nat)(n:Nat)(w:Z):Y->List P.Goal->Prop
 | v,[]=>v = aq V
 | v,g::r=>∃ b a vv nx,v = aq (O ⟨b,0,V⟩)/\w.heap[b]?=O (ae #[a,vv,.int .i64 (g.cut:Nat),nx] 207 (0,0))/\Qq w a g.Fk /\
  fJ (fun _=>True) w 89 vv (ni ρ g.vars)/\(∀ i∈g.vars,i<n)/\uM ρ n w nx r
def qQ(ρ:Nat->Nat)(n:Nat)(w:Z):List Y->List oI->Prop
 | vs,[]=>vs=[]
 | vs,a::r=>∃ b cv av fV us rest,vs=[.int .i64 (a.mark:Nat),b,cv,av]++rest/\uM ρ n w b a.todo/\oK w 79 cv fV/\km (fun _=>True) w fV a.clauses /\
  fJ (fun _=>True) w 89 av us/\qe ρ n w us a.args/\qQ ρ n w rest r
def Ug(T:Nat):Prop:=lI T\/T=9\/T=57\/T=121
def yM{p:Prop}(h:p:=by first | (unfold Ug lI;decide) | (unfold lI;decide)):p:=h
def eO(w w':Z):Prop:=∀ (b:Nat) (cs:Array Y) (T:Nat),¬ Ug T->w.heap[b]?=aO cs T->w'.heap[b]?=aO cs T
def dc.toI(h:dc D w w'):eO w w':=fun _ _ _ a b=>h.bJ (fun h=>a (.inl h)) b
theorem eO.ed(h:Ext w w'):eO w w':=fun _ _ _ _ a=>h.ext _ _ a
theorem eO.trans{a b c:Z}(h:eO a b)(k:eO b c):eO a c:=fun x cs T d e=>k x cs T d (h x cs T d e)
theorem eO.toT(h:eO w w'):X3 w w':=fun b cs t _ ht a=>h b cs t (by rcases ht with rfl | rfl<;>(first | (unfold Ug lI;decide) | (unfold lI;decide))) a
theorem eO.lF(h:eO w w'):∀ (b:Nat) (o:Obj),True->DE o->w.heap[b]?=O o->w'.heap[b]?=O o:=fun b o _ a c=>by
 cases o with
 | cells cs t z=>
  obtain⟨ht,rfl⟩:=a;exact h b cs t (by rcases ht with rfl | rfl | rfl | rfl<;>(first | (unfold Ug lI;decide) | (unfold lI;decide))) c
 | _=>exact a.elim
def dJ.iX(hk:eO w w'){b:Bd}(h:dJ (fun _=>True) w v b):dJ (fun _=>True) w' v b:=dJ.mono zg hk.lF b v h
theorem Qq.bJ{w w':Z}(hk:eO w w'){v:Y}:∀ {o:Option Bd},Qq w v o->Qq w' v o
 | none,h=>h
 | some _,h=>dJ.iX hk h
def fJ.iX(hk:eO w w')(a:¬ Ug pb)(h:fJ (fun _=>True) w pb v vs):fJ (fun _=>True) w' pb v vs:=h.mono zg fun b cs _ c=>hk b cs pb a c
def Fb.iX{w w':Z}(hk:eO w w'){v:Y}{c:Cl}(h:Fb (fun _=>True) w v c):Fb (fun _=>True) w' v c:=by
 obtain⟨b,av,bv,a,d,e,f,g,⟨us,i,j⟩,k⟩:=h;exact⟨b,av,bv,a,d,e,f,hk _ _ _ (yM) g,⟨us,fJ.iX hk (yM) i,eQ.mono zg hk.lF _ _ j⟩,dJ.iX hk k⟩
def km.iX{w w':Z}(hk:eO w w'):∀ {vs:List Y} {l:List Cl},km (fun _=>True) w vs l->km (fun _=>True) w' vs l
 | vs,[],h=>h
 | vs,c::l,⟨v,r,a,b,d⟩=>⟨v,r,a,b.iX hk,km.iX hk d⟩
def eu(ρ:Nat->Nat)(n:Nat)(eM:Nat->Nat)(a:Nat):Prop:=n<=a/\∀ i,i<n->eM i=ρ i
theorem eu.refl(ρ:Nat->Nat)(n:Nat):eu ρ n ρ n:=⟨a1s _,zg⟩
theorem eu.trans{a b c:Nat->Nat}{i j k:Nat}(h:eu a i b j)(d:eu b j c k):eu a i c k:=⟨a1t h.1 d.1,fun x hx=>(d.2 x (a1W hx h.1)).trans (h.2 x hx)⟩
def aoI(h:eu ρ n ud pb){l:List Nat}(a:∀ i∈l,i<n):ni ud l=ni ρ l:=by
 unfold ni;exact List.map_congr_left fun i hi=>by rw[h.2 i (a i hi)]
def qe.Qr(hk:eO w w')(hu:eu ρ n ud pb){l:List Tm}(h:qe ρ n w vs l):qe ud pb w' vs l:=iG.mono zg hu.1 hu.2 hk.toT _ _ h
def dK.Qr(hk:eO w w')(hu:eu ρ n ud pb)(h:dK ρ n w v t):dK ud pb w' v t:=dI.mono zg hu.1 hu.2 hk.toT _ _ h
theorem uM.bJ{ρ eM:Nat->Nat}{n a:Nat}{w w':Z}(hk:eO w w')(hu:eu ρ n eM a):∀ {l:List P.Goal} {v:Y},uM ρ n w v l->uM eM a w' v l
 | [],v,h=>h
 | g::r,v,⟨b,d,vv,nx,e,f,j,k,c,m⟩=>⟨b,d,vv,nx,e,hk _ _ _ (yM) f,j.bJ hk,by rw[aoI hu c];exact fJ.iX hk (yM) k,
  fun i hi=>a1W (c i hi) hu.1,uM.bJ hk hu m⟩
theorem qQ.bJ{ρ eM:Nat->Nat}{n c:Nat}{w w':Z}(hk:eO w w')(hu:eu ρ n eM c):∀ {l:List oI} {vs:List Y},qQ ρ n w vs l->qQ eM c w' vs l
 | [],vs,h=>h
 | a::r,vs,⟨d,cv,av,fV,us,rest,e,f,g,i,j,k,m⟩=>⟨d,cv,av,fV,us,rest,e,f.bJ hk hu,g.bJ fun b cs o=>hk b cs _ (yM) o,i.iX hk,
  fJ.iX hk (yM) j,k.Qr hk hu,qQ.bJ hk hu m⟩
def qQ.len{ρ:Nat->Nat}{n:Nat}{w:Z}:∀ {l:List oI} {vs:List Y},qQ ρ n w vs l->vs.length=l.length*4
 | [],vs,h=>by have h:vs=[]:=h;grind
 | a::r,vs,⟨d,cv,av,fV,us,rest,b,_,_,_,_,_,c⟩=>by
  rw[b,a1v,qQ.len c];grind
def Tryz.aKM:(Tryz.prog.info? 356).map (fun i=>(i.zero,i.size,i.bytes))=O (O (.agg #[zi 0,aq V,bW,bW]),4,64):=zk
def aoJ(c:w.ownsRow base 356 4 v n xs){l:List Y}
  (d:w.heap[b]?=aO l.toArray 356) (p:l.length=4) (q:∀ u∈l,u.oneCell'=A)
  (r:n<=900000000) (f:base<=w.heap.size) {K:Y->Z->Prop}
  (h:∀ v' w',w'.ownsRow base 356 4 v' (n+1) (xs++l)->w.grownBy w' v.ownBlock->(v'.ownBlock=v.ownBlock\/∀ k,v'.ownBlock=O k->w.heap.size<=k)->K v' w') :
  WR bbA (Builtin.append_ #[128,128] 128 #[v,cS b 1 m]) w K X:=by
 obtain⟨i,hi,a⟩:=Option.map_eq_some_iff.1 Tryz.aKM;simp only[Prod.mk.injEq] at a;obtain⟨g,j,o⟩:=a;exact Sx.DC (m:=1) (t:=128) (e:=356) zk hi g j o J zo c d zo zg zo zo f h
def Dm(D:Nat->Prop)(av:Y)(b:Nat):Prop:=D b/\av.ownBlock≠O b
theorem dc.up{D':Nat->Prop}(h:dc D w w')(a:∀ b,D b->D' b):dc D' w w':=bB.mono h fun b o _ hm=>⟨a b hm.1,hm.2⟩
theorem gO.up{D':Nat->Prop}{T:Nat}{s:Sr}(h:gO D ρ n pb so T cs tv w s)(a:∀ b,D b->D' b):gO D' ρ n pb so T cs tv w s:=
 ⟨h.sv,(by grind [dv]),h.cell,h.row,(by grind [dr]),a _ h.ds,h.nd,h.lt,h.ok⟩
abbrev He(mb:Nat)(todo av vv:Y):Array Y:=#[.map (O mb),.slice V 0 0,zi 0,todo,av,vv]
theorem FH:vF 1 130 (He mb tv av vv):=⟨zs,.inl J⟩
structure kh(D:Nat->Prop)(ρ:Nat->Nat)(wb mb:Nat)(todo av vv tv:Y)(di:List Y)(w:Z)(k:Wk):Prop where
 st:gO D ρ k.n wb 1 130 (He mb todo av vv) tv w k.sr
 td:uM ρ k.n w todo k.todo
 ar:w.ownsRow 0 356 4 av k.bw.length di
 ag:qQ ρ k.n w di k.bw
 da:∀ g,av.ownBlock=O g->D g
def Qt(D:Nat->Prop)(ρ:Nat->Nat)(wb mb:Nat)(vv:Y)(w:Z)(k:Wk):Prop:=∃ todo av tv di,kh D ρ wb mb todo av vv tv di w k
section
variable{D:Nat->Prop}{ρ:Nat->Nat}{wb mb:Nat}{todo av vv tv:Y}{di:List Y}{w w':Z}{k:Wk}
theorem kh.cell(h:kh D ρ wb mb todo av vv tv di w k):w.heap[wb]?=aO #[.map (O mb),tv,zi (k.sr.fuel:Nat),todo,av,vv] 130:=h.st.cell
theorem kh.ext(h:kh D ρ wb mb todo av vv tv di w k)(a:Ext w w'):kh D ρ wb mb todo av vv tv di w' k:=
 ⟨h.st.ext a,h.td.bJ (eO.ed a) (eu.refl _ _),jL a.ext h.ar,h.ag.bJ (eO.ed a) (eu.refl _ _),h.da⟩
theorem kh.Ep(h:kh D ρ wb mb todo av vv tv di w k)(a:av.ownBlock=O g):∃ cs,w.heap[g]?=aO cs 356:=by
 rcases h.ar.2 with⟨rfl,-⟩| ⟨b,cap,cur,rfl,-,c,-⟩
 .cases a
 grind [Value.ownBlock,a1o]
def kh.less(h:kh D ρ wb mb todo av vv tv di w k):gO (Dm D av) ρ k.n wb 1 130 (He mb todo av vv) tv w k.sr:=by
 refine⟨h.st.sv,fun i hi=>⟨h.st.dv i hi,fun e=>?_⟩,h.st.cell,h.st.row,fun g b=>⟨h.st.dr g b,fun e=>?_⟩,⟨h.st.ds,fun e=>?_⟩,h.st.nd,h.st.lt,h.st.ok⟩
 .obtain⟨cs,a⟩:=h.Ep e;obtain⟨ref,c,-⟩:=h.st.sv.var i hi;grind
 .obtain⟨cs,a⟩:=h.Ep e;exact absurd b (h.st.X7 a zo)
 .obtain⟨cs,a⟩:=h.Ep e;have c:=h.cell;grind
def aKN{size:Nat}(h:w.ownsRow base e size v m xs)(a:dc (Dm D v) w w'):w'.ownsRow base e size v m xs:=by
 refine⟨h.1,?_⟩;rcases h.2 with g | ⟨b,cap,cur,rfl,c,d,f⟩
 .exact yH
 .exact .inr ⟨b,cap,cur,J,c,a.block _ _ d (fun hm=>hm.1.2 J),f⟩
def kh.store(h:kh D ρ wb mb todo av vv tv di w k){s':Sr}(b:gO (Dm D av) ρ k.n wb 1 130 (He mb todo av vv) o4 w' s')(a:dc (Dm D av) w w') :
  kh D ρ wb mb todo av vv o4 di w' { k with sr:=s' }/\dc D w w':=
 ⟨⟨b.up fun _ h=>h.1,h.td.bJ a.toI (eu.refl _ _),aKN h.ar a,h.ag.bJ a.toI (eu.refl _ _),h.da⟩,a.up fun _ h=>h.1⟩
def kh.Lk(h:kh D ρ wb mb todo av vv tv di w k){todo':Y}{l:List P.Goal}(c:uM ρ k.n w todo' l)
  (hw:w1=bQ w wb (ae #[.map (O mb),tv,zi (k.sr.fuel:Nat),todo',av,vv] 130)):kh D ρ wb mb todo' av vv tv di w1 { k with todo:=l }/\dc D w w1:=by
 obtain⟨b,a⟩:=h.st.cells (by grind [FH]) (cs':=He mb todo' av vv) (f:=k.sr.fuel);have e:bQ w wb (ae (kr ((He mb todo' av vv).setIfInBounds 1 tv) 1 (k.sr.fuel:Nat)) 130 (0,0))=w1:=zg;rw[e] at b a;refine⟨⟨b,c.bJ a.toI (eu.refl _ _),?_,h.ag.bJ a.toI (eu.refl _ _),h.da⟩,a⟩;rw[hw];refine I2 h.ar fun e=>?_;obtain⟨cs,d⟩:=h.Ep e;have g:=h.cell;grind
def kh.Ll(h:kh D ρ wb mb todo av vv tv di w k){av':Y}{avs':List Y}{l:List oI}(hr:w1.ownsRow 0 356 4 av' l.length avs')
  (d:w.grownBy w1 av.ownBlock) (hv:av'.ownBlock=av.ownBlock\/∀ g,av'.ownBlock=O g->D g/\w.heap.size<=g) (q:qQ ρ k.n w avs' l)
  (hw:w2=bQ w1 wb (ae #[.map (O mb),tv,zi (k.sr.fuel:Nat),todo,av',vv] 130)) :
  kh D ρ wb mb todo av' vv tv avs' w2 { k with bw:=l }/\dc D w w2/\w1.heap[wb]?=w.heap[wb]?:=by
 have s:=h.cell;have u:∀ (b:Nat) (c:Array Y) (U:Nat),w.heap[b]?=aO c U->U≠356->w1.heap[b]?=aO c U:=(by grind [bg,World.grownBy.block,Ep]);have f1:dc D w w1:=⟨d.os,d.tape,d.output,d.size,fun b o i hm=>by
  rw[d.block b (bg i) (fun e=>?_)]
  .omega
  .obtain⟨cs,a⟩:=h.Ep e.symm;rw[i] at a;exact hm ⟨h.da b e.symm,_,_,_,Option.some.inj a,.inr zg⟩⟩
 have s1:gO D ρ k.n wb 1 130 (He mb todo av vv) tv w1 k.sr:=by
  refine⟨h.st.sv.bJ fun b c t ht i=>yH,h.st.dv,yH,?_,h.st.dr,h.st.ds,h.st.nd,h.st.lt,h.st.ok⟩;refine⟨h.st.row.1,?_⟩;rcases h.st.row.2 with a | ⟨b,cap,cur,j,p,r,x⟩<;>grind
 obtain⟨a,p⟩:=s1.cells (by grind [FH]) (cs':=He mb todo av' vv) (f:=k.sr.fuel);have e:bQ w1 wb (ae (kr ((He mb todo av' vv).setIfInBounds 1 tv) 1 (k.sr.fuel:Nat)) 130 (0,0))=w2:=zg;rw[e] at a p;have m:dc D w w2:=yF;refine⟨⟨a,h.td.bJ m.toI (eu.refl _ _),?_,q.bJ m.toI (eu.refl _ _),fun g y=>?_⟩,m,yH⟩
 .rw[hw];refine I2 hr fun e=>?_;rcases hr.2 with⟨j,-⟩| ⟨z,cap,cur,j,-,r,-⟩
  .rw[j] at e;cases e
  grind [Value.ownBlock,a1o]
 grind [da]
def uM.ptr{n:Nat}{v:Y}:∀ {l:List P.Goal},uM ρ n w v l->∃ p,v = .pointer p
 | [],h=>⟨V,h⟩
 | _::_,⟨b,_,_,_,h,_⟩=>⟨_,h⟩
def qQ.snoc{n:Nat}{a:oI}{l0:List Y}:∀ {l:List oI} {vs:List Y},qQ ρ n w vs l->qQ ρ n w l0 [a]->qQ ρ n w (vs++l0) (l++[a])
 | [],vs,h,b=>by have h:vs=[]:=h;grind
 | x::l,vs,⟨c,cv,av,fV,us,rest,k,d,e,f,g,i,j⟩,b=>⟨c,cv,av,fV,us,rest++l0,zg,d,e,f,g,i,qQ.snoc j b⟩
def ae1(h:kh D ρ wb mb todo av vv tv di w k)(hD:∀ b,w.heap.size<=b->D b){l:List P.Goal}(f:uM ρ k.n w o4 l)(s:k.bw.length<=900000000) :
  Calls bbA 226 #[pp wb,o4] w fun e w'=>e = ah (ak #[])/\dc D w w'/\∃ av' avs',kh D ρ wb mb todo av' vv tv avs' w' (k.Xz l):=by
 have i:=h.cell;have lw:=bg i;obtain⟨j,rfl⟩:=f.ptr;have t:Ext w w.drew:=yF;refine aKH ?_;refine⟨fun w'=>w'.heap[wb]?=w.heap[wb]?,J,?_⟩;refine toPr ?_;refine bH ?_;refine cQ (pq wb 4) (fun w' a=>eT) ?_;refine cQ av (fun w' a=>by rw[i] at a;have:=bg a;exact fh a) ?_;refine bH ?_;refine cQ (pq wb 1) (fun w' a=>eT) ?_;refine a1r (TR (h.ext t).st FH) ?_;rintro e w1 ⟨rfl,rfl⟩;refine⟨J,?_⟩;refine bH ?_;obtain⟨l0,m⟩:∃ l0:List Y,l0=[zi (k.sr.tr.length:Nat),.pointer j,bW,bW]:=⟨_,J⟩;obtain⟨w2,o⟩:=cg (w.drew.alloc (ae l0.toArray 356 (0,0)));have d:Ext w w2:=yF;have g2:w2.heap[w.heap.size]?=aO l0.toArray 356:=yH;have s2:w2.heap.size=w.heap.size+1:=yH;rw[m] at o;rw[<- o];have c:=h.ext d;have q2:=c.cell;refine aoJ c.ar g2 zg (by rw[m];intro u hu;simp only[List.mem_cons,List.not_mem_nil,or_false] at hu;rcases hu with rfl | rfl | rfl | rfl<;>rfl) s zo ?_;intro v' w3 p x y;obtain⟨p3,d3,z⟩:=gV p;subst z;obtain⟨H,q⟩:=cg (bQ w3 wb (ae #[.map (O mb),tv,zi (k.sr.fuel:Nat),todo,.slice p3 (k.bw.length+1) d3,vv] 130));have B:qQ ρ k.n w2 (di++l0) (k.bw++[⟨k.sr.tr.length,l,[],[]⟩]):=by
  refine c.ag.snoc ⟨.pointer j,bW,bW,[],[],[],zg,f.bJ (eO.ed d) (eu.refl _ _),oK.nil,J,.inl ⟨J,J⟩,?_,J⟩;unfold qe iG;rfl
 obtain⟨C,E,F⟩:=c.Ll (l:=k.bw++[⟨k.sr.tr.length,l,[],[]⟩]) (by rw[a1v,a2e];exact p) x (y.imp id fun hx g r=>⟨hD g (by have:=hx g r;omega),hx g r⟩) B q;refine⟨yH,?_⟩;have c3:=F.trans q2;refine cJ @c3 ?_;rw[<- q];exact⟨(dc.ed d).trans E,_,_,C⟩
end
open Go.Proofs.YtoegidfbnkaabaaGreatDoor.Sx
section
variable{p0 p1 p2 p3 p4 p5 p6 p7:Y}{w:Z}{R:Ending->Z->Prop}
def aKO:=cz w R [p0,p1] (gc [] [] []) Tryz.func78
def aKP:=cz w R [p0] (gd [(3,[10])] [] [(5,9)] [] [] [] [11]) Tryz.func39
def aoK:=cz w R [p0] (gc [(3,[9])] [] [10]) Tryz.func77
def aoL:=cz w R [p0,p1] (gd [] [] [] [(2,[14,0,1,2,3,4,5,6,7,8,9,10,11,12,13])] [] [] []) Tryz.func38
def aoM:=cz w R [p0,p1,p2] (gd [] [(12001,[])] [] [(6,[12,0,2,3,4,5,6,7,8,1,9,10,11,12,13])] [] [] [2,12,20,22,23,51,52,53,61]) Tryz.func26
def aKQ:=cz w R [p0,p1,p2] (gc [] [] [2,16]) Tryz.func15
end
def yg(ρ:Nat->Nat)(n B:Nat)(i:Nat):Nat:=if i<n then ρ i else B+(i-n)
def Yo(ρ:Nat->Nat)(n B m:Nat):eu ρ n (yg ρ n B) (n+m):=⟨zo,fun i hi=>by unfold yg;grind⟩
def aoN(m:Nat)(hm:m<=100000)(w:Z):Calls bbA 77 #[zi (m:Nat)] w fun e w'=>Ext w w'/\w'.heap.size=w.heap.size+1+m /\
  ∃ cs,e = ah (cS w.heap.size m m)/\w'.heap[w.heap.size]?=aO cs 89/\cs.size=m /\
   ∀ j,j<m->cs[j]?=O (aj 87 (pp (w.heap.size+1+j)))/\w'.heap[w.heap.size+1+j]?=aO #[ai] 91:=by
 refine aoK ?_;refine bH ?_;refine⟨fun q z w'=>∃ (j:Nat) (cs:Array Y),z 9=zi (j:Nat)/\j<=m/\q=m-j/\Ext w w'/\w'.heap.size=w.heap.size+1+j/\w'.heap[w.heap.size]?=aO cs 89/\cs.size=m /\
   ∀ i,i<j->cs[i]?=O (aj 87 (pp (w.heap.size+1+i)))/\w'.heap[w.heap.size+1+i]?=aO #[ai] 91,
  ⟨_,0,_,J,Nat.zero_le _,J,(bB.refl _ _).alloc _,by rw[size_alloc],sK J,by simp [madeCells],fun i hi=>zo⟩,?_⟩
 intro q z d w1 b;refine toPr ?_;obtain⟨j,cs,a,h,rfl,k,s1,g1,l,n⟩:=b;have o:=bg g1;by_cases hlt:j<m
 .have p:((j:Nat):Int)<(m:Int):=zo;have c:((j:Nat):Int).toNat=j:=zo;have f:j<cs.size:=zo;refine jc a @c @g1 ?_;refine⟨_,zo,j+1,_,zs,zo,J,yF,yH,J,yH,fun i hi=>?_⟩;exact yH
 .have g:j=m:=zo;subst g;refine cJ a ?_;exact yH
def gO.fresh{T:Nat}{s:Sr}(h:gO D ρ n pb so T cs tv w s)(hD:∀ b,w.heap.size<=b->D b)(k:Ext w w')
  (hv:∀ j,j<m->w'.heap[w.heap.size+1+j]?=aO #[ai] 91):gO D (yg ρ n (w.heap.size+1)) (n+m) pb so T cs tv w' s:=by
 have hu:=Yo ρ n (w.heap.size+1) m;have hold:∀ i,i<n->ρ i<w.heap.size:=fun i hi=>by
  obtain⟨r,a,-⟩:=h.sv.var i hi;exact yH
 have d:=h.ext k;refine⟨⟨fun i j hi l e=>?_,fun i hi=>?_⟩,fun i hi=>?_,d.cell,?_,h.dr,h.ds,h.nd,fun p c=>a1W (h.lt p c) hu.1,h.ok⟩
 .unfold yg at e;by_cases a:i<n
  .by_cases f:j<n
   .rw[zip a,zip f] at e;exact h.sv.inj i j a f e
   grind
  grind
 .by_cases a:i<n
  .obtain⟨r,g1,g2⟩:=d.sv.var i a;refine⟨r,by rw[hu.2 i a];omega,?_⟩;cases g:P.look i s.tr with
   | none=>exact yH
   | some t=>rw[g] at g2;exact dI.mono zg hu.1 hu.2 (fun _ _ _ _ _ h=>h) t r g2
  .have g:P.look i s.tr=none:=P.Qg fun hm=>by
    obtain⟨p,c,rfl⟩:=List.mem_map.1 hm;exact a (h.lt p c)
   refine⟨ai,?_,zg⟩;unfold yg;rw[bM a];exact hv (i-n) zo
 .unfold yg;by_cases a:i<n
  .rw[zip a];grind [dv]
  exact yH
 .have e:rz (yg ρ n (w.heap.size+1)) s.tr=rz ρ s.tr:=by
   unfold rz;refine List.map_congr_left fun p c=>?_;rw[hu.2 p.1 (h.lt p (List.mem_reverse.1 c))]
  grind [row]
def kh.fresh{D:Nat->Prop}{ρ:Nat->Nat}{wb mb:Nat}{todo av vv tv:Y}{di:List Y}{w w':Z}{k:Wk}(h:kh D ρ wb mb todo av vv tv di w k)(hD:∀ b,w.heap.size<=b->D b){m:Nat}(a:Ext w w')
  (hv:∀ j,j<m->w'.heap[w.heap.size+1+j]?=aO #[ai] 91):kh D (yg ρ k.n (w.heap.size+1)) wb mb todo av vv tv di w' { k with n:=k.n+m }:=
 ⟨h.st.fresh hD a hv,h.td.bJ (eO.ed a) (Yo ρ k.n (w.heap.size+1) m),jL a.ext h.ar,h.ag.bJ (eO.ed a) (Yo ρ k.n (w.heap.size+1) m),h.da⟩
def aoO(c:w'.heap[b]?=aO cs 89)(f:cs.size=m)
  (d:∀ j,j<m->cs[j]?=O (aj 87 (pp (B+j)))):fJ (fun _=>True) w' 89 (cS b m m) (ni (yg ρ n B) (a2j n m)):=by
 have g:(ni (yg ρ n B) (a2j n m)).length=m:=zs;have e:cs.toList=ni (yg ρ n B) (a2j n m):=by
  apply List.ext_getElem?;intro j;by_cases a:j<m
  .rw[Array.getElem?_toList,d j a,List.getElem?_map,List.getElem?_range' a];simp only[yg,Option.map_some,Nat.mul_one,Nat.one_mul];grind
  grind
 exact .inr ⟨b,cs,zg,trivial,c,zo,zg⟩
def aKR(S:∀ i∈ft,i<n){l:List Ex}(T:fi ft.length l)(hl:l.length<=100)(hv:fJ (fun _=>True) w 106 v vs)(hx:eQ (fun _=>True) w vs l)
  (U:fJ (fun _=>True) w 89 vv (ni ρ ft)) :
  Calls bbA 228 #[v,vv] w fun e w'=>Ext w w'/\∃ u us,e = ah u/\fJ (fun _=>True) w' 89 u us/\qe ρ n w' us (nY ft l):=by
 have W:=hx.FF;obtain⟨av,ac,rfl⟩:=hv.sl;have hlen:vs.length=l.length:=W;rw[hlen];refine aKG ?_;refine bH ?_;refine⟨fun m z w'=>∃ j g us,z 9=zi (j:Nat)/\z 4=g/\j<=l.length/\m=l.length-j/\Ext w w'/\w'.ownsRow w.heap.size 89 1 g j us /\
   iG (fun c=>w.heap.size<=c/\c<w'.heap.size/\O c≠g.ownBlock) ρ n w' us (nY ft (l.take j)),
  ⟨_,0,bW,[],J,J,Nat.zero_le _,J,yF,World.ownsRow_nil _ _ _ _,by simp [nY];unfold iG;rfl⟩,?_⟩
 intro m z d w3 X;refine toPr ?_;obtain⟨j,g,us,s,D,hj,rfl,a,p,x⟩:=X;have s3:=a.size;obtain⟨y,rc,rfl⟩:=gV p;by_cases hlt:j<l.length
 .have qO:j<vs.length:=zo;obtain⟨sb,Jc,B,-,e3,E⟩:=hv.at' qO;obtain⟨u,e5,hu⟩:=eQ.at' j hlt hx;rw[e5] at E;rw[hlen] at B;simp only[a1I,true_and] at B;obtain⟨rfl,rfl⟩:=B;have j6:((j:Nat):Int).toNat=j:=zo;have C:=a.ext _ _ e3;refine dB s @C @E @j6 ?_;have Nb:eP (fun _=>True) w3 u l[j]:=eP.mono zg (by grind [bB.ext]) _ _ hu;refine a1r (aeX S (iD l[j]) l[j] (a1s _) (T.at hlt) Nb (U.mono (fun _ h=>h) fun b cs _ hb=>a.ext _ _ hb)) ?_;rintro e f ⟨q,u4,rfl,H⟩;have s4:=q.size;obtain⟨I,K,rfl⟩:=H.iface;refine bH ?_;have L:Ext f (f.alloc (ae #[aj I K] 89)):=yF;have Ay:=jL (q.trans L).ext p;rw[D];refine Qm (base:=w.heap.size) Ay (sK J) J zo (by rw[size_alloc];omega) ?_;intro v' w5 M N yf;have s5:=N.size;rw[size_alloc] at s5;have kp:∀ c o,f.heap[c]?=O o->O c≠(a1D y j rc).ownBlock->w5.heap[c]?=O o:=(by grind [size_alloc,bg,World.grownBy.block,bB.ext]);have lo:∀ k,(a1D y j rc).ownBlock=O k->w.heap.size<=k/\k<w3.heap.size:=fun k hk=>p.lt k hk;obtain⟨P,Q,rfl⟩:=gV M;have mX:∀ c,c<f.heap.size->O c≠(a1D y j rc).ownBlock->O c≠(a1D P (j+1) Q).ownBlock:=yH;refine cJ s ?_;refine⟨_,?_,j+1,.slice P (j+1) Q,us++[aj I K],zg,zg,zo,J,?_,M,?_⟩
  .omega
  .exact((a.trans q).trans L).grow N yH
  .rw[aeW ft l j hlt];refine iG.snoc ?_ ?_
   .refine dI.mono (F:=Nu w3 f) (fun c r=>?_) (a1s _) (fun _ _=>rfl) (fun c cs t r _ R=>?_) _ _ H<;>grind
   .refine iG.mono (fun c r=>?_) zo zg (fun c cs t r _ R=>?_) _ _ x
    .exact yH
    .exact kp c _ (q.ext _ _ R) r.2.2
 .have fp:j=l.length:=zo;subst fp;rw[List.take_length] at x;refine dj s D ?_;exact⟨a,_,us,J,EZ p zg,x.toT⟩
section
variable{D:Nat->Prop}{ρ:Nat->Nat}{wb mb:Nat}{todo av vv tv:Y}{di:List Y}{w w':Z}{k:Wk}
theorem qQ.take{n:Nat}:∀ {l:List oI} {vs:List Y} (m:Nat),qQ ρ n w vs l->qQ ρ n w (vs.take (m*4)) (l.take m)
 | l,vs,0,h=>by simp;rfl
 | [],vs,m+1,h=>by have h:vs=[]:=h;grind
 | a::l,vs,m+1,⟨b,cv,av,fV,us,rest,j,c,d,e,f,g,i⟩=>by
  refine⟨b,cv,av,fV,us,rest.take (m*4),?_,c,d,e,f,g,qQ.take m i⟩;grind
theorem qQ.at{n:Nat}:∀ {l:List oI} {vs:List Y} (m:Nat) (hm:m<l.length),qQ ρ n w vs l->∃ b cv av fV us,(vs.drop (m*4)).take 4=[zi ((l[m]).mark:Nat),b,cv,av]/\uM ρ n w b (l[m]).todo /\
   oK w 79 cv fV/\km (fun _=>True) w fV (l[m]).clauses/\fJ (fun _=>True) w 89 av us/\qe ρ n w us (l[m]).args
 | a::l,vs,0,_,⟨b,cv,av,fV,us,rest,d,e,f,g,h,i,c⟩=>zg
 | a::l,vs,m+1,hm,⟨b,cv,av,fV,us,rest,d,e,f,g,h,i,c⟩=>by
  obtain⟨j,o,av',p,k,g1,g2⟩:=qQ.at m zg c;grind
def kh.forget(h:kh D ρ wb mb todo av vv tv di w k)(hm:m<=k.bw.length){a:Option Addr}(b:av = .slice a k.bw.length c)
  (hw:w1=bQ w wb (ae #[.map (O mb),tv,zi (k.sr.fuel:Nat),todo,.slice a m c,vv] 130)) :
  kh D ρ wb mb todo (.slice a m c) vv tv (di.take (m*4)) w1 { k with bw:=k.bw.take m }/\dc D w w1:=by
 have i:=h.ag.len;have hr:w.ownsRow 0 356 4 (.slice a m c) m (di.take (m*4)):=by
  refine⟨zg,?_⟩;rcases h.ar.2 with⟨d,e⟩| ⟨g,cap,cur,d,e,j,n,o,p,q⟩<;>grind
 have f:w.grownBy w av.ownBlock:=⟨J,J,J,a1s _,yH⟩;obtain⟨r,s,-⟩:=h.Ll (l:=k.bw.take m) (av':=.slice a m c) (avs':=di.take (m*4)) zg f (.inl (by rw[b];cases a<;>rfl)) (h.ag.take m) hw;exact yF
def kh.again(h:kh D ρ wb mb todo av vv tv di w k)(hm:m<k.bw.length)(o:av = cS g k.bw.length c)(q:w.heap[g]?=aO iB 356)
  {cv:Y} {l:List Cl} (t:oK w 79 cv xs) (u:km (fun _=>True) w xs l) (d:w1=bQ w g (ae (iB.setIfInBounds (m*4+2) cv) 356 (0,0)))
  (x:w2=bQ w1 wb (ae #[.map (O mb),tv,zi (k.sr.fuel:Nat),todo,cS g (m+1) c,vv] 130)) :
  (∃ avs',kh D ρ wb mb todo (cS g (m+1) c) vv tv avs' w2 { k with bw:=k.bw.take m++[{ k.bw[m] with clauses:=l }] })/\dc D w w2/\w1.heap[wb]?=w.heap[wb]?:=by
 have M:=h.ag.len;obtain⟨f,p,i,y,us,N,g2,g3,g4,g5,g6⟩:=h.ag.at m hm;have z:=bg q;obtain⟨a,B⟩:=cg (di.take (m*4));have C:a.length=m*4:=zg;have P:w1.ownsRow 0 356 4 (cS g (m+1) c) (m+1) (a++[zi ((k.bw[m]).mark:Nat),f,cv,i]):=by
  refine⟨zg,?_⟩;rcases h.ar.2 with⟨j,r⟩| ⟨E,cap,Q,j,r,s,R,F,H,S⟩
  .exact yH
  .rw[o] at j;have j:g=E/\c=cap:=zg;obtain⟨rfl,rfl⟩:=j;rw[q] at s;cases s;refine .inr ⟨g,c,_,J,r,by rw[d];exact qz J z,zo,F,by simpa using H,?_⟩;have T:iB.toList.take ((m+1)*4)=a++[zi ((k.bw[m]).mark:Nat),f,p,i]:=by
    have U:iB.toList.take ((m+1)*4)=di.take ((m+1)*4):=by
     grind
    grind
   grind [Array.toList_setIfInBounds,List.take_set,List.set_append_right,Nat.add_sub_cancel_left]
 have I:w.grownBy w1 av.ownBlock:=⟨by rw[d];rfl,by rw[d];rfl,by rw[d];rfl,yH,fun b _ K=>by
  rw[d,jb (fun e=>K (by subst e;rw[o];rfl))]⟩
 have L:qQ ρ k.n w (a++[zi ((k.bw[m]).mark:Nat),f,cv,i]) (k.bw.take m++[{ k.bw[m] with clauses:=l }]):=by
  rw[B];exact(h.ag.take m).snoc ⟨f,cv,i,xs,us,[],J,g2,t,u,g5,g6,J⟩
 have W:(k.bw.take m++[{ k.bw[m] with clauses:=l }]).length=m+1:=by
  grind
 obtain⟨X,r2,r3⟩:=h.Ll (l:=k.bw.take m++[{ k.bw[m] with clauses:=l }]) zg I (.inl (by rw[o];rfl)) L x;exact yH
def Qy{w:Z}{size:Nat}{a:Option Addr}(h:w.ownsRow base e size (.slice a n c) n xs):n<=c/\∀ (m s:Nat),sliced a 0 m c s = .slice a m c:=by
 rcases h.2 with⟨d,f⟩| ⟨b,cap,cur,d,f,g,i,j,k,l⟩
 .cases d;exact⟨a1s _,(by grind [sliced])⟩
 grind [sliced,Addr.add]
theorem kh.dm(h:kh D ρ wb mb todo av vv tv di w k)(hD:∀ b,w.heap.size<=b->D b):∀ b,w.heap.size<=b->Dm D av b:=fun b a=>⟨hD b a,(by grind [bg,Ep])⟩
abbrev FI(D:Nat->Prop)(ρ:Nat->Nat)(n wb mb:Nat)(vv:Y)(p:Bool×Wk)(e:Ending)(w':Z):Prop:=
 e = ah (.bool p.1)/\∃ eM,eu ρ n eM p.2.n/\Qt D eM wb mb vv w' p.2
def aoQ(h:kh D ρ wb mb todo av vv tv di w k)(hD:∀ b,w.heap.size<=b->D b){us:List Y}{l:List Cl}{args:List Tm}{td:List P.Goal}{r:Except jE (Bool×Wk)}
  (hs:oK w 79 o4 xs) (hc:km (fun _=>True) w xs l) (ha:fJ (fun _=>True) w 89 iv us) (ht:qe ρ k.n w us args) (dA:jt args) (gN:∀ c∈l,y8 M c/\c.args.length=args.length) (hM:M<=100000)
  (rR:uM ρ k.n w o5 td) (hm:m<=k.bw.length) (n9:1<l.length->m<k.bw.length) (hz:k.sr.cV<=800000000) (zm:k.bw.length<=900000000) (hr:xd f args l td m k=O r) :
  Calls bbA 224 #[pp wb,iv,o4,o5,zi (m:Nat)] w (EPost D w (FI D ρ k.n wb mb vv) r):=by
 have Kb:k.sr.tr.length+k.sr.fuel<=800000000:=hz;unfold xd at hr;refine aKI ?_;refine bH ?_;refine a1r (NN h.less FH zo) ?_;rintro e w1 ⟨N,F⟩;by_cases h0:k.sr.fuel=0
 .rw[zip h0] at hr F;injection hr with hr;subst hr F;exact⟨N.up fun _ h=>h.1,J⟩
 rw[bM h0] at hr F;obtain⟨rfl,F⟩:=F;obtain⟨z,N⟩:=h.store F N;cases l with
 | nil=>cases hr
 | cons c rest=>
 simp only at hr;obtain⟨cv,Qu,rfl,iY,Ko⟩:=hc;obtain⟨Er,aWI⟩:=gN c (List.mem_cons_self ..);obtain⟨lb,lo,Uh,lcs,rfl,WS,rf,aKT⟩:=hs.at (j:=0) zs;rw[Nat.add_zero] at rf;have BL:=N.toI;have aKU:=BL _ _ _ (yM) WS;refine dj aKU rf ?_;obtain⟨aa,ac,Q⟩:=gV z.ar;have c1:=z.cell;have lw1:=bg c1;have R:Ext w1 w1.drew:=yF;refine⟨fun _ w'=>∃ av' avs',kh D ρ wb mb todo av' vv tv avs' w' { k with sr:=k.sr.dec,bw:=wZ k.bw m rest }/\dc D w w',?_,?_⟩
 .obtain⟨Qh,iQ⟩:=Qy (by rw[Q] at z;exact z.ar:w1.ownsRow 0 356 4 (.slice aa k.bw.length ac) k.bw.length di);have lV:av = .slice aa k.bw.length ac:=Q;cases rest with
  | nil=>
   have iY:Qu=[]:=Ko;subst iY;have Ui:(m:Int)<=(ac:Nat):=zo;refine jc @c1 Q iQ ?_;obtain⟨S,r2⟩:=z.forget hm lV J;exact⟨_,_,S,yF⟩
  | cons c2 rest=>
   obtain⟨cv2,Yr,rfl,-,-⟩:=id Ko;have xe:m<k.bw.length:=zg;rcases z.ar.2 with⟨B,e2⟩| ⟨g,cap,cur,B,e2,hg,T,e5,e6,e7⟩
   .have e2:k.bw.length=0:=e2;omega
   rw[Q] at B;cases B;have DQ:g≠wb:=zg;have aWJ:(m:Int)<(k.bw.length:Nat):=zo;obtain⟨sa,sc,zp⟩:∃ sa sc,sliced (O ⟨lb,lo,V⟩) 1 (Yr.length+1+1) Uh 1 = .slice sa (Yr.length+1) sc:=⟨_,_,J⟩;have Ui:(m:Int)+1<=(ac:Nat):=zo;have Qz:oK w1 79 (.slice sa (Yr.length+1) sc) (cv2::Yr):=by
    rw[<- zp];exact(hs.bJ fun b cs H=>BL _ _ _ (yM) H).tail zs
   refine dB @c1 Q hg (zA zp iQ) ?_;obtain⟨⟨avs',S⟩,r2,-⟩:=(z.ext R).again (m:=m) xe lV (R.ext _ _ hg) (Qz.bJ fun b cs H=>R.ext _ _ H) (km.iX (BL.trans (eO.ed R)) Ko) J J;have e3:((m:Int)+1).toNat=m+1:=zo;rw[e3];have T:wZ k.bw m (c2::rest)=k.bw.take m++[{ k.bw[m] with clauses:=c2::rest }]:=by
    grind [wZ,List.getElem?_eq_getElem]
   rw[T];exact⟨_,avs',S,N.trans ((dc.ed R).trans r2)⟩
 .rintro s w2 ⟨uL,QA,h2,dT⟩ d;clear d;have s2:=dT.size;have WY:=dT.toI;obtain⟨cb,cav,cbv,Ys,Uj,rfl,-,gS,⟨xus,ml,xH⟩,nW⟩:=iY;have K6:=WY _ _ _ (yM) gS;have Yt:=bg K6;have hM5:c.vars.length<=100000:=a1t Er.vars hM;refine cJ K6 ?_;refine a1r (aoN c.vars.length hM5 w2) ?_;rintro e w3 ⟨eH,s3,vcs,rfl,yX,Es,Yu⟩;have h3:=h2.fresh (fun b H=>hD b (a1t s2 H)) eH (fun j hj=>(Yu j hj).2);have C:=aoO (ρ:=ρ) (n:=k.n) yX Es (fun j hj=>(Yu j hj).1);have U:eu ρ k.n (yg ρ k.n (w2.heap.size+1)) (k.n+c.vars.length):=Yo _ _ _ _;have Hc:dc D w w3:=yF;generalize yg ρ k.n (w2.heap.size+1)=eM at h3 C U;have K8:=eH.ext _ _ K6;obtain⟨xa,xc,aKY⟩:=ml.sl;subst aKY;have J2:xus.length=c.args.length:=eQ.FF xH;refine dj K8 J2 ?_;cases hq:vy f (a2j k.n c.vars.length) args c.args k.sr.dec with
  | none=>rw[hq] at hr;cases hr
  | some q=>
  rw[hq] at hr;refine⟨fun n x a=>∃ j I FD,x 64=zi (j:Nat)/\j<=c.args.length/\n=c.args.length-j/\kh D eM wb mb todo uL vv FD QA a ⟨k.n+c.vars.length,I,k.todo,wZ k.bw m rest⟩/\dc D w3 a/\I.cV<=800000000 /\
    vy f (a2j k.n c.vars.length) (args.drop j) (c.args.drop j) I=O q,⟨_,0,_,_,J,Nat.zero_le _,J,h3,yF,by grind [Sr.cV,Sr.dec],hq⟩,?_⟩
  intro n x d a hI;refine toPr ?_;obtain⟨j,I,FD,Yv,hj,rfl,h4,gW,Yw,o⟩:=hI;have aKZ:=Hc.trans gW;have K:=dc.toI aKZ;have s4:=gW.size;by_cases hlt:j<c.args.length
  .have xl:=Er.qL;have Yx:j<args.length:=zo;obtain⟨sb,Jc,B,-,e3,T⟩:=ml.at' (j:=j) zo;obtain⟨u,e5,hu⟩:=eQ.at' j hlt xH;rw[e5] at T;rw[J2] at B;simp only[a1I,true_and] at B;obtain⟨rfl,rfl⟩:=B;have uO:us.length=args.length:=ht.length;obtain⟨ub,ucs,u1,-,u3,u4⟩:=ha.at' (j:=j) zo;obtain⟨uv,u5,N2⟩:=ht.at j Yx;rw[u5] at u4;have j6:((j:Nat):Int).toNat=j:=zo;have e34:=K _ _ _ (yM) e3;have Bl:=K _ _ _ (yM) u3;have C4:((j:Nat):Int)<(c.args.length:Nat):=zo;refine dB Yv @e34 @T @j6 ?_;have Uk:Ext a a.drew:=yF;refine⟨fun w'=>w'.heap[ub]?=a.heap[ub]?,J,?_⟩;rw[jx];refine cQ (pq wb 1) (fun w' t=>eT) ?_;have aK2:((j:Nat):Int)<(us.length:Nat):=zo;refine cQ (pq ub j) (fun w' t=>by rw[Bl] at t;have:=bg t;rw[u1,Yv];exact lM t @j6) ?_;obtain⟨Lb,xv1,W⟩:=N2.iface;refine cQ uv (fun w' t=>by rw[Bl] at t;have:=bg t;rw[W] at u4;exact Bk t @j6 @u4 W) ?_;have N0:∀ i∈a2j k.n c.vars.length,i<k.n+c.vars.length:=zg;have hXe:eO w a.drew:=K.trans (eO.ed Uk);have hx4:eP (fun _=>True) a.drew u c.args[j]:=eP.mono zg hXe.lF _ _ hu;have Fp:ie (a2j k.n c.vars.length).length c.args[j]:=by rw[List.length_range'];exact Er.args.at hlt
   refine a1r (aeX N0 (iD c.args[j]) c.args[j] zo Fp hx4 (C.iX ((dc.toI gW).trans (eO.ed Uk)) (yM))) ?_;rintro e L ⟨tY,u5v,rfl,Yj⟩;have E1:=tY.ext _ _ (Uk.ext _ _ Bl);refine⟨yH,?_⟩;have y:Ext a L:=yF;have h5:=h4.ext y;have hD5:∀ b,L.heap.size<=b->D b:=fun b H=>hD b (by have:=y.size;omega);obtain⟨E,X,Ul⟩:∃ E,lS f args[j] (P.made (a2j k.n c.vars.length) c.args[j]) I=O E /\
     (match E with | .error e=>q = .error e | .ok p=>(if p.1=A then vy f (a2j k.n c.vars.length) (args.drop (j+1)) (c.args.drop (j+1)) p.2 else O (.ok (G,p.2)))=O q):=by
    rw[a1y hlt,a1y Yx,vy] at o;cases hu:lS f args[j] (P.made (a2j k.n c.vars.length) c.args[j]) I with
    | none=>rw[hu] at o;cases o
    | some E=>
     rw[hu] at o;refine⟨E,J,?_⟩;cases E with
     | error e=>exact(Option.some.inj o).symm
     | ok p=>exact o
   refine a1r (Qj FH f h5.less (h5.dm hD5) (dK.Qr (K.trans (eO.ed y)) U N2) (I4 dA Yx) Yj.toT (adk _ _ Fp) zg X) ?_;rintro e w6 ⟨lh,oD⟩;have rC:dc D a w6:=(dc.ed y).trans (lh.up fun _ h=>h.1);cases E with
   | error te=>
    subst Ul;have oD:e=gP te:=oD;subst oD;cases hr;cases te<;>exact fun _=>⟨yF,J⟩
   | ok p=>
    obtain⟨b1,s6⟩:=p;obtain⟨rfl,tv6,h6⟩:=oD;obtain⟨h6,Um⟩:=h5.store h6 lh;have Yh:=((Fi f).tm X).1;cases b1 with
    | false=>
     simp only[Bool.false_eq_true,if_false] at Ul;cases Ul;cases hr;refine bH ?_;exact⟨yF,J,eM,U,_,_,_,_,h6⟩
    | true=>
     simp only[if_true] at Ul;refine cJ Yv ?_;exact⟨_,zo,j+1,s6,tv6,zg,zo,J,h6,yF,zg,Ul⟩
  .have fp:j=c.args.length:=zo;subst fp;have Iy:args.drop c.args.length=[]:=zg;rw[Iy,vy] at o
   .cases o;cases hr;have aK5:=K _ _ _ (yM) gS;have c4:=h4.cell;have lc4:=bg c4;obtain⟨tq,rfl⟩:=rR.ptr;obtain⟨xb,rfl,-⟩:=nW.shape;refine jc Yv aK5 @c4 ?_;obtain⟨L,nE⟩:=cg (a.alloc (ae #[pp xb,cS w2.heap.size c.vars.length c.vars.length,zi (m:Nat),.pointer tq] 207));have y:Ext a L:=yF;have g5:L.heap[a.heap.size]?=aO #[pp xb,cS w2.heap.size c.vars.length c.vars.length,zi (m:Nat),.pointer tq] 207:=yH;rw[<- nE];have Un:eO w L:=K.trans (eO.ed y);have N0:∀ i∈a2j k.n c.vars.length,i<k.n+c.vars.length:=zg;obtain⟨S,r2⟩:=(h4.ext y).Lk (todo':=pp a.heap.size) (l:=⟨O c.body,a2j k.n c.vars.length,m⟩::td)
     ⟨_,_,_,_,J,g5,dJ.iX Un nW,C.iX ((dc.toI gW).trans (eO.ed y)) (yM),N0,rR.bJ Un U⟩ J
    exact⟨yF,J,eM,U,_,_,_,_,S⟩
   grind
end
def P.keyOf(name:Bs)(n:Nat):Bs:=name++[47,UInt8.ofNat (48+n)]
theorem P.ae6{a b:Bs}(e:n<80)(hm:m<80):P.keyOf a n=P.keyOf b m↔a=b/\n=m:=by
 unfold P.keyOf;constructor
 .intro h;obtain⟨d,c⟩:=List.append_inj' h J;refine⟨d,?_⟩;injection c with _ c;injection c with c _;have:=congrArg UInt8.toNat c;grind [UInt8.toNat_ofNat']
 grind
def wrap32(n:Nat)(a:n<80):IntKind.i32.wrap (48+(n:Int))=((48+n:Nat):Int):=by
 grind [IntKind.wrap,IntKind.bits,IntKind.signed]
def aoV(name:Bs)(n:Nat)(b:name.length<=100)(a:n<80)(w:Z):Calls bbA 78 #[aT name,zi (n:Nat)] w fun e w'=>e = ah (aT (P.keyOf name n))/\w'=w:=by
 refine aKO ?_;refine bH ?_;rw[B9 _ _ zg];refine bH ?_;rw[wrap32 n a,ajv zk zk zo,B9 _ _ zg];exact⟨by grind [P.keyOf,List.append_assoc],J⟩
def Hg(base:List Cl)(name:Bs)(n:Nat):List Cl:=base.filter fun c=>c.name == name && c.args.length == n
def BM(w:Z)(mb:Nat)(base:List Cl):Prop:=∃ es c,w.heap[mb]?=O (.map es c)/\MH es.toList/\∀ (name:Bs) (n:Nat),n<=4->match Bi (P.keyOf name n) es.toList 0 with
 | none=>Hg base name n=[]
 | some (_,v)=>Hg base name n≠[]/\∃ vs,fJ (fun _=>True) w 79 v vs/\km (fun _=>True) w vs (Hg base name n)
theorem BM.bJ{base:List Cl}(h:BM w mb base)(hk:eO w w')(hm:∀ es c,w.heap[mb]?=O (.map es c)->w'.heap[mb]?=O (.map es c)):BM w' mb base:=by
 obtain⟨es,c,e,a,b⟩:=h;refine⟨es,c,yH,a,fun name n d=>?_⟩;have:=b name n d;split at this
 .omega
 .rename_i i v hx;obtain⟨g1,vs,g2,g3⟩:=this;exact⟨g1,vs,g2.iX hk (yM),g3.iX hk⟩
theorem BM.fr{base:List Cl}(h:BM w mb base)(a:dc D w w'):BM w' mb base:=
 h.bJ (dc.toI a) fun es c hm=>a.block _ _ hm (by rintro ⟨_,cs',b,z,d,e⟩;grind)
def aoW{x:Operand}(a:Option Addr)(n c:Nat):RD bbA (bo .eql 68 x y (.slice a n c) bW) w K X=K (.bool a.isNone):=
 gQ (by cases a<;>kernel_rfl)
section
variable{D:Nat->Prop}{ρ:Nat->Nat}{wb mb:Nat}{todo av vv tv:Y}{di:List Y}{w w':Z}{k:Wk}
def kh.part(h:kh D ρ wb mb todo av vv tv di w k){q:Except jE (Bool×Sr)}{r:Except jE (Bool×Wk)}(hr:P.Out.bind (O q) (fun p=>O (.ok (p.1,{ k with sr:=p.2 })))=O r){e:Ending}
  (a:EPost (Dm D av) w (xp (Dm D av) ρ k.n wb 1 130 (He mb todo av vv)) q e w'):EPost D w (FI D ρ k.n wb mb vv) r e w':=by
 obtain⟨b,a⟩:=a;cases q with
 | error t=>
  cases hr;exact⟨b.up fun _ h=>h.1,a⟩
 | ok p=>
  cases hr;obtain⟨rfl,g,c⟩:=a;obtain⟨d,f⟩:=h.store c b;exact⟨f,J,ρ,eu.refl _ _,_,_,_,_,d⟩
def EPost.ae7{r:Except jE (Bool×Wk)}{e:Ending}(h:EPost D w (FI D ρ n wb mb vv) r e w') :
 ends (fun x w'=>EPost D w (FI D ρ n wb mb vv) r (ah x) w') (PC (EPost D w (FI D ρ n wb mb vv) r)) e w':=h.tail zg
def aK6(h:kh D ρ wb mb todo av vv tv di w k)(hD:∀ b,w.heap.size<=b->D b){base:List Cl}(hB:BM w mb base)(gN:∀ c∈base,y8 M c)(hM:M<=100000){name:Bs}{args:List Ex}
  (o:dJ (fun _=>True) w o5 (.mk pb name args gr)) (hv:fJ (fun _=>True) w 89 o4 (ni ρ ft)) (QD:∀ i∈ft,i<k.n) (eZ:eX ft.length M (.mk pb name args gr))
  (hz:k.sr.cV<=800000000) (zm:k.bw.length<900000000) {r:Except jE (Bool×Wk)} (hr:KI base f name args ft k=O r) :
  Calls bbA 227 #[pp wb,o5,o4] w (EPost D w (FI D ρ k.n wb mb vv) r):=by
 have Kb:k.sr.tr.length+k.sr.fuel<=800000000:=hz;unfold dJ at o;obtain⟨gb,gav,gpv,gus,gps,rfl,-,QE,Uo,B,-,-⟩:=o;unfold eX at eZ;obtain⟨mT,-,-,GV,Fp,-,-,-⟩:=eZ;have lgb:=bg QE;have hc:=h.cell;have lwb:=bg hc;refine aKJ ?_;have Bp:gus.length=args.length:=eQ.FF B;obtain⟨ga,gc,aLa⟩:=Uo.sl;subst aLa;refine cJ QE ?_;refine a1r (aKR QD Fp zo Uo B hv) ?_;rintro e w1 ⟨dF,u,us,rfl,og,kU⟩;have C:=h.ext dF;have E:=dF.ext _ _ QE;have aWQ:=bg E;have F:=C.cell;have aWR:=bg F;have s1:=dF.size;have uO:us.length=args.length:=by rw[kU.length,(KD ft args Fp).2]
 obtain⟨ua,uc,N2⟩:=og.sl;subst N2;have aK2:(us.length:Int)=(args.length:Nat):=zo;refine cJ E ?_;refine a1r (M7 name) ?_;rintro e a ⟨rfl,rfl⟩;refine bH ?_;have dD:Ext a a.drew:=yF;have aLc:Ext w a.drew:=yF;unfold KI at hr;by_cases ht:jw name=args.length
 .rw[zip ht] at hr;have BF:jw name=(us.length:Int):=zo;refine dj BF E ?_;cases hq:xW f name (nY ft args) k.sr with
  | none=>rw[hq] at hr;cases hr
  | some q=>
  rw[hq] at hr;have H:=C.ext dD;refine a1r (aoB FH (r:=q) H.less (by grind [Ca,kh.dm]) (og.mono zg yH) (kU.bJ (ry.ed dD)) (by grind [KD]) (by grind [KD]) zo hq) ?_;rintro e w2 I;have I:=H.part hr I;exact EPost.ae7 (I.of yF)
 .rw[bM ht] at hr;have BF:¬ jw name=(us.length:Int):=zo;refine dj BF E ?_;have hdw:a.drew.heap=a.heap:=rfl;refine⟨fun w'=>w'.heap[wb]?=a.heap[wb]?/\w'.heap[gb]?=a.heap[gb]?,yH,?_⟩;rw[jx];refine cQ (pp wb) (fun w' j=>eT) ?_;refine cQ (.map (O mb)) (fun w' j=>by have p:=j.1;rw[F] at p;have:=bg p;exact fh p) ?_;rw[jx];refine cQ (pq gb 1) (fun w' j=>eT) ?_;refine cQ (aT name) (fun w' j=>by have p:=j.2;rw[E] at p;have:=bg p;exact fh p) ?_;refine bH ?_;refine a1r (aoV name us.length zo zo _) ?_;rintro e w2 ⟨rfl,rfl⟩;refine⟨yH,?_⟩;rw[uO];have H:=C.ext dD;obtain⟨es,ec,b1,b2,x⟩:=hB.fr (D:=D) (dc.ed aLc);have x:=x name args.length zo;have je:(base.filter fun c=>c.name == name && c.args.length == args.length)=Hg base name args.length:=rfl;rw[je] at hr;have xm:∀ {K:Y->Prop} {X:Y->Z->Prop},RD bbA (Instr.lookup 125 (.map (O mb)) (.string (bs (P.keyOf name args.length))) G) a.drew K X=(match Bi (P.keyOf name args.length) es.toList 0 with
    | some (_,v)=>K v
    | none=>K (.slice V 0 0)):=fun{K X}=>by
   rw[ajA (k:=9) (e:=68) zk zk (z:=bW) zk b1 b2];rfl
  rw[xm];cases L:Bi (P.keyOf name args.length) es.toList 0 with
  | none=>
   rw[L] at x;rw[show Hg base name args.length=[] from x] at hr;cases hr;refine⟨fun _ _=>False,?_,by rintro _ _ h;exact h.elim⟩;show RD _ _ _ _ _;rw[aoW];refine bH ?_;exact⟨yF,J⟩
  | some iv=>
   obtain⟨i,v⟩:=iv;rw[L] at x;obtain⟨ee,vs,Es,jK⟩:=(x:Hg base name args.length≠[]/\∃ vs,fJ (fun _=>True) a.drew 79 v vs/\km (fun _=>True) a.drew vs (Hg base name args.length));obtain⟨l,hl⟩:=cg (Hg base name args.length);have hr:xd f (nY ft args) l k.todo k.bw.length { k with bw:=k.bw++[⟨k.sr.tr.length,k.todo,l,nY ft args⟩] }=O r:=by
    grind
   rw[<- hl] at jK ee;have N:vs≠[]:=by
    rintro rfl;cases l with
    | nil=>grind
    | cons c0 l0=>obtain⟨_,_,h0,-⟩:=jK;grind
   obtain⟨vb,vcs,rfl,-,yX,-,-⟩:=Es.resolve_left zg;refine⟨fun _ w'=>w'=a.drew,?_,?_⟩
   .show RD _ _ _ _ _;rw[aoW];exact eT
   .rintro s w3 rfl d;clear d;have c1d:a.drew.heap[wb]?=_:=F;obtain⟨aa,ac,gx⟩:=gV H.ar;obtain⟨tq,Q⟩:=H.td.ptr;refine dj @c1d gx ?_;refine⟨fun w'=>w'.heap[wb]?=a.heap[wb]?,J,?_⟩;refine toPr ?_;rw[jx];refine cQ (pq wb 4) (fun w' j=>eT) ?_;refine cQ av (fun w' j=>by rw[F] at j;have:=bg j;exact lM j gx) ?_;rw[jx];refine cQ (pq wb 1) (fun w' j=>eT) ?_;rw[jx];refine cQ (pq wb 3) (fun w' j=>eT) ?_;refine cQ (.pointer tq) (fun w' j=>by rw[F] at j;have:=bg j;exact lM j Q) ?_;have Ek:Ext a a.drew.drew:=yF;refine a1r (TR (C.ext Ek).st FH) ?_;rintro e w4 ⟨rfl,rfl⟩;refine⟨J,?_⟩;refine bH ?_;obtain⟨l0,rf⟩:∃ l0:List Y,l0=[zi (k.sr.tr.length:Nat),.pointer tq,cS vb vs.length vcs.size,.slice ua args.length uc]:=⟨_,J⟩;obtain⟨y,nE⟩:=cg (a.drew.drew.alloc (ae l0.toArray 356 (0,0)));have N4:Ext a y:=yF;have g5:y.heap[a.heap.size]?=aO l0.toArray 356:=yH;have s5:y.heap.size=a.heap.size+1:=yH;rw[rf] at nE;rw[<- nE];have R:=C.ext N4;have q5:=R.cell;refine aoJ (n:=k.bw.length) R.ar g5 zg (by rw[rf];intro u hu;simp only[List.mem_cons,List.not_mem_nil,or_false] at hu;rcases hu with rfl | rfl | rfl | rfl<;>rfl) zo zo ?_;intro v' w6 S pY Br;obtain⟨p6,d6,e6⟩:=gV S;subst e6;obtain⟨w7,Yy⟩:=cg (bQ w6 wb (ae #[.map (O mb),tv,zi (k.sr.fuel:Nat),todo,.slice p6 (k.bw.length+1) d6,vv] 130));have U:eO a.drew y:=fun b cs T hT o=>yH;have W:=Es.iX U (yM);have ao5:=jK.iX U;have t:=og.mono (F':=fun _=>True) (fun _ _=>trivial) fun b cs _ o=>N4.ext _ _ o;have ao6:=kU.bJ (ry.ed N4);rw[uO] at t;have lV:qQ ρ k.n y (di++l0) (k.bw++[⟨k.sr.tr.length,k.todo,l,nY ft args⟩]):=by
     refine R.ag.snoc ⟨.pointer tq,_,_,vs,us,[],zg,?_,oK.of W N,ao5,t,ao6,J⟩;rw[<- Q];exact R.td
    obtain⟨r1,r2,r3⟩:=R.Ll (l:=k.bw++[⟨k.sr.tr.length,k.todo,l,nY ft args⟩]) (by rw[a1v,a2e];exact S) pY (Br.imp id fun hx g hg=>⟨hD g (by have:=hx g hg;omega),hx g hg⟩) lV Yy;refine⟨yH,?_⟩;have c6:=r3.trans q5;have l6:=bg c6;refine cJ @c6 ?_;rw[<- Yy];have ao7:dc D w w7:=(dc.ed (dF.trans N4)).trans r2;have Yz:eO y w7:=dc.toI r2;have y9:=KD ft args Fp;refine a1r (aoQ (k:={ k with bw:=k.bw++[⟨k.sr.tr.length,k.todo,l,nY ft args⟩] }) (M:=M) (f:=f) (m:=k.bw.length) (l:=l) (args:=nY ft args) (td:=k.todo) (r:=r) r1 (fun b o=>hD b (a1t ao7.size o))
     (oK.of (W.iX Yz (yM)) N) (ao5.iX Yz) (t.iX Yz (yM)) (qe.Qr Yz (eu.refl _ _) ao6) y9.1 (fun c hc=>?_) hM r1.td zs zg hz zg hr) ?_
    .grind
    .rintro e w8 I;exact EPost.ae7 (I.of ao7)
end
