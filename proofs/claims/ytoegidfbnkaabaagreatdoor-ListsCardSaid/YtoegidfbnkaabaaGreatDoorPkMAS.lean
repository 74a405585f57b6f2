/- A part of one proof (KW1, KW2, ShQ2, KW3, KW4, KW5). -/
import Derived.Test.YtoegidfbnkaabaaGreatDoorPkMAR
set_option linter.all false
set_option maxRecDepth 100000
set_option maxHeartbeats 8000000
open Option renaming some → O, none → V
open Go renaming Value → Y, World → Z
open Bool renaming true → G, false → ae
open Go.Obj renaming cells → ah
open Go.Ending renaming returned → ai
open Go.Value renaming nilIface → aj, iface → ak, tuple → aq, pointer → au
open Option.some renaming injEq → a3I
open Go.Calls renaming mono → a3L
open List renaming length_append → a3M, drop_eq_getElem_cons → a3U, length_singleton → a4v, range' → a4z
open Nat renaming le_refl → a3O, le_trans → a3Q, lt_of_lt_of_le → a4i
open Go.Value renaming slice → a3Y
open Go.Value.slice renaming injEq → a34
open Go.Proofs.Tryz renaming prog → bdN
namespace Go.Proofs.YtoegidfbnkaabaaGreatDoor
open P
open Go.RowKit Sx
variable{B M b base c cap e f g j m mb n o pb so:Nat}{D F:Nat->Prop}{K:Y->Prop}{X:Y->Z->Prop}{av iv o4 o5 tv v vv:Y}{cs iF:Array Y}{t:Tm}{ur ρ:Nat->Nat}{gz:List Bd}{fz:List Nat}{vs xs:List Y}{w w' w1 w2:Z}{y:Operand}
def oN(w:Z)(a:TypeId)(v:Y)(vs:List Y):Prop:=
 (vs=[]/\v = bW) \/
 ∃ b o cap cs,v = .slice (O ⟨b,o,V⟩) vs.length cap/\w.heap[b]?=aO cs a/\vs.length<=cap/\(cs.toList.drop o).take vs.length=vs/\vs≠[]
theorem oN.of{a:TypeId}(h:fO F w a v vs)(c:vs≠[]):oN w a v vs:=by
 rcases h with h | ⟨b,cs,d,-,e,f,g⟩
 .grind
 .exact .inr yH
theorem oN.nil{a:TypeId}:oN w a bW []:=.inl ⟨J,J⟩
theorem oN.bL{a:TypeId}(h:oN w a v vs)(hw:∀ (b:Nat) (cs:Array Y),w.heap[b]?=aO cs a->w'.heap[b]?=aO cs a):oN w' a v vs:=by
 rcases h with h | ⟨b,o,cap,cs,c,d,e,f⟩
 .exact .inl h
 .exact .inr yH
theorem oN.at{a:TypeId}(h:oN w a v vs)(c:j<vs.length):∃ b o cap cs,v = .slice (O ⟨b,o,V⟩) vs.length cap/\w.heap[b]?=aO cs a/\cs[o+j]?=vs[j]?/\vs.length<=cap:=by
 rcases h with⟨rfl,-⟩| ⟨b,o,cap,cs,d,e,f,g,-⟩<;>grind
def oN.tail{a:TypeId}{x:Y}(h:oN w a (.slice (O ⟨b,o,V⟩) n cap) (x::vs))(d:vs≠[]):oN w a (sliced (O ⟨b,o,V⟩) 1 n cap 1) vs:=by
 rcases h with⟨h,-⟩| ⟨i,j,k,cs,c,e,f,g,-⟩
 .grind
 .simp only[a34,a3I,Addr.mk.injEq,and_true] at c;obtain⟨⟨rfl,rfl⟩,rfl,rfl⟩:=c;have m:vs.length≠0:=zg;simp only[List.length_cons] at f g;refine .inr ⟨b,o+1,cap-1,cs,?_,e,zo,?_,d⟩
  .unfold sliced;rw[bU zo];simp [Addr.add]
  .cases p:cs.toList.drop o with
   | nil=>grind
   | cons y l=>
    grind [List.tail_drop]
def Re(w:Z)(v:Y):Option Bd->Prop
 | none=>v = au V
 | some b=>dL (fun _=>True) w v b
def uZ(ρ:Nat->Nat)(n:Nat)(w:Z):Y->List P.Goal->Prop
 | v,[]=>v = au V
 | v,g::r=>∃ b a vv nx,v = au (O ⟨b,0,V⟩)/\w.heap[b]?=O (ah #[a,vv,.int .i64 (g.cut:Nat),nx] 207 (0,0))/\Re w a g.FP /\
  fO (fun _=>True) w 89 vv (ny ρ g.vars)/\(∀ i∈g.vars,i<n)/\uZ ρ n w nx r
def qX(ρ:Nat->Nat)(n:Nat)(w:Z):List Y->List oL->Prop
 | vs,[]=>vs=[]
 | vs,a::r=>∃ b cv av fX us rest,vs=[.int .i64 (a.mark:Nat),b,cv,av]++rest/\uZ ρ n w b a.todo/\oN w 79 cv fX/\ky (fun _=>True) w fX a.clauses /\
  fO (fun _=>True) w 89 av us/\ql ρ n w us a.args/\qX ρ n w rest r
def Va(T:Nat):Prop:=lH T\/T=9\/T=57\/T=121
def yM{p:Prop}(h:p:=by first | (unfold Va lH;decide) | (unfold lH;decide)):p:=h
def eJ(w w':Z):Prop:=∀ (b:Nat) (cs:Array Y) (T:Nat),¬ Va T->w.heap[b]?=aO cs T->w'.heap[b]?=aO cs T
def dc.toI(h:dc D w w'):eJ w w':=fun _ _ _ a b=>h.bL (fun h=>a (.inl h)) b
theorem eJ.ea(h:Ext w w'):eJ w w':=fun _ _ _ _ a=>h.ext _ _ a
theorem eJ.trans{a b c:Z}(h:eJ a b)(k:eJ b c):eJ a c:=fun x cs T d e=>k x cs T d (h x cs T d e)
theorem eJ.toT(h:eJ w w'):YS w w':=fun b cs t _ ht a=>h b cs t (by rcases ht with rfl | rfl<;>(first | (unfold Va lH;decide) | (unfold lH;decide))) a
theorem eJ.lL(h:eJ w w'):∀ (b:Nat) (o:Obj),True->D0 o->w.heap[b]?=O o->w'.heap[b]?=O o:=fun b o _ a c=>by
 cases o with
 | cells cs t z=>
  obtain⟨ht,rfl⟩:=a;exact h b cs t (by rcases ht with rfl | rfl | rfl | rfl<;>(first | (unfold Va lH;decide) | (unfold lH;decide))) c
 | _=>exact a.elim
def dL.iS(hk:eJ w w'){b:Bd}(h:dL (fun _=>True) w v b):dL (fun _=>True) w' v b:=dL.mono zg hk.lL b v h
theorem Re.bL{w w':Z}(hk:eJ w w'){v:Y}:∀ {o:Option Bd},Re w v o->Re w' v o
 | none,h=>h
 | some _,h=>dL.iS hk h
def fO.iS(hk:eJ w w')(a:¬ Va pb)(h:fO (fun _=>True) w pb v vs):fO (fun _=>True) w' pb v vs:=h.mono zg fun b cs _ c=>hk b cs pb a c
def FI.iS{w w':Z}(hk:eJ w w'){v:Y}{c:Cl}(h:FI (fun _=>True) w v c):FI (fun _=>True) w' v c:=by
 obtain⟨b,av,bv,a,d,e,f,g,⟨us,i,j⟩,k⟩:=h;exact⟨b,av,bv,a,d,e,f,hk _ _ _ (yM) g,⟨us,fO.iS hk (yM) i,eS.mono zg hk.lL _ _ j⟩,dL.iS hk k⟩
def ky.iS{w w':Z}(hk:eJ w w'):∀ {vs:List Y} {l:List Cl},ky (fun _=>True) w vs l->ky (fun _=>True) w' vs l
 | vs,[],h=>h
 | vs,c::l,⟨v,r,a,b,d⟩=>⟨v,r,a,b.iS hk,ky.iS hk d⟩
def eu(ρ:Nat->Nat)(n:Nat)(eP:Nat->Nat)(a:Nat):Prop:=n<=a/\∀ i,i<n->eP i=ρ i
theorem eu.refl(ρ:Nat->Nat)(n:Nat):eu ρ n ρ n:=⟨a3O _,zg⟩
theorem eu.trans{a b c:Nat->Nat}{i j k:Nat}(h:eu a i b j)(d:eu b j c k):eu a i c k:=⟨a3Q h.1 d.1,fun x hx=>(d.2 x (a4i hx h.1)).trans (h.2 x hx)⟩
def ap5(h:eu ρ n ur pb){l:List Nat}(a:∀ i∈l,i<n):ny ur l=ny ρ l:=by
 unfold ny;exact List.map_congr_left fun i hi=>by rw[h.2 i (a i hi)]
def ql.Rf(hk:eJ w w')(hu:eu ρ n ur pb){l:List Tm}(h:ql ρ n w vs l):ql ur pb w' vs l:=iJ.mono zg hu.1 hu.2 hk.toT _ _ h
def dO.Rf(hk:eJ w w')(hu:eu ρ n ur pb)(h:dO ρ n w v t):dO ur pb w' v t:=dK.mono zg hu.1 hu.2 hk.toT _ _ h
theorem uZ.bL{ρ eP:Nat->Nat}{n a:Nat}{w w':Z}(hk:eJ w w')(hu:eu ρ n eP a):∀ {l:List P.Goal} {v:Y},uZ ρ n w v l->uZ eP a w' v l
 | [],v,h=>h
 | g::r,v,⟨b,d,vv,nx,e,f,j,k,c,m⟩=>⟨b,d,vv,nx,e,hk _ _ _ (yM) f,j.bL hk,by rw[ap5 hu c];exact fO.iS hk (yM) k,
  fun i hi=>a4i (c i hi) hu.1,uZ.bL hk hu m⟩
theorem qX.bL{ρ eP:Nat->Nat}{n c:Nat}{w w':Z}(hk:eJ w w')(hu:eu ρ n eP c):∀ {l:List oL} {vs:List Y},qX ρ n w vs l->qX eP c w' vs l
 | [],vs,h=>h
 | a::r,vs,⟨d,cv,av,fX,us,rest,e,f,g,i,j,k,m⟩=>⟨d,cv,av,fX,us,rest,e,f.bL hk hu,g.bL fun b cs o=>hk b cs _ (yM) o,i.iS hk,
  fO.iS hk (yM) j,k.Rf hk hu,qX.bL hk hu m⟩
def qX.len{ρ:Nat->Nat}{n:Nat}{w:Z}:∀ {l:List oL} {vs:List Y},qX ρ n w vs l->vs.length=l.length*4
 | [],vs,h=>by have h:vs=[]:=h;grind
 | a::r,vs,⟨d,cv,av,fX,us,rest,b,_,_,_,_,_,c⟩=>by
  rw[b,a3M,qX.len c];grind
def Tryz.aMk:(Tryz.prog.info? 356).map (fun i=>(i.zero,i.size,i.bytes))=O (O (.agg #[zi 0,au V,bW,bW]),4,64):=zk
def ap6(c:w.ownsRow base 356 4 v n xs){l:List Y}
  (d:w.heap[b]?=aO l.toArray 356) (p:l.length=4) (q:∀ u∈l,u.oneCell'=G)
  (r:n<=900000000) (f:base<=w.heap.size) {K:Y->Z->Prop}
  (h:∀ v' w',w'.ownsRow base 356 4 v' (n+1) (xs++l)->w.grownBy w' v.ownBlock->(v'.ownBlock=v.ownBlock\/∀ k,v'.ownBlock=O k->w.heap.size<=k)->K v' w') :
  WR bdN (Builtin.append_ #[128,128] 128 #[v,cS b 1 m]) w K X:=by
 obtain⟨i,hi,a⟩:=Option.map_eq_some_iff.1 Tryz.aMk;simp only[Prod.mk.injEq] at a;obtain⟨g,j,o⟩:=a;exact Sx.DY (m:=1) (t:=128) (e:=356) zk hi g j o J zo c d zo zg zo zo f h
def Dm(D:Nat->Prop)(av:Y)(b:Nat):Prop:=D b/\av.ownBlock≠O b
theorem dc.up{D':Nat->Prop}(h:dc D w w')(a:∀ b,D b->D' b):dc D' w w':=bD.mono h fun b o _ hm=>⟨a b hm.1,hm.2⟩
theorem gV.up{D':Nat->Prop}{T:Nat}{s:Sr}(h:gV D ρ n pb so T cs tv w s)(a:∀ b,D b->D' b):gV D' ρ n pb so T cs tv w s:=
 ⟨h.sv,(by grind [dv]),h.cell,h.row,(by grind [dr]),a _ h.ds,h.nd,h.lt,h.ok⟩
abbrev H7(mb:Nat)(todo av vv:Y):Array Y:=#[.map (O mb),.slice V 0 0,zi 0,todo,av,vv]
theorem Gb:vU 1 130 (H7 mb tv av vv):=⟨zs,.inl J⟩
structure ku(D:Nat->Prop)(ρ:Nat->Nat)(wb mb:Nat)(todo av vv tv:Y)(dk:List Y)(w:Z)(k:Wk):Prop where
 st:gV D ρ k.n wb 1 130 (H7 mb todo av vv) tv w k.sr
 td:uZ ρ k.n w todo k.todo
 ar:w.ownsRow 0 356 4 av k.bz.length dk
 ag:qX ρ k.n w dk k.bz
 da:∀ g,av.ownBlock=O g->D g
def Rg(D:Nat->Prop)(ρ:Nat->Nat)(wb mb:Nat)(vv:Y)(w:Z)(k:Wk):Prop:=∃ todo av tv dk,ku D ρ wb mb todo av vv tv dk w k
section
variable{D:Nat->Prop}{ρ:Nat->Nat}{wb mb:Nat}{todo av vv tv:Y}{dk:List Y}{w w':Z}{k:Wk}
theorem ku.cell(h:ku D ρ wb mb todo av vv tv dk w k):w.heap[wb]?=aO #[.map (O mb),tv,zi (k.sr.fuel:Nat),todo,av,vv] 130:=h.st.cell
theorem ku.ext(h:ku D ρ wb mb todo av vv tv dk w k)(a:Ext w w'):ku D ρ wb mb todo av vv tv dk w' k:=
 ⟨h.st.ext a,h.td.bL (eJ.ea a) (eu.refl _ _),jK a.ext h.ar,h.ag.bL (eJ.ea a) (eu.refl _ _),h.da⟩
theorem ku.ES(h:ku D ρ wb mb todo av vv tv dk w k)(a:av.ownBlock=O g):∃ cs,w.heap[g]?=aO cs 356:=by
 rcases h.ar.2 with⟨rfl,-⟩| ⟨b,cap,cur,rfl,-,c,-⟩
 .cases a
 grind [Value.ownBlock,a3I]
def ku.less(h:ku D ρ wb mb todo av vv tv dk w k):gV (Dm D av) ρ k.n wb 1 130 (H7 mb todo av vv) tv w k.sr:=by
 refine⟨h.st.sv,fun i hi=>⟨h.st.dv i hi,fun e=>?_⟩,h.st.cell,h.st.row,fun g b=>⟨h.st.dr g b,fun e=>?_⟩,⟨h.st.ds,fun e=>?_⟩,h.st.nd,h.st.lt,h.st.ok⟩
 .obtain⟨cs,a⟩:=h.ES e;obtain⟨ref,c,-⟩:=h.st.sv.var i hi;grind
 .obtain⟨cs,a⟩:=h.ES e;exact absurd b (h.st.YW a zo)
 .obtain⟨cs,a⟩:=h.ES e;have c:=h.cell;grind
def aMl{size:Nat}(h:w.ownsRow base e size v m xs)(a:dc (Dm D v) w w'):w'.ownsRow base e size v m xs:=by
 refine⟨h.1,?_⟩;rcases h.2 with g | ⟨b,cap,cur,rfl,c,d,f⟩
 .exact yH
 .exact .inr ⟨b,cap,cur,J,c,a.block _ _ d (fun hm=>hm.1.2 J),f⟩
def ku.store(h:ku D ρ wb mb todo av vv tv dk w k){s':Sr}(b:gV (Dm D av) ρ k.n wb 1 130 (H7 mb todo av vv) o4 w' s')(a:dc (Dm D av) w w') :
  ku D ρ wb mb todo av vv o4 dk w' { k with sr:=s' }/\dc D w w':=
 ⟨⟨b.up fun _ h=>h.1,h.td.bL a.toI (eu.refl _ _),aMl h.ar a,h.ag.bL a.toI (eu.refl _ _),h.da⟩,a.up fun _ h=>h.1⟩
def ku.LW(h:ku D ρ wb mb todo av vv tv dk w k){todo':Y}{l:List P.Goal}(c:uZ ρ k.n w todo' l)
  (hw:w1=bR w wb (ah #[.map (O mb),tv,zi (k.sr.fuel:Nat),todo',av,vv] 130)):ku D ρ wb mb todo' av vv tv dk w1 { k with todo:=l }/\dc D w w1:=by
 obtain⟨b,a⟩:=h.st.cells (by grind [Gb]) (cs':=H7 mb todo' av vv) (f:=k.sr.fuel);have e:bR w wb (ah (kB ((H7 mb todo' av vv).setIfInBounds 1 tv) 1 (k.sr.fuel:Nat)) 130 (0,0))=w1:=zg;rw[e] at b a;refine⟨⟨b,c.bL a.toI (eu.refl _ _),?_,h.ag.bL a.toI (eu.refl _ _),h.da⟩,a⟩;rw[hw];refine Jy h.ar fun e=>?_;obtain⟨cs,d⟩:=h.ES e;have g:=h.cell;grind
def ku.LX(h:ku D ρ wb mb todo av vv tv dk w k){av':Y}{avs':List Y}{l:List oL}(hr:w1.ownsRow 0 356 4 av' l.length avs')
  (d:w.grownBy w1 av.ownBlock) (hv:av'.ownBlock=av.ownBlock\/∀ g,av'.ownBlock=O g->D g/\w.heap.size<=g) (q:qX ρ k.n w avs' l)
  (hw:w2=bR w1 wb (ah #[.map (O mb),tv,zi (k.sr.fuel:Nat),todo,av',vv] 130)) :
  ku D ρ wb mb todo av' vv tv avs' w2 { k with bz:=l }/\dc D w w2/\w1.heap[wb]?=w.heap[wb]?:=by
 have s:=h.cell;have u:∀ (b:Nat) (c:Array Y) (U:Nat),w.heap[b]?=aO c U->U≠356->w1.heap[b]?=aO c U:=(by grind [bn,World.grownBy.block,ES]);have f1:dc D w w1:=⟨d.os,d.tape,d.output,d.size,fun b o i hm=>by
  rw[d.block b (bn i) (fun e=>?_)]
  .omega
  .obtain⟨cs,a⟩:=h.ES e.symm;rw[i] at a;exact hm ⟨h.da b e.symm,_,_,_,Option.some.inj a,.inr zg⟩⟩
 have s1:gV D ρ k.n wb 1 130 (H7 mb todo av vv) tv w1 k.sr:=by
  refine⟨h.st.sv.bL fun b c t ht i=>yH,h.st.dv,yH,?_,h.st.dr,h.st.ds,h.st.nd,h.st.lt,h.st.ok⟩;refine⟨h.st.row.1,?_⟩;rcases h.st.row.2 with a | ⟨b,cap,cur,j,p,r,x⟩<;>grind
 obtain⟨a,p⟩:=s1.cells (by grind [Gb]) (cs':=H7 mb todo av' vv) (f:=k.sr.fuel);have e:bR w1 wb (ah (kB ((H7 mb todo av' vv).setIfInBounds 1 tv) 1 (k.sr.fuel:Nat)) 130 (0,0))=w2:=zg;rw[e] at a p;have m:dc D w w2:=yF;refine⟨⟨a,h.td.bL m.toI (eu.refl _ _),?_,q.bL m.toI (eu.refl _ _),fun g y=>?_⟩,m,yH⟩
 .rw[hw];refine Jy hr fun e=>?_;rcases hr.2 with⟨j,-⟩| ⟨z,cap,cur,j,-,r,-⟩
  .rw[j] at e;cases e
  grind [Value.ownBlock,a3I]
 grind [da]
def uZ.ptr{n:Nat}{v:Y}:∀ {l:List P.Goal},uZ ρ n w v l->∃ p,v = .pointer p
 | [],h=>⟨V,h⟩
 | _::_,⟨b,_,_,_,h,_⟩=>⟨_,h⟩
def qX.snoc{n:Nat}{a:oL}{l0:List Y}:∀ {l:List oL} {vs:List Y},qX ρ n w vs l->qX ρ n w l0 [a]->qX ρ n w (vs++l0) (l++[a])
 | [],vs,h,b=>by have h:vs=[]:=h;grind
 | x::l,vs,⟨c,cv,av,fX,us,rest,k,d,e,f,g,i,j⟩,b=>⟨c,cv,av,fX,us,rest++l0,zg,d,e,f,g,i,qX.snoc j b⟩
def af9(h:ku D ρ wb mb todo av vv tv dk w k)(hD:∀ b,w.heap.size<=b->D b){l:List P.Goal}(f:uZ ρ k.n w o4 l)(s:k.bz.length<=900000000) :
  Calls bdN 226 #[pp wb,o4] w fun e w'=>e = ai (aq #[])/\dc D w w'/\∃ av' avs',ku D ρ wb mb todo av' vv tv avs' w' (k.Yo l):=by
 have i:=h.cell;have lw:=bn i;obtain⟨j,rfl⟩:=f.ptr;have t:Ext w w.drew:=yF;refine aMf ?_;refine⟨fun w'=>w'.heap[wb]?=w.heap[wb]?,J,?_⟩;refine toPr ?_;refine bG ?_;refine cQ (pq wb 4) (fun w' a=>eR) ?_;refine cQ av (fun w' a=>by rw[i] at a;have:=bn a;exact eV a) ?_;refine bG ?_;refine cQ (pq wb 1) (fun w' a=>eR) ?_;refine a3L (UM (h.ext t).st Gb) ?_;rintro e w1 ⟨rfl,rfl⟩;refine⟨J,?_⟩;refine bG ?_;obtain⟨l0,m⟩:∃ l0:List Y,l0=[zi (k.sr.tr.length:Nat),.pointer j,bW,bW]:=⟨_,J⟩;obtain⟨w2,o⟩:=cj (w.drew.alloc (ah l0.toArray 356 (0,0)));have d:Ext w w2:=yF;have g2:w2.heap[w.heap.size]?=aO l0.toArray 356:=yH;have s2:w2.heap.size=w.heap.size+1:=yH;rw[m] at o;rw[<- o];have c:=h.ext d;have q2:=c.cell;refine ap6 c.ar g2 zg (by rw[m];intro u hu;simp only[List.mem_cons,List.not_mem_nil,or_false] at hu;rcases hu with rfl | rfl | rfl | rfl<;>rfl) s zo ?_;intro v' w3 p x y;obtain⟨p3,d3,z⟩:=gZ p;subst z;obtain⟨F,q⟩:=cj (bR w3 wb (ah #[.map (O mb),tv,zi (k.sr.fuel:Nat),todo,.slice p3 (k.bz.length+1) d3,vv] 130));have A:qX ρ k.n w2 (dk++l0) (k.bz++[⟨k.sr.tr.length,l,[],[]⟩]):=by
  refine c.ag.snoc ⟨.pointer j,bW,bW,[],[],[],zg,f.bL (eJ.ea d) (eu.refl _ _),oN.nil,J,.inl ⟨J,J⟩,?_,J⟩;unfold ql iJ;rfl
 obtain⟨B,C,E⟩:=c.LX (l:=k.bz++[⟨k.sr.tr.length,l,[],[]⟩]) (by rw[a3M,a4v];exact p) x (y.imp id fun hx g r=>⟨hD g (by have:=hx g r;omega),hx g r⟩) A q;refine⟨yH,?_⟩;have c3:=E.trans q2;refine cJ @c3 ?_;rw[<- q];exact⟨(dc.ea d).trans C,_,_,B⟩
end
open Go.Proofs.YtoegidfbnkaabaaGreatDoor.Sx
section
variable{p0 p1 p2 p3 p4 p5 p6 p7:Y}{w:Z}{R:Ending->Z->Prop}
def aMm:=cz w R [p0,p1] (gc [] [] []) Tryz.func78
def aMn:=cz w R [p0] (gd [(3,[10])] [] [(5,9)] [] [] [] [11]) Tryz.func39
def ap7:=cz w R [p0] (gc [(3,[9])] [] [10]) Tryz.func77
def ap8:=cz w R [p0,p1] (gd [] [] [] [(2,[14,0,1,2,3,4,5,6,7,8,9,10,11,12,13])] [] [] []) Tryz.func38
def ap9:=cz w R [p0,p1,p2] (gd [] [(12001,[])] [] [(6,[12,0,2,3,4,5,6,7,8,1,9,10,11,12,13])] [] [] [2,12,20,22,23,51,52,53,61]) Tryz.func26
def aMo:=cz w R [p0,p1,p2] (gc [] [] [2,16]) Tryz.func15
end
def yt(ρ:Nat->Nat)(n B:Nat)(i:Nat):Nat:=if i<n then ρ i else B+(i-n)
def Zd(ρ:Nat->Nat)(n B m:Nat):eu ρ n (yt ρ n B) (n+m):=⟨zo,fun i hi=>by unfold yt;grind⟩
def aqa(m:Nat)(hm:m<=100000)(w:Z):Calls bdN 77 #[zi (m:Nat)] w fun e w'=>Ext w w'/\w'.heap.size=w.heap.size+1+m /\
  ∃ cs,e = ai (cS w.heap.size m m)/\w'.heap[w.heap.size]?=aO cs 89/\cs.size=m /\
   ∀ j,j<m->cs[j]?=O (ak 87 (pp (w.heap.size+1+j)))/\w'.heap[w.heap.size+1+j]?=aO #[aj] 91:=by
 refine ap7 ?_;refine bG ?_;refine⟨fun q z w'=>∃ (j:Nat) (cs:Array Y),z 9=zi (j:Nat)/\j<=m/\q=m-j/\Ext w w'/\w'.heap.size=w.heap.size+1+j/\w'.heap[w.heap.size]?=aO cs 89/\cs.size=m /\
   ∀ i,i<j->cs[i]?=O (ak 87 (pp (w.heap.size+1+i)))/\w'.heap[w.heap.size+1+i]?=aO #[aj] 91,
  ⟨_,0,_,J,Nat.zero_le _,J,(bD.refl _ _).alloc _,by rw[size_alloc],tW J,by simp [madeCells],fun i hi=>zo⟩,?_⟩
 intro q z d w1 b;refine toPr ?_;obtain⟨j,cs,a,h,rfl,k,s1,g1,l,n⟩:=b;have o:=bn g1;by_cases hlt:j<m
 .have p:((j:Nat):Int)<(m:Int):=zo;have c:((j:Nat):Int).toNat=j:=zo;have f:j<cs.size:=zo;refine jh a @c @g1 ?_;refine⟨_,zo,j+1,_,zs,zo,J,yF,yH,J,yH,fun i hi=>?_⟩;exact yH
 .have g:j=m:=zo;subst g;refine cJ a ?_;exact yH
def gV.fresh{T:Nat}{s:Sr}(h:gV D ρ n pb so T cs tv w s)(hD:∀ b,w.heap.size<=b->D b)(k:Ext w w')
  (hv:∀ j,j<m->w'.heap[w.heap.size+1+j]?=aO #[aj] 91):gV D (yt ρ n (w.heap.size+1)) (n+m) pb so T cs tv w' s:=by
 have hu:=Zd ρ n (w.heap.size+1) m;have hold:∀ i,i<n->ρ i<w.heap.size:=fun i hi=>by
  obtain⟨r,a,-⟩:=h.sv.var i hi;exact yH
 have d:=h.ext k;refine⟨⟨fun i j hi l e=>?_,fun i hi=>?_⟩,fun i hi=>?_,d.cell,?_,h.dr,h.ds,h.nd,fun p c=>a4i (h.lt p c) hu.1,h.ok⟩
 .unfold yt at e;by_cases a:i<n
  .by_cases f:j<n
   .rw[zip a,zip f] at e;exact h.sv.inj i j a f e
   grind
  grind
 .by_cases a:i<n
  .obtain⟨r,g1,g2⟩:=d.sv.var i a;refine⟨r,by rw[hu.2 i a];omega,?_⟩;cases g:P.look i s.tr with
   | none=>exact yH
   | some t=>rw[g] at g2;exact dK.mono zg hu.1 hu.2 (fun _ _ _ _ _ h=>h) t r g2
  .have g:P.look i s.tr=none:=P.Q4 fun hm=>by
    obtain⟨p,c,rfl⟩:=List.mem_map.1 hm;exact a (h.lt p c)
   refine⟨aj,?_,zg⟩;unfold yt;rw[bU a];exact hv (i-n) zo
 .unfold yt;by_cases a:i<n
  .rw[zip a];grind [dv]
  exact yH
 .have e:rG (yt ρ n (w.heap.size+1)) s.tr=rG ρ s.tr:=by
   unfold rG;refine List.map_congr_left fun p c=>?_;rw[hu.2 p.1 (h.lt p (List.mem_reverse.1 c))]
  grind [row]
def ku.fresh{D:Nat->Prop}{ρ:Nat->Nat}{wb mb:Nat}{todo av vv tv:Y}{dk:List Y}{w w':Z}{k:Wk}(h:ku D ρ wb mb todo av vv tv dk w k)(hD:∀ b,w.heap.size<=b->D b){m:Nat}(a:Ext w w')
  (hv:∀ j,j<m->w'.heap[w.heap.size+1+j]?=aO #[aj] 91):ku D (yt ρ k.n (w.heap.size+1)) wb mb todo av vv tv dk w' { k with n:=k.n+m }:=
 ⟨h.st.fresh hD a hv,h.td.bL (eJ.ea a) (Zd ρ k.n (w.heap.size+1) m),jK a.ext h.ar,h.ag.bL (eJ.ea a) (Zd ρ k.n (w.heap.size+1) m),h.da⟩
def aqb(c:w'.heap[b]?=aO cs 89)(f:cs.size=m)
  (d:∀ j,j<m->cs[j]?=O (ak 87 (pp (B+j)))):fO (fun _=>True) w' 89 (cS b m m) (ny (yt ρ n B) (a4z n m)):=by
 have g:(ny (yt ρ n B) (a4z n m)).length=m:=zs;have e:cs.toList=ny (yt ρ n B) (a4z n m):=by
  apply List.ext_getElem?;intro j;by_cases a:j<m
  .rw[Array.getElem?_toList,d j a,List.getElem?_map,List.getElem?_range' a];simp only[yt,Option.map_some,Nat.mul_one,Nat.one_mul];grind
  grind
 exact .inr ⟨b,cs,zg,trivial,c,zo,zg⟩
def aMp(R:∀ i∈fz,i<n){l:List Ex}(S:fj fz.length l)(hl:l.length<=100)(hv:fO (fun _=>True) w 106 v vs)(hx:eS (fun _=>True) w vs l)
  (T:fO (fun _=>True) w 89 vv (ny ρ fz)) :
  Calls bdN 228 #[v,vv] w fun e w'=>Ext w w'/\∃ u us,e = ai u/\fO (fun _=>True) w' 89 u us/\ql ρ n w' us (n9 fz l):=by
 have U:=hx.ER;obtain⟨av,ac,rfl⟩:=hv.sl;have hlen:vs.length=l.length:=U;rw[hlen];refine aMe ?_;refine bG ?_;refine⟨fun m z w'=>∃ j g us,z 9=zi (j:Nat)/\z 4=g/\j<=l.length/\m=l.length-j/\Ext w w'/\w'.ownsRow w.heap.size 89 1 g j us /\
   iJ (fun c=>w.heap.size<=c/\c<w'.heap.size/\O c≠g.ownBlock) ρ n w' us (n9 fz (l.take j)),
  ⟨_,0,bW,[],J,J,Nat.zero_le _,J,yF,World.ownsRow_nil _ _ _ _,by simp [n9];unfold iJ;rfl⟩,?_⟩
 intro m z d w3 W;refine toPr ?_;obtain⟨j,g,us,s,C,hj,rfl,a,p,x⟩:=W;have s3:=a.size;obtain⟨y,rc,rfl⟩:=gZ p;by_cases hlt:j<l.length
 .have X:j<vs.length:=zo;obtain⟨sb,JJ,A,-,e3,D⟩:=hv.at' X;obtain⟨u,e5,hu⟩:=eS.at' j hlt hx;rw[e5] at D;rw[hlen] at A;simp only[a34,true_and] at A;obtain⟨rfl,rfl⟩:=A;have kf:((j:Nat):Int).toNat=j:=zo;have B:=a.ext _ _ e3;refine dG s @B @D @kf ?_;have NY:eQ (fun _=>True) w3 u l[j]:=eQ.mono zg (by grind [bD.ext]) _ _ hu;refine a3L (af5 R (iG l[j]) l[j] (a3O _) (S.at hlt) NY (T.mono (fun _ h=>h) fun b cs _ hb=>a.ext _ _ hb)) ?_;rintro e f ⟨q,u4,rfl,E⟩;have s4:=q.size;obtain⟨H,I,rfl⟩:=E.iface;refine bG ?_;have K:Ext f (f.alloc (ah #[ak H I] 89)):=yF;have AO:=jK (q.trans K).ext p;rw[C];refine Q9 (base:=w.heap.size) AO (tW J) J zo (by rw[size_alloc];omega) ?_;intro v' w5 L M yr;have s5:=M.size;rw[size_alloc] at s5;have kp:∀ c o,f.heap[c]?=O o->O c≠(a3Y y j rc).ownBlock->w5.heap[c]?=O o:=(by grind [size_alloc,bn,World.grownBy.block,bD.ext]);have lo:∀ k,(a3Y y j rc).ownBlock=O k->w.heap.size<=k/\k<w3.heap.size:=fun k hk=>p.lt k hk;obtain⟨N,P,rfl⟩:=gZ L;have nh:∀ c,c<f.heap.size->O c≠(a3Y y j rc).ownBlock->O c≠(a3Y N (j+1) P).ownBlock:=yH;refine cJ s ?_;refine⟨_,?_,j+1,.slice N (j+1) P,us++[ak H I],zg,zg,zo,J,?_,L,?_⟩
  .omega
  .exact((a.trans q).trans K).grow M yH
  .rw[af4 fz l j hlt];refine iJ.snoc ?_ ?_
   .refine dK.mono (F:=Nu w3 f) (fun c r=>?_) (a3O _) (fun _ _=>rfl) (fun c cs t r _ Q=>?_) _ _ E<;>grind
   .refine iJ.mono (fun c r=>?_) zo zg (fun c cs t r _ Q=>?_) _ _ x
    .exact yH
    .exact kp c _ (q.ext _ _ Q) r.2.2
 .have fm:j=l.length:=zo;subst fm;rw[List.take_length] at x;refine dA s C ?_;exact⟨a,_,us,J,Fy p zg,x.toT⟩
section
variable{D:Nat->Prop}{ρ:Nat->Nat}{wb mb:Nat}{todo av vv tv:Y}{dk:List Y}{w w':Z}{k:Wk}
theorem qX.take{n:Nat}:∀ {l:List oL} {vs:List Y} (m:Nat),qX ρ n w vs l->qX ρ n w (vs.take (m*4)) (l.take m)
 | l,vs,0,h=>by simp;rfl
 | [],vs,m+1,h=>by have h:vs=[]:=h;grind
 | a::l,vs,m+1,⟨b,cv,av,fX,us,rest,j,c,d,e,f,g,i⟩=>by
  refine⟨b,cv,av,fX,us,rest.take (m*4),?_,c,d,e,f,g,qX.take m i⟩;grind
theorem qX.at{n:Nat}:∀ {l:List oL} {vs:List Y} (m:Nat) (hm:m<l.length),qX ρ n w vs l->∃ b cv av fX us,(vs.drop (m*4)).take 4=[zi ((l[m]).mark:Nat),b,cv,av]/\uZ ρ n w b (l[m]).todo /\
   oN w 79 cv fX/\ky (fun _=>True) w fX (l[m]).clauses/\fO (fun _=>True) w 89 av us/\ql ρ n w us (l[m]).args
 | a::l,vs,0,_,⟨b,cv,av,fX,us,rest,d,e,f,g,h,i,c⟩=>zg
 | a::l,vs,m+1,hm,⟨b,cv,av,fX,us,rest,d,e,f,g,h,i,c⟩=>by
  obtain⟨j,o,av',p,k,g1,g2⟩:=qX.at m zg c;grind
def ku.forget(h:ku D ρ wb mb todo av vv tv dk w k)(hm:m<=k.bz.length){a:Option Addr}(b:av = .slice a k.bz.length c)
  (hw:w1=bR w wb (ah #[.map (O mb),tv,zi (k.sr.fuel:Nat),todo,.slice a m c,vv] 130)) :
  ku D ρ wb mb todo (.slice a m c) vv tv (dk.take (m*4)) w1 { k with bz:=k.bz.take m }/\dc D w w1:=by
 have i:=h.ag.len;have hr:w.ownsRow 0 356 4 (.slice a m c) m (dk.take (m*4)):=by
  refine⟨zg,?_⟩;rcases h.ar.2 with⟨d,e⟩| ⟨g,cap,cur,d,e,j,n,o,p,q⟩<;>grind
 have f:w.grownBy w av.ownBlock:=⟨J,J,J,a3O _,yH⟩;obtain⟨r,s,-⟩:=h.LX (l:=k.bz.take m) (av':=.slice a m c) (avs':=dk.take (m*4)) zg f (.inl (by rw[b];cases a<;>rfl)) (h.ag.take m) hw;exact yF
def ku.again(h:ku D ρ wb mb todo av vv tv dk w k)(hm:m<k.bz.length)(j:av = cS g k.bz.length c)(p:w.heap[g]?=aO iF 356)
  {cv:Y} {l:List Cl} (s:oN w 79 cv xs) (t:ky (fun _=>True) w xs l) (a:w1=bR w g (ah (iF.setIfInBounds (m*4+2) cv) 356 (0,0)))
  (u:w2=bR w1 wb (ah #[.map (O mb),tv,zi (k.sr.fuel:Nat),todo,cS g (m+1) c,vv] 130)) :
  (∃ avs',ku D ρ wb mb todo (cS g (m+1) c) vv tv avs' w2 { k with bz:=k.bz.take m++[{ k.bz[m] with clauses:=l }] })/\dc D w w2/\w1.heap[wb]?=w.heap[wb]?:=by
 have L:=h.ag.len;obtain⟨d,o,f,x,us,M,g2,g3,g4,g5,g6⟩:=h.ag.at m hm;have y:=bn p;obtain⟨A,z⟩:=cj (dk.take (m*4));have B:A.length=m*4:=zg;have N:w1.ownsRow 0 356 4 (cS g (m+1) c) (m+1) (A++[zi ((k.bz[m]).mark:Nat),d,cv,f]):=by
  refine⟨zg,?_⟩;rcases h.ar.2 with⟨i,q⟩| ⟨C,cap,P,i,q,r,Q,E,F,R⟩
  .exact yH
  .rw[j] at i;have i:g=C/\c=cap:=zg;obtain⟨rfl,rfl⟩:=i;rw[p] at r;cases r;refine .inr ⟨g,c,_,J,q,by rw[a];exact qI J y,zo,E,by simpa using F,?_⟩;have S:iF.toList.take ((m+1)*4)=A++[zi ((k.bz[m]).mark:Nat),d,o,f]:=by
    have T:iF.toList.take ((m+1)*4)=dk.take ((m+1)*4):=by
     grind
    grind
   grind [Array.toList_setIfInBounds,List.take_set,List.set_append_right,Nat.add_sub_cancel_left]
 have H:w.grownBy w1 av.ownBlock:=⟨by rw[a];rfl,by rw[a];rfl,by rw[a];rfl,yH,fun b _ I=>by
  rw[a,jg (fun e=>I (by subst e;rw[j];rfl))]⟩
 have K:qX ρ k.n w (A++[zi ((k.bz[m]).mark:Nat),d,cv,f]) (k.bz.take m++[{ k.bz[m] with clauses:=l }]):=by
  rw[z];exact(h.ag.take m).snoc ⟨d,cv,f,xs,us,[],J,g2,s,t,g5,g6,J⟩
 have U:(k.bz.take m++[{ k.bz[m] with clauses:=l }]).length=m+1:=by
  grind
 obtain⟨W,X,r3⟩:=h.LX (l:=k.bz.take m++[{ k.bz[m] with clauses:=l }]) zg H (.inl (by rw[j];rfl)) K u;exact yH
def Rj{w:Z}{size:Nat}{a:Option Addr}(h:w.ownsRow base e size (.slice a n c) n xs):n<=c/\∀ (m s:Nat),sliced a 0 m c s = .slice a m c:=by
 rcases h.2 with⟨d,f⟩| ⟨b,cap,cur,d,f,g,i,j,k,l⟩
 .cases d;exact⟨a3O _,(by grind [sliced])⟩
 grind [sliced,Addr.add]
theorem ku.dm(h:ku D ρ wb mb todo av vv tv dk w k)(hD:∀ b,w.heap.size<=b->D b):∀ b,w.heap.size<=b->Dm D av b:=fun b a=>⟨hD b a,(by grind [bn,ES])⟩
abbrev Gc(D:Nat->Prop)(ρ:Nat->Nat)(n wb mb:Nat)(vv:Y)(p:Bool×Wk)(e:Ending)(w':Z):Prop:=
 e = ai (.bool p.1)/\∃ eP,eu ρ n eP p.2.n/\Rg D eP wb mb vv w' p.2
def aqd(h:ku D ρ wb mb todo av vv tv dk w k)(hD:∀ b,w.heap.size<=b->D b){us:List Y}{l:List Cl}{args:List Tm}{td:List P.Goal}{r:Except jP (Bool×Wk)}
  (hs:oN w 79 o4 xs) (hc:ky (fun _=>True) w xs l) (ha:fO (fun _=>True) w 89 iv us) (ht:ql ρ k.n w us args) (dx:jF args) (gU:∀ c∈l,zw M c/\c.args.length=args.length) (hM:M<=100000)
  (rV:uZ ρ k.n w o5 td) (hm:m<=k.bz.length) (od:1<l.length->m<k.bz.length) (hz:k.sr.cV<=800000000) (zP:k.bz.length<=900000000) (hr:xp f args l td m k=O r) :
  Calls bdN 224 #[pp wb,iv,o4,o5,zi (m:Nat)] w (EPost D w (Gc D ρ k.n wb mb vv) r):=by
 have D5:k.sr.tr.length+k.sr.fuel<=800000000:=hz;unfold xp at hr;refine aMg ?_;refine bG ?_;refine a3L (Ot h.less Gb zo) ?_;rintro e w1 ⟨L,E⟩;by_cases h0:k.sr.fuel=0
 .rw[zip h0] at hr E;injection hr with hr;subst hr E;exact⟨L.up fun _ h=>h.1,J⟩
 rw[bU h0] at hr E;obtain⟨rfl,E⟩:=E;obtain⟨z,L⟩:=h.store E L;cases l with
 | nil=>cases hr
 | cons c rest=>
 simp only at hr;obtain⟨cv,Rh,rfl,je,KT⟩:=hc;obtain⟨ET,aYJ⟩:=gU c (List.mem_cons_self ..);obtain⟨lb,lo,Vb,lcs,rfl,XL,rm,aMr⟩:=hs.at (j:=0) zs;rw[Nat.add_zero] at rm;have B0:=L.toI;have aMs:=B0 _ _ _ (yM) XL;refine dA aMs rm ?_;obtain⟨aa,ac,N⟩:=gZ z.ar;have c1:=z.cell;have lw1:=bn c1;have Q:Ext w1 w1.drew:=yF;refine⟨fun _ w'=>∃ av' avs',ku D ρ wb mb todo av' vv tv avs' w' { k with sr:=k.sr.dec,bz:=xo k.bz m rest }/\dc D w w',?_,?_⟩
 .obtain⟨LB,iW⟩:=Rj (by rw[N] at z;exact z.ar:w1.ownsRow 0 356 4 (.slice aa k.bz.length ac) k.bz.length dk);have mg:av = .slice aa k.bz.length ac:=N;cases rest with
  | nil=>
   have je:Rh=[]:=KT;subst je;have Vc:(m:Int)<=(ac:Nat):=zo;refine jh @c1 N iW ?_;obtain⟨R,r2⟩:=z.forget hm mg J;exact⟨_,_,R,yF⟩
  | cons c2 rest=>
   obtain⟨cv2,Zg,rfl,-,-⟩:=id KT;have xr:m<k.bz.length:=zg;rcases z.ar.2 with⟨A,e2⟩| ⟨g,cap,cur,A,e2,hg,S,e5,e6,e7⟩
   .have e2:k.bz.length=0:=e2;omega
   rw[N] at A;cases A;have Ec:g≠wb:=zg;have aYK:(m:Int)<(k.bz.length:Nat):=zo;obtain⟨sa,sc,zQ⟩:∃ sa sc,sliced (O ⟨lb,lo,V⟩) 1 (Zg.length+1+1) Vb 1 = .slice sa (Zg.length+1) sc:=⟨_,_,J⟩;have Vc:(m:Int)+1<=(ac:Nat):=zo;have Rk:oN w1 79 (.slice sa (Zg.length+1) sc) (cv2::Zg):=by
    rw[<- zQ];exact(hs.bL fun b cs F=>B0 _ _ _ (yM) F).tail zs
   refine dG @c1 N hg (zA zQ iW) ?_;obtain⟨⟨avs',R⟩,r2,-⟩:=(z.ext Q).again (m:=m) xr mg (Q.ext _ _ hg) (Rk.bL fun b cs F=>Q.ext _ _ F) (ky.iS (B0.trans (eJ.ea Q)) KT) J J;have e3:((m:Int)+1).toNat=m+1:=zo;rw[e3];have S:xo k.bz m (c2::rest)=k.bz.take m++[{ k.bz[m] with clauses:=c2::rest }]:=by
    grind [xo,List.getElem?_eq_getElem]
   rw[S];exact⟨_,avs',R,L.trans ((dc.ea Q).trans r2)⟩
 .rintro s w2 ⟨uY,Rl,h2,dX⟩ d;clear d;have s2:=dX.size;have XQ:=dX.toI;obtain⟨cb,cav,cbv,Zh,Vd,rfl,-,gX,⟨xus,my,xU⟩,nZ⟩:=je;have LD:=XQ _ _ _ (yM) gX;have Zi:=bn LD;have hM5:c.vars.length<=100000:=a3Q ET.vars hM;refine cJ LD ?_;refine a3L (aqa c.vars.length hM5 w2) ?_;rintro e w3 ⟨eI,s3,vcs,rfl,zj,EU,Zj⟩;have h3:=h2.fresh (fun b F=>hD b (a3Q s2 F)) eI (fun j hj=>(Zj j hj).2);have B:=aqb (ρ:=ρ) (n:=k.n) zj EU (fun j hj=>(Zj j hj).1);have T:eu ρ k.n (yt ρ k.n (w2.heap.size+1)) (k.n+c.vars.length):=Zd _ _ _ _;have H5:dc D w w3:=yF;generalize yt ρ k.n (w2.heap.size+1)=eP at h3 B T;have LG:=eI.ext _ _ LD;obtain⟨xa,xc,aMw⟩:=my.sl;subst aMw;have Kx:xus.length=c.args.length:=eS.ER xU;refine dA LG Kx ?_;cases hq:vM f (a4z k.n c.vars.length) args c.args k.sr.dec with
  | none=>rw[hq] at hr;cases hr
  | some q=>
  rw[hq] at hr;refine⟨fun n x a=>∃ j H F7,x 64=zi (j:Nat)/\j<=c.args.length/\n=c.args.length-j/\ku D eP wb mb todo uY vv F7 Rl a ⟨k.n+c.vars.length,H,k.todo,xo k.bz m rest⟩/\dc D w3 a/\H.cV<=800000000 /\
    vM f (a4z k.n c.vars.length) (args.drop j) (c.args.drop j) H=O q,⟨_,0,_,_,J,Nat.zero_le _,J,h3,yF,by grind [Sr.cV,Sr.dec],hq⟩,?_⟩
  intro n x d a hI;refine toPr ?_;obtain⟨j,H,F7,Zk,hj,rfl,h4,gT,Zl,o⟩:=hI;have aMx:=H5.trans gT;have I:=dc.toI aMx;have s4:=gT.size;by_cases hlt:j<c.args.length
  .have xy:=ET.qQ;have Zm:j<args.length:=zo;obtain⟨sb,JJ,A,-,e3,S⟩:=my.at' (j:=j) zo;obtain⟨u,e5,hu⟩:=eS.at' j hlt xU;rw[e5] at S;rw[Kx] at A;simp only[a34,true_and] at A;obtain⟨rfl,rfl⟩:=A;have vf:us.length=args.length:=ht.length;obtain⟨ub,ucs,u1,-,u3,u4⟩:=ha.at' (j:=j) zo;obtain⟨uv,u5,OF⟩:=ht.at j Zm;rw[u5] at u4;have kf:((j:Nat):Int).toNat=j:=zo;have e34:=I _ _ _ (yM) e3;have Bw:=I _ _ _ (yM) u3;have Dr:((j:Nat):Int)<(c.args.length:Nat):=zo;refine dG Zk @e34 @S @kf ?_;have Ve:Ext a a.drew:=yF;refine⟨fun w'=>w'.heap[ub]?=a.heap[ub]?,J,?_⟩;rw[jI];refine cQ (pq wb 1) (fun w' t=>eR) ?_;have aMA:((j:Nat):Int)<(us.length:Nat):=zo;refine cQ (pq ub j) (fun w' t=>by rw[Bw] at t;have:=bn t;rw[u1,Zk];exact mv t @kf) ?_;obtain⟨LM,xv1,U⟩:=OF.iface;refine cQ uv (fun w' t=>by rw[Bw] at t;have:=bn t;rw[U] at u4;exact AA t @kf @u4 U) ?_;have OD:∀ i∈a4z k.n c.vars.length,i<k.n+c.vars.length:=zg;have hXe:eJ w a.drew:=I.trans (eJ.ea Ve);have hx4:eQ (fun _=>True) a.drew u c.args[j]:=eQ.mono zg hXe.lL _ _ hu;have FT:ij (a4z k.n c.vars.length).length c.args[j]:=by rw[List.length_range'];exact ET.args.at hlt
   refine a3L (af5 OD (iG c.args[j]) c.args[j] zo FT hx4 (B.iS ((dc.toI gT).trans (eJ.ea Ve)) (yM))) ?_;rintro e K ⟨uo,u5v,rfl,Y8⟩;have FA:=uo.ext _ _ (Ve.ext _ _ Bw);refine⟨yH,?_⟩;have y:Ext a K:=yF;have h5:=h4.ext y;have hD5:∀ b,K.heap.size<=b->D b:=fun b F=>hD b (by have:=y.size;omega);obtain⟨C,W,X⟩:∃ C,lZ f args[j] (P.made (a4z k.n c.vars.length) c.args[j]) H=O C /\
     (match C with | .error e=>q = .error e | .ok p=>(if p.1=G then vM f (a4z k.n c.vars.length) (args.drop (j+1)) (c.args.drop (j+1)) p.2 else O (.ok (ae,p.2)))=O q):=by
    rw[a3U hlt,a3U Zm,vM] at o;cases hu:lZ f args[j] (P.made (a4z k.n c.vars.length) c.args[j]) H with
    | none=>rw[hu] at o;cases o
    | some C=>
     rw[hu] at o;refine⟨C,J,?_⟩;cases C with
     | error e=>exact(Option.some.inj o).symm
     | ok p=>exact o
   refine a3L (Q6 Gb f h5.less (h5.dm hD5) (dO.Rf (I.trans (eJ.ea y)) T OF) (JA dx Zm) Y8.toT (aex _ _ FT) zg W) ?_;rintro e w6 ⟨kq,oG⟩;have rJ:dc D a w6:=(dc.ea y).trans (kq.up fun _ h=>h.1);cases C with
   | error te=>
    subst X;have oG:e=gW te:=oG;subst oG;cases hr;cases te<;>exact fun _=>⟨yF,J⟩
   | ok p=>
    obtain⟨b1,s6⟩:=p;obtain⟨rfl,tv6,h6⟩:=oG;obtain⟨h6,Vg⟩:=h5.store h6 kq;have Y6:=((FN f).tm W).1;cases b1 with
    | false=>
     simp only[Bool.false_eq_true,if_false] at X;cases X;cases hr;refine bG ?_;exact⟨yF,J,eP,T,_,_,_,_,h6⟩
    | true=>
     simp only[if_true] at X;refine cJ Zk ?_;exact⟨_,zo,j+1,s6,tv6,zg,zo,J,h6,yF,zg,X⟩
  .have fm:j=c.args.length:=zo;subst fm;have Ja:args.drop c.args.length=[]:=zg;rw[Ja,vM] at o
   .cases o;cases hr;have aMD:=I _ _ _ (yM) gX;have c4:=h4.cell;have lc4:=bn c4;obtain⟨tq,rfl⟩:=rV.ptr;obtain⟨xb,rfl,-⟩:=nZ.shape;refine jh Zk aMD @c4 ?_;obtain⟨K,oO⟩:=cj (a.alloc (ah #[pp xb,cS w2.heap.size c.vars.length c.vars.length,zi (m:Nat),.pointer tq] 207));have y:Ext a K:=yF;have g5:K.heap[a.heap.size]?=aO #[pp xb,cS w2.heap.size c.vars.length c.vars.length,zi (m:Nat),.pointer tq] 207:=yH;rw[<- oO];have Vh:eJ w K:=I.trans (eJ.ea y);have OD:∀ i∈a4z k.n c.vars.length,i<k.n+c.vars.length:=zg;obtain⟨R,r2⟩:=(h4.ext y).LW (todo':=pp a.heap.size) (l:=⟨O c.body,a4z k.n c.vars.length,m⟩::td)
     ⟨_,_,_,_,J,g5,dL.iS Vh nZ,B.iS ((dc.toI gT).trans (eJ.ea y)) (yM),OD,rV.bL Vh T⟩ J
    exact⟨yF,J,eP,T,_,_,_,_,R⟩
   grind
end
def P.keyOf(name:Bs)(n:Nat):Bs:=name++[47,UInt8.ofNat (48+n)]
theorem P.age{a b:Bs}(e:n<80)(hm:m<80):P.keyOf a n=P.keyOf b m↔a=b/\n=m:=by
 unfold P.keyOf;constructor
 .intro h;obtain⟨d,c⟩:=List.append_inj' h J;refine⟨d,?_⟩;injection c with _ c;injection c with c _;have:=congrArg UInt8.toNat c;grind [UInt8.toNat_ofNat']
 grind
def wrap32(n:Nat)(a:n<80):IntKind.i32.wrap (48+(n:Int))=((48+n:Nat):Int):=by
 grind [IntKind.wrap,IntKind.bits,IntKind.signed]
def aqi(name:Bs)(n:Nat)(b:name.length<=100)(a:n<80)(w:Z):Calls bdN 78 #[aW name,zi (n:Nat)] w fun e w'=>e = ai (aW (P.keyOf name n))/\w'=w:=by
 refine aMm ?_;refine bG ?_;rw[xP _ _ zg];refine bG ?_;rw[wrap32 n a,akP zk zk zo,xP _ _ zg];exact⟨by grind [P.keyOf,List.append_assoc],J⟩
def H9(base:List Cl)(name:Bs)(n:Nat):List Cl:=base.filter fun c=>c.name == name && c.args.length == n
def B1(w:Z)(mb:Nat)(base:List Cl):Prop:=∃ es c,w.heap[mb]?=O (.map es c)/\Nr es.toList/\∀ (name:Bs) (n:Nat),n<=4->match Bu (P.keyOf name n) es.toList 0 with
 | none=>H9 base name n=[]
 | some (_,v)=>H9 base name n≠[]/\∃ vs,fO (fun _=>True) w 79 v vs/\ky (fun _=>True) w vs (H9 base name n)
theorem B1.bL{base:List Cl}(h:B1 w mb base)(hk:eJ w w')(hm:∀ es c,w.heap[mb]?=O (.map es c)->w'.heap[mb]?=O (.map es c)):B1 w' mb base:=by
 obtain⟨es,c,e,a,b⟩:=h;refine⟨es,c,yH,a,fun name n d=>?_⟩;have:=b name n d;split at this
 .omega
 .rename_i i v hx;obtain⟨g1,vs,g2,g3⟩:=this;exact⟨g1,vs,g2.iS hk (yM),g3.iS hk⟩
theorem B1.fr{base:List Cl}(h:B1 w mb base)(a:dc D w w'):B1 w' mb base:=
 h.bL (dc.toI a) fun es c hm=>a.block _ _ hm (by rintro ⟨_,cs',b,z,d,e⟩;grind)
def aqj{x:Operand}(a:Option Addr)(n c:Nat):RD bdN (bo .eql 68 x y (.slice a n c) bW) w K X=K (.bool a.isNone):=
 gR (by cases a<;>kernel_rfl)
section
variable{D:Nat->Prop}{ρ:Nat->Nat}{wb mb:Nat}{todo av vv tv:Y}{dk:List Y}{w w':Z}{k:Wk}
def ku.part(h:ku D ρ wb mb todo av vv tv dk w k){q:Except jP (Bool×Sr)}{r:Except jP (Bool×Wk)}(hr:P.Out.bind (O q) (fun p=>O (.ok (p.1,{ k with sr:=p.2 })))=O r){e:Ending}
  (a:EPost (Dm D av) w (xC (Dm D av) ρ k.n wb 1 130 (H7 mb todo av vv)) q e w'):EPost D w (Gc D ρ k.n wb mb vv) r e w':=by
 obtain⟨b,a⟩:=a;cases q with
 | error t=>
  cases hr;exact⟨b.up fun _ h=>h.1,a⟩
 | ok p=>
  cases hr;obtain⟨rfl,g,c⟩:=a;obtain⟨d,f⟩:=h.store c b;exact⟨f,J,ρ,eu.refl _ _,_,_,_,_,d⟩
def EPost.agf{r:Except jP (Bool×Wk)}{e:Ending}(h:EPost D w (Gc D ρ n wb mb vv) r e w') :
 ends (fun x w'=>EPost D w (Gc D ρ n wb mb vv) r (ai x) w') (PC (EPost D w (Gc D ρ n wb mb vv) r)) e w':=h.tail zg
def aME(h:ku D ρ wb mb todo av vv tv dk w k)(hD:∀ b,w.heap.size<=b->D b){base:List Cl}(hB:B1 w mb base)(gU:∀ c∈base,zw M c)(hM:M<=100000){name:Bs}{args:List Ex}
  (o:dL (fun _=>True) w o5 (.mk pb name args gz)) (hv:fO (fun _=>True) w 89 o4 (ny ρ fz)) (Rp:∀ i∈fz,i<k.n) (fc:eZ fz.length M (.mk pb name args gz))
  (hz:k.sr.cV<=800000000) (zP:k.bz.length<900000000) {r:Except jP (Bool×Wk)} (hr:Lf base f name args fz k=O r) :
  Calls bdN 227 #[pp wb,o5,o4] w (EPost D w (Gc D ρ k.n wb mb vv) r):=by
 have D5:k.sr.tr.length+k.sr.fuel<=800000000:=hz;unfold dL at o;obtain⟨gb,gav,gpv,gus,gps,rfl,-,Rq,Vi,A,-,-⟩:=o;unfold eZ at fc;obtain⟨mY,-,-,Er,FT,-,-,-⟩:=fc;have lgb:=bn Rq;have hc:=h.cell;have lwb:=bn hc;refine aMh ?_;have BC:gus.length=args.length:=eS.ER A;obtain⟨ga,gc,aMI⟩:=Vi.sl;subst aMI;refine cJ Rq ?_;refine a3L (aMp Rp FT zo Vi A hv) ?_;rintro e w1 ⟨dF,u,us,rfl,oo,lk⟩;have B:=h.ext dF;have C:=dF.ext _ _ Rq;have aYR:=bn C;have E:=B.cell;have aYS:=bn E;have s1:=dF.size;have vf:us.length=args.length:=by rw[lk.length,(K9 fz args FT).2]
 obtain⟨ua,uc,OF⟩:=oo.sl;subst OF;have aMA:(us.length:Int)=(args.length:Nat):=zo;refine cJ C ?_;refine a3L (NR name) ?_;rintro e a ⟨rfl,rfl⟩;refine bG ?_;have dI:Ext a a.drew:=yF;have aMK:Ext w a.drew:=yF;unfold Lf at hr;by_cases ht:jx name=args.length
 .rw[zip ht] at hr;have BQ:jx name=(us.length:Int):=zo;refine dA BQ C ?_;cases hq:yk f name (n9 fz args) k.sr with
  | none=>rw[hq] at hr;cases hr
  | some q=>
  rw[hq] at hr;have F:=B.ext dI;refine a3L (apY Gb (r:=q) F.less (by grind [Cq,ku.dm]) (oo.mono zg yH) (lk.bL (rF.ea dI)) (by grind [K9]) (by grind [K9]) zo hq) ?_;rintro e w2 H;have H:=F.part hr H;exact EPost.agf (H.of yF)
 .rw[bU ht] at hr;have BQ:¬ jx name=(us.length:Int):=zo;refine dA BQ C ?_;have hdw:a.drew.heap=a.heap:=rfl;refine⟨fun w'=>w'.heap[wb]?=a.heap[wb]?/\w'.heap[gb]?=a.heap[gb]?,yH,?_⟩;rw[jI];refine cQ (pp wb) (fun w' j=>eR) ?_;refine cQ (.map (O mb)) (fun w' j=>by have p:=j.1;rw[E] at p;have:=bn p;exact eV p) ?_;rw[jI];refine cQ (pq gb 1) (fun w' j=>eR) ?_;refine cQ (aW name) (fun w' j=>by have p:=j.2;rw[C] at p;have:=bn p;exact eV p) ?_;refine bG ?_;refine a3L (aqi name us.length zo zo _) ?_;rintro e w2 ⟨rfl,rfl⟩;refine⟨yH,?_⟩;rw[vf];have F:=B.ext dI;obtain⟨es,ec,b1,b2,x⟩:=hB.fr (D:=D) (dc.ea aMK);have x:=x name args.length zo;have jl:(base.filter fun c=>c.name == name && c.args.length == args.length)=H9 base name args.length:=rfl;rw[jl] at hr;have xz:∀ {K:Y->Prop} {X:Y->Z->Prop},RD bdN (Instr.lookup 125 (.map (O mb)) (.string (bs (P.keyOf name args.length))) ae) a.drew K X=(match Bu (P.keyOf name args.length) es.toList 0 with
    | some (_,v)=>K v
    | none=>K (.slice V 0 0)):=fun{K X}=>by
   rw[akU (k:=9) (e:=68) zk zk (z:=bW) zk b1 b2];rfl
  rw[xz];cases I:Bu (P.keyOf name args.length) es.toList 0 with
  | none=>
   rw[I] at x;rw[show H9 base name args.length=[] from x] at hr;cases hr;refine⟨fun _ _=>False,?_,by rintro _ _ h;exact h.elim⟩;show RD _ _ _ _ _;rw[aqj];refine bG ?_;exact⟨yF,J⟩
  | some iv=>
   obtain⟨i,v⟩:=iv;rw[I] at x;obtain⟨ef,vs,EU,jr⟩:=(x:H9 base name args.length≠[]/\∃ vs,fO (fun _=>True) a.drew 79 v vs/\ky (fun _=>True) a.drew vs (H9 base name args.length));obtain⟨l,hl⟩:=cj (H9 base name args.length);have hr:xp f (n9 fz args) l k.todo k.bz.length { k with bz:=k.bz++[⟨k.sr.tr.length,k.todo,l,n9 fz args⟩] }=O r:=by
    grind
   rw[<- hl] at jr ef;have L:vs≠[]:=by
    rintro rfl;cases l with
    | nil=>grind
    | cons c0 l0=>obtain⟨_,_,h0,-⟩:=jr;grind
   obtain⟨vb,vcs,rfl,-,zj,-,-⟩:=EU.resolve_left zg;refine⟨fun _ w'=>w'=a.drew,?_,?_⟩
   .show RD _ _ _ _ _;rw[aqj];exact eR
   .rintro s w3 rfl d;clear d;have c1d:a.drew.heap[wb]?=_:=E;obtain⟨aa,ac,gA⟩:=gZ F.ar;obtain⟨tq,N⟩:=F.td.ptr;refine dA @c1d gA ?_;refine⟨fun w'=>w'.heap[wb]?=a.heap[wb]?,J,?_⟩;refine toPr ?_;rw[jI];refine cQ (pq wb 4) (fun w' j=>eR) ?_;refine cQ av (fun w' j=>by rw[E] at j;have:=bn j;exact mv j gA) ?_;rw[jI];refine cQ (pq wb 1) (fun w' j=>eR) ?_;rw[jI];refine cQ (pq wb 3) (fun w' j=>eR) ?_;refine cQ (.pointer tq) (fun w' j=>by rw[E] at j;have:=bn j;exact mv j N) ?_;have EL:Ext a a.drew.drew:=yF;refine a3L (UM (B.ext EL).st Gb) ?_;rintro e w4 ⟨rfl,rfl⟩;refine⟨J,?_⟩;refine bG ?_;obtain⟨l0,rm⟩:∃ l0:List Y,l0=[zi (k.sr.tr.length:Nat),.pointer tq,cS vb vs.length vcs.size,.slice ua args.length uc]:=⟨_,J⟩;obtain⟨y,oO⟩:=cj (a.drew.drew.alloc (ah l0.toArray 356 (0,0)));have OH:Ext a y:=yF;have g5:y.heap[a.heap.size]?=aO l0.toArray 356:=yH;have s5:y.heap.size=a.heap.size+1:=yH;rw[rm] at oO;rw[<- oO];have Q:=B.ext OH;have q5:=Q.cell;refine ap6 (n:=k.bz.length) Q.ar g5 zg (by rw[rm];intro u hu;simp only[List.mem_cons,List.not_mem_nil,or_false] at hu;rcases hu with rfl | rfl | rfl | rfl<;>rfl) zo zo ?_;intro v' w6 R qf BD;obtain⟨p6,d6,e6⟩:=gZ R;subst e6;obtain⟨w7,Zn⟩:=cj (bR w6 wb (ah #[.map (O mb),tv,zi (k.sr.fuel:Nat),todo,.slice p6 (k.bz.length+1) d6,vv] 130));have S:eJ a.drew y:=fun b cs T hT o=>yH;have U:=EU.iS S (yM);have W:=jr.iS S;have t:=oo.mono (F':=fun _=>True) (fun _ _=>trivial) fun b cs _ o=>OH.ext _ _ o;have aqr:=lk.bL (rF.ea OH);rw[vf] at t;have mg:qX ρ k.n y (dk++l0) (k.bz++[⟨k.sr.tr.length,k.todo,l,n9 fz args⟩]):=by
     refine Q.ag.snoc ⟨.pointer tq,_,_,vs,us,[],zg,?_,oN.of U L,W,t,aqr,J⟩;rw[<- N];exact Q.td
    obtain⟨r1,r2,r3⟩:=Q.LX (l:=k.bz++[⟨k.sr.tr.length,k.todo,l,n9 fz args⟩]) (by rw[a3M,a4v];exact R) qf (BD.imp id fun hx g hg=>⟨hD g (by have:=hx g hg;omega),hx g hg⟩) mg Zn;refine⟨yH,?_⟩;have c6:=r3.trans q5;have l6:=bn c6;refine cJ @c6 ?_;rw[<- Zn];have aqs:dc D w w7:=(dc.ea (dF.trans OH)).trans r2;have Zo:eJ y w7:=dc.toI r2;have zx:=K9 fz args FT;refine a3L (aqd (k:={ k with bz:=k.bz++[⟨k.sr.tr.length,k.todo,l,n9 fz args⟩] }) (M:=M) (f:=f) (m:=k.bz.length) (l:=l) (args:=n9 fz args) (td:=k.todo) (r:=r) r1 (fun b o=>hD b (a3Q aqs.size o))
     (oN.of (U.iS Zo (yM)) L) (W.iS Zo) (t.iS Zo (yM)) (ql.Rf Zo (eu.refl _ _) aqr) zx.1 (fun c hc=>?_) hM r1.td zs zg hz zg hr) ?_
    .grind
    .rintro e w8 H;exact EPost.agf (H.of aqs)
end
