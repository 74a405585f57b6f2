/- A part of one proof (ShX1, KS1, GBase3, KS2, KS3, PW5, PW6, KS4). -/
import Derived.Test.YtoegidfbnkaabaaGreatDoorPkMAP
set_option linter.all false
set_option maxRecDepth 100000
set_option maxHeartbeats 8000000
open Option renaming some → O, none → V
open Go renaming Value → Y, World → Z
open Bool renaming true → G, false → ae
open Go.Obj renaming cells → ah
open Go.Ending renaming returned → ai
open Go.Value renaming nilIface → aj, iface → ak, tuple → aq, pointer → au
open Option.some renaming injEq → a3I, inj → a3R
open Go.Calls renaming mono → a3L
open Nat renaming le_refl → a3O
open List renaming mem_cons → a3T, drop_eq_getElem_cons → a3U, nil_append → a4u, take_append_drop → a5O
open Go.Value renaming ownBlock → a4w
open Go.Proofs.Tryz renaming prog → bdL
open Go.Proofs.Tryz
namespace Go.Proofs.YtoegidfbnkaabaaGreatDoor
open P
open Go.Proofs.YtoegidfbnkaabaaGreatDoor.Sx
variable{B B' b base c cap e f g i m n pb so wb:Nat}{D:Nat->Prop}{R:Ending->Z->Prop}{S buf nm tv v z:Y}{X:Y->Z->Prop}{cs:Array Y}{es:Array MapEntry}{out:Bs}{res:Z->Prop}{t:Tm}{tr:Tr}{w w' w1 w3:Z}{xs:List Y}{ρ:Nat->Nat}
section
variable{p0 p1 p2 p3 p4 p5 p6 p7:Y}{w:Z}{R:Ending->Z->Prop}
def aK1:=cz w R [p0] (gc [] [] []) func214
def aK2:=cz w R [p0,p1] (gc [(1,[13])] [] [14]) func208
def aK3:=cz w R [p0,p1,p2] (gc [] [] []) func217
def aK4:=cz w R [p0,p1,p2] (gc [(9,[29])] [] [6,16,20,22,30,36]) func221
def aK5:=cz w R [p0,p1,p2] (gc [] [] [6,10]) func216
def aK6:=cz w R [p0,p1,p2] (gd [(16,[94])] [(11000,[63]),(12001,[]),(13000,[88]),(14001,[])] [(13,22),(18,15)] [] [] [] [6,8,10,12,14,26,27,36,37,42,43,47,52,57,58,61,62,63,66,87,88,95,112,113]) func210
def aK7:=cz w R [p0,p1,p2] (gd [(10,[64])] [(5000,[33]),(6001,[]),(7000,[58]),(8001,[])] [(7,22),(12,15)] [] [] [] [6,8,10,22,27,28,31,32,33,36,57,58,65,82,83]) func218
def aK8:=cz w R [p0,p1,p2] (gc [] [(9001,[]),(13000,[43]),(14001,[7])] [9,10,14,15,19,20,25,28,39,41,42,43]) func222
def aK9:=cz w R [p0,p1] (gd [] [] [(11,9)] [(12,[21,0,1,2,3,4,5,6,7,8,9,10,12,13,14,15,16,17,18,11,19,20,21])] [] [] [13,17,21,33]) func219
def aLa:=cz w R [p0,p1] (gc [] [] [4,7,10,12,18,19,21,27,28,30]) func220
def aLb:=cz w R [p0,p1,p2] (gd [] [(18003,[64]),(21020,[])] [(5,7),(8,7),(12,7)] [(14,[11,0,1,2,3,4,5,6,7,8,9,10,11]),(22,[10,0,1,2,3,5,6,7,8,4,9,10,11])] [] [] [6,8,12,13,14,15,23,24,25,35,39,40,41,42,50,51,52,63,64,65,66,67,68,74,75,76,88,89,92,93,94,97,98,99,102,103,104,107,110]) func213
end
open Go.RowKit Sx
def lH(T:Nat):Prop:=T=91\/T=87\/T=130\/T=356\/T=116\/T=342\/T=20
def EM(D:Nat->Prop)(b:Nat)(o:Obj):Prop:=D b/\∃ cs T z,o = ah cs T z/\lH T
abbrev dc(D:Nat->Prop)(w w':Z):Prop:=bD (EM D) w w'
theorem dc.bL(h:dc D w w'){T:Nat}(c:¬ lH T)(a:w.heap[b]?=aO cs T):w'.heap[b]?=aO cs T:=by
 refine h.block _ _ a ?_;rintro ⟨_,cs',d,z,e,f⟩;grind
theorem dc.toT(h:dc D w w'):YS w w':=fun b cs t _ ht a=>h.bL (by rcases ht with rfl | rfl<;>(unfold lH;decide)) a
theorem dc.ea(h:Ext w w'):dc D w w':=yF
def rG(ρ:Nat->Nat)(tr:Tr):List Y:=tr.reverse.map fun p=>pp (ρ p.1)
def aLc(ρ:Nat->Nat)(i:Nat)(t:Tm)(tr:Tr):rG ρ ((i,t)::tr)=rG ρ tr++[pp (ρ i)]:=by simp [rG]
@[simp] theorem aLd(ρ:Nat->Nat)(tr:Tr):(rG ρ tr).length=tr.length:=by simp [rG]
structure vU(so T:Nat)(cs:Array Y):Prop where
 sz:so+2<=cs.size
 ty:T=130\/T=116
structure gV(D:Nat->Prop)(ρ:Nat->Nat)(n sb so T:Nat)(cs:Array Y)(tv:Y)(w:Z)(s:Sr):Prop where
 sv:EH ρ n s.tr w
 dv:∀ i,i<n->D (ρ i)
 cell:w.heap[sb]?=aO (kB (cs.setIfInBounds so tv) so s.fuel) T
 row:w.ownsRow 0 87 1 tv s.tr.length (rG ρ s.tr)
 dr:∀ g,tv.ownBlock=O g->D g
 ds:D sb
 nd:(s.tr.map (·.1)).Nodup
 lt:∀ p∈s.tr,p.1<n
 ok:nG s.tr
section
variable{D:Nat->Prop}{ρ:Nat->Nat}{n sb so T:Nat}{cs:Array Y}{tv:Y}{w w':Z}{s:Sr}
theorem gV.ext(h:gV D ρ n sb so T cs tv w s)(a:Ext w w'):gV D ρ n sb so T cs tv w' s:=
 ⟨h.sv.bL (HH.ea a),h.dv,a.ext _ _ h.cell,jK a.ext h.row,h.dr,h.ds,h.nd,h.lt,h.ok⟩
theorem gV.YW(h:gV D ρ n sb so T cs tv w s){c:Array Y}{U:Nat}(b:w.heap[g]?=aO c U)(d:U≠87):tv.ownBlock≠O g:=by
 intro a;rcases h.row.2 with⟨rfl,-⟩| ⟨e,cap,cur,rfl,-,f,-⟩
 .cases a
 grind [a4w,a3I]
def vU.mu(a:vU so T cs):lH T:=by grind [lH,ty]
theorem Jy{size:Nat}{o:Obj}(h:w.ownsRow base e size v m xs)(a:v.ownBlock≠O g):(bR w g o).ownsRow base e size v m xs:=by
 refine⟨h.1,?_⟩;rcases h.2 with f | ⟨b,cap,cur,rfl,c,i,d⟩
 .exact yH
 .exact .inr ⟨b,cap,cur,J,c,by rw[jg (fun e=>a (by subst e;rfl))];omega,d⟩
def gV.cells(h:gV D ρ n sb so T cs tv w s)(d:vU so T cs){cs':Array Y}{f:Nat} :
  gV D ρ n sb so T cs' tv (bR w sb (ah (kB (cs'.setIfInBounds so tv) so f) T (0,0))) { s with fuel:=f }/\dc D w (bR w sb (ah (kB (cs'.setIfInBounds so tv) so f) T (0,0))):=by
 have l:=bn h.cell;have g:T≠87/\T≠91/\T≠180/\T≠89:=by rcases d.ty with h | h<;>subst h<;>decide
 have i:dc D w (bR w sb (ah (kB (cs'.setIfInBounds so tv) so f) T (0,0))):=⟨J,J,J,yH,fun b o a hm=>by
  by_cases e:b=sb
  .subst e;rw[h.cell] at a;exact absurd ⟨h.ds,_,_,_,(a3R a).symm,d.mu⟩ hm
  exact yH⟩
 have j:HH w (bR w sb (ah (kB (cs'.setIfInBounds so tv) so f) T (0,0))):=fun b c t ht a=>by
  rw[jg]
  .omega
  .rintro rfl;rw[h.cell] at a;grind
 exact⟨⟨h.sv.bL j,h.dv,yH,Jy h.row (h.YW h.cell g.1),h.dr,h.ds,h.nd,h.lt,h.ok⟩,i⟩
theorem gV.aLe(h:gV D ρ n sb so T cs tv w s)(a:vU so T cs)(b:s.fuel≠0) :
  gV D ρ n sb so T cs tv (bR w sb (ah (kB (cs.setIfInBounds so tv) so ((s.fuel:Int)-1)) T (0,0))) s.dec/\dc D w (bR w sb (ah (kB (cs.setIfInBounds so tv) so ((s.fuel:Int)-1)) T (0,0))):=by
 have:=h.cells a (cs':=cs) (f:=s.fuel-1);rw[show((s.fuel-1:Nat):Int)=(s.fuel:Int)-1 by omega] at this;exact this
def gW:jP->Ending
 | .fault k=>.panicked [{ v:=ak 27 (.int .i64 k),recovered:=false }]
 | .Em=>Oo
def EPost(D:Nat->Prop)(w:Z){α:Type}(R:α->Ending->Z->Prop)(r:Except jP α)(e:Ending)(w':Z):Prop:=
 dc D w w'/\match r with
  | .ok a=>R a e w'
  | .error t=>e=gW t
abbrev xC(D:Nat->Prop)(ρ:Nat->Nat)(n sb so T:Nat)(cs:Array Y)(p:Bool×Sr)(e:Ending)(w':Z):Prop:=
 e = ai (.bool p.1)/\∃ tv,gV D ρ n sb so T cs tv w' p.2
theorem EPost.of{α:Type}{R:α->Ending->Z->Prop}{r:Except jP α}{e:Ending}(h:EPost D w1 R r e w')(a:dc D w w1):EPost D w R r e w':=⟨a.trans h.1,h.2⟩
def EPost.tail{α:Type}{R:α->Ending->Z->Prop}(b:∀ {a e w},R a e w->∃ v,e = ai v){r:Except jP α}{e:Ending}(h:EPost D w R r e w') :
  ends (fun x w'=>EPost D w R r (ai x) w') (PC (EPost D w R r)) e w':=by
 cases e with
 | returned v=>exact h
 | panicked c=>exact h
 | outgrown=>
  obtain⟨-,h⟩:=h;cases r with
  | ok a=>obtain⟨v,h⟩:=b h;cases h
  | error t=>cases t<;>cases h
def EPost.UK{r:Except jP (Bool×Sr)}{e:Ending}(h:EPost D w (xC D ρ n sb so T cs) r e w') :
 ends (fun x w'=>EPost D w (xC D ρ n sb so T cs) r (ai x) w') (PC (EPost D w (xC D ρ n sb so T cs) r)) e w':=h.tail zg
def EPost.aLf{r:Except jP (Bool×Sr)}{e:Ending}(h:EPost D w (xC D ρ n sb so T cs) r e w') :
  ends (fun x w'=>EPost D w (xC D ρ n sb so T cs) r (ai x) w') (M1 (EPost D w (xC D ρ n sb so T cs) r)) e w':=by
 cases e with
 | returned v=>exact h
 | panicked c=>exact fun _=>h
 | outgrown=>
  obtain⟨-,h⟩:=h;cases r with
  | ok a=>obtain⟨h,-⟩:=h;cases h
  | error t=>cases t<;>cases h
def Ot(h:gV D ρ n sb so T cs tv w s)(a:vU so T cs)(f:s.fuel<=1000000000) :
  Calls bdL 61 #[pq sb so] w fun e w'=>dc D w w'/\(if s.fuel=0 then e=Oo else e = ai (aq #[])/\gV D ρ n sb so T cs tv w' s.dec):=by
 refine(apA h.cell (by rw[Array.size_setIfInBounds];exact a.sz) zg).mono ?_;rintro e w1 ⟨he,rfl⟩;by_cases c:s.fuel=0
 .rw[zip zo] at he;rw[zip c];refine⟨?_,he⟩;exact⟨J,J,J,yH,fun b o d hm=>by
   by_cases e:b=sb
   .subst e;rw[h.cell] at d;exact absurd ⟨h.ds,_,_,_,(a3R d).symm,a.mu⟩ hm
   .rw[jg e];omega⟩
 .rw[bU zo] at he;rw[bU c];grind [gV.aLe]
end
def aLg{P:Program}{t bytes:Nat}(ht:P.underlying t=O (.slice e))(hi:(P.info? e).map (fun i=>(i.zero,i.size,i.bytes))=O (O z,1,bytes))(d:z.cells.size=1)(f:bytes<=1000)
 (g:w.ownsRow base e 1 v n xs) {a:Y} (j:w.heap[b]?=aO #[a] e) (r:a.oneCell'=G)
  (s:n<=900000000) (l:base<=w.heap.size) {K:Y->Z->Prop}
  (h:∀ v' w',w'.ownsRow base e 1 v' (n+1) (xs++[a])->w.grownBy w' v.ownBlock->(v'.ownBlock=v.ownBlock\/∀ k,v'.ownBlock=O k->w.heap.size<=k)->K v' w') :
  WR P (Builtin.append_ #[t,t] pb #[v,cS b 1 m]) w K X:=by
 obtain⟨i,hi,c⟩:=Option.map_eq_some_iff.1 hi;simp only[Prod.mk.injEq] at c;obtain⟨o,p,q⟩:=c;refine Sx.DY (m:=1) (t:=t) (e:=e) ht hi o p q d zo g j J (fun u hu=>?_) zo f l h;grind
def UL(h:w.ownsRow base e 1 v n xs){t:Nat}(ht:t<n):∃ g c u,v = cS g n c/\w.heap[g]?=aO u e/\u[t]?=xs[t]?:=by
 rcases h.2 with⟨-,a⟩| ⟨g,cap,cur,rfl,b,d,f,i,j,k⟩<;>grind
theorem aLh{len:Nat}(h:¬ cap=0):sliced (O ⟨b,0,V⟩) 0 len cap n = cS b len cap:=by
 grind [sliced,Addr.add]
def aLi:(Tryz.prog.info? 87).map (fun i=>(i.zero,i.size,i.bytes))=O (O (au V),1,8):=zk
section
variable{D:Nat->Prop}{ρ:Nat->Nat}{n sb so T:Nat}{cs:Array Y}{tv:Y}{w w':Z}{s:Sr}
def YX{z:Int}(h:so+2<=cs.size):(kB (cs.setIfInBounds so tv) so z)[so]?=O tv:=by
 grind
def sf2{z:Int}{nv:Y}:(kB (cs.setIfInBounds so tv) so z).setIfInBounds so nv=kB (cs.setIfInBounds so nv) so z:=by
 unfold kB;apply Array.ext_getElem?;grind
def Ou{z:Int}:(kB (cs.setIfInBounds so tv) so z).size=cs.size:=zs
def UM(h:gV D ρ n sb so T cs tv w s)(b:vU so T cs) :
  Calls bdL 214 #[pq sb so] w fun e w'=>e = ai (zi s.tr.length)/\w'=w:=by
 have d:=h.cell;have f:=b.sz;obtain⟨a,c,rfl⟩:=gZ h.row;refine aK1 ?_;simp (disch:=first|assumption|omega|simp only[zS]<;>omega|decide) only[zB,simprocAttr,kN,d,YX f,Ou]
def apM(h:gV D ρ n sb so T cs tv w s)(q:vU so T cs)(hD:∀ b,w.heap.size<=b->D b)(hi:i<n)(hl:P.look i s.tr=V)(L:i ∉ s.tr.map (·.1))(hv:dO ρ n w v t)(M:eB t)(hlen:s.tr.length<=900000000) :
  Calls bdL 217 #[pq sb so,pp (ρ i),v] w fun e w'=>e = ai (aq #[])/\dc D w w'/\∃ N,gV D ρ n sb so T cs N w' (s.bind i t):=by
 have a:=h.cell;have Q:=q.sz;have lb:=bn a;obtain⟨ref,hr,-⟩:=h.sv.var i hi;have lr:=bn hr;have R:ρ i≠sb:=by
  intro e;rw[<- e,hr] at a;injection a with a;injection a with _ a _;rcases q.ty with h | h<;>rw[h] at a<;>cases a
 obtain⟨u,x,rfl⟩:=hv.iface;refine aK3 ?_;simp (disch:=first|assumption|omega|simp only[zS]<;>omega|decide) only[zB,simprocAttr,kN,a,hr,YX Q,Ou];obtain⟨w1,y⟩:=cj ((bR w (ρ i) (ah #[ak u x] 91)).alloc (ah #[pp (ρ i)] 87));rw[<- y];have z1:w1.heap.size=w.heap.size+1:=yH;have d:w1.ownsRow 0 87 1 tv s.tr.length (rG ρ s.tr):=by
  rw[y];exact(Jy h.row (h.YW hr zd)).alloc _
 have S:w1.heap[w.heap.size]?=aO #[pp (ρ i)] 87:=yH;have W:w1.heap[sb]?=aO (kB (cs.setIfInBounds so tv) so s.fuel) T:=by
  exact yH
 have X:∀ b o,b≠ρ i->w.heap[b]?=O o->w1.heap[b]?=O o:=yH;have qH:w1.heap[ρ i]?=aO #[ak u x] 91:=by
  exact yH
 have f0:dc D w (bR w (ρ i) (ah #[ak u x] 91)):=⟨J,J,J,yH,fun b o fc hm=>by
  by_cases e:b=ρ i
  .subst e;rw[hr] at fc;exact absurd ⟨h.dv i hi,_,_,_,(a3R fc).symm,.inl J⟩ hm
  exact yH⟩
 have f1:dc D w w1:=by
  exact yF
 clear y;refine aLg zk aLi J zo d S J hlen zo ?_;intro v' w2 f l j9;have m:T≠87/\T≠91:=by rcases q.ty with h | h<;>subst h<;>decide
 have k:∀ (b:Nat) (c:Array Y) (U:Nat),w1.heap[b]?=aO c U->U≠87->w2.heap[b]?=aO c U:=fun b c U fc hU=>by
  rw[l.block b (bn fc) (fun e=>?_)]
  .exact yH
  .rcases d.2 with⟨rfl,-⟩| ⟨H,cap,cur,rfl,-,r,-⟩
   .cases e
   grind [a4w,a3I]
 have f2:dc D w1 w2:=⟨l.os,l.tape,l.output,l.size,fun b o fc hm=>by
  rw[l.block b (bn fc) (fun e=>?_)]
  .exact yH
  .rcases d.2 with⟨rfl,-⟩| ⟨H,cap,cur,rfl,-,r,-⟩
   .cases e
   .simp only[a4w,a3I] at e;subst e;rw[fc] at r;exact hm ⟨h.dr _ J,_,_,_,a3R r,.inr (.inl J)⟩⟩
 have z:=k _ _ _ W m.1;have iL:=k _ _ _ qH zd;have A:=bn z;obtain⟨p2,d2,e2⟩:=gZ f;have pY:(kB (cs.setIfInBounds so tv) so (s.fuel:Int)).size=cs.size:=Ou;subst e2;refine jh z @sf2 @Ou ?_;have B:∀ g,(Value.slice p2 (s.tr.length+1) d2).ownBlock=O g->D g:=(by grind [gV.dr]);have eI:dc D w2 (bR w2 sb (ah (kB (cs.setIfInBounds so (.slice p2 (s.tr.length+1) d2)) so s.fuel) T (0,0))):=⟨J,J,J,yH,fun b o fc hm=>by
  by_cases e:b=sb
  .subst e;rw[z] at fc;exact absurd ⟨h.ds,_,_,_,(a3R fc).symm,q.mu⟩ hm
  exact yH⟩
 have C:dc D w (bR w2 sb (ah (kB (cs.setIfInBounds so (.slice p2 (s.tr.length+1) d2)) so s.fuel) T (0,0))):=yF;refine⟨C,.slice p2 (s.tr.length+1) d2,?_⟩;refine⟨⟨h.sv.inj,fun j I=>?_⟩,h.dv,qI J A,?_,B,h.ds,?_,?_,M,h.ok⟩
 .by_cases E:j=i
  .subst E;refine⟨_,by rw[jg R];exact iL,?_⟩;have:P.look j (s.bind j t).tr=O t:=by simp [Sr.bind,P.look]
   rw[this];exact hv.bL C.toT
  .obtain⟨YY,g1,g2⟩:=h.sv.var j I;have fH:ρ j≠ρ i:=fun e=>E (h.sv.inj j i I hi e);have QZ:ρ j≠sb:=by
    intro e;rw[<- e,g1] at a;injection a with a;injection a with _ a _;exact m.2 a.symm
   refine⟨YY,by rw[jg QZ];exact k _ _ _ (X _ _ fH g1) zd,?_⟩;have:P.look j (s.bind i t).tr=P.look j s.tr:=by simp [Sr.bind,P.look,E]
   rw[this];cases K:P.look j s.tr with
   | none=>rw[K] at g2;exact g2
   | some t'=>rw[K] at g2;exact dK.bL g2 C.toT
 .show(bR w2 sb _).ownsRow 0 87 1 (.slice p2 (s.tr.length+1) d2) (s.tr.length+1) (rG ρ ((i,t)::s.tr));rw[aLc];refine Jy f ?_;intro e;rcases f.2 with⟨e1,-⟩| ⟨H,cap,cur,e1,-,r,-⟩
  .grind
  grind [a4w,a3I]
 .show(i::s.tr.map (·.1)).Nodup;exact List.nodup_cons.2 ⟨L,h.nd⟩
 .intro p F;rcases a3T.1 F with rfl | F
  .omega
  .exact h.lt p F
end
theorem P.Q4{i:Nat}:∀ {tr:Tr},i ∉ tr.map (·.1)->P.look i tr=V
 | [],_=>rfl
 | (j,t)::r,h=>by
  simp only[List.map_cons,a3T,not_or] at h;rw[P.look,bU h.1];exact P.Q4 h.2
theorem P.apN{i j:Nat}{t:Tm}(h:j≠i):∀ (a b:Tr),P.look j (a++(i,t)::b)=P.look j (a++b)
 | [],b=>by rw[a4u,a4u,P.look,bU h]
 | (k,u)::a,b=>by
  rw[List.cons_append,List.cons_append,P.look,P.look,P.apN h a b]
def nG.drop:∀ (k:Nat) {tr:Tr},nG tr->nG (tr.drop k)
 | 0,_,h=>h
 | _+1,[],h=>h
 | k+1,(_,_)::_,h=>nG.drop k h.2
section
variable{D:Nat->Prop}{ρ:Nat->Nat}{n sb so T:Nat}{cs:Array Y}{tv:Y}{w w':Z}{s:Sr}
def EH.free{a b:Tr}(h:EH ρ n (a++(i,t)::b) w)(hi:i<n)(l:i ∉ (a++b).map (·.1)) :
  EH ρ n (a++b) (bR w (ρ i) (ah #[aj] 91)):=by
 obtain⟨ref,hr,-⟩:=h.var i hi;have g:=bn hr;have hk:YS w (bR w (ρ i) (ah #[aj] 91)):=fun b c t _ ht m=>by
  exact yH
 refine⟨h.inj,fun j d=>?_⟩;by_cases f:j=i
 .subst f;refine⟨_,qI J g,?_⟩;grind [P.Q4]
 .obtain⟨k,g1,g2⟩:=h.var j d;refine⟨k,by rw[jg (fun e=>f (h.inj j i d hi e))];omega,?_⟩;grind [P.apN,P.look,dK.bL]
def afA(h:gV D ρ n sb so T cs tv w s)(z:vU so T cs)(hm:m<=s.tr.length)(hlen:s.tr.length<=900000000) :
  Calls bdL 208 #[pq sb so,zi m] w fun e w'=>e = ai (aq #[])/\dc D w w'/\∃ S,gV D ρ n sb so T cs S w' (s.iH m):=by
 have B:=h.cell;have I:=z.sz;have lb:=bn B;obtain⟨a,c,C⟩:=gZ h.row;subst C;refine aK2 ?_;simp (disch:=first|assumption|omega|simp only[zS]<;>omega|decide) only[zB,simprocAttr,kN,B,YX I,Ou];have em:(m:Int).toNat=m:=zo;rw[em];obtain⟨p,A⟩:=cj (if c=m then a else a.map (·.add (m*1)));have W:sliced a m s.tr.length c 1 = .slice p (s.tr.length-m) (c-m):=by rw[A];rfl
 rw[W];have LB:s.tr.length<=c:=by
  rcases h.row.2 with⟨l,f⟩| ⟨g,cap,cur,l,-,-,X,-⟩<;>grind
 have yl:∀ k,k<s.tr.length->∃ g u,a=O ⟨g,0,V⟩/\w.heap[g]?=aO u 87/\u[k]?=(rG ρ s.tr)[k]?:=fun k hk=>by
  obtain⟨g,c',u,E,e2,K⟩:=UL h.row hk;exact yH
 refine bG ?_;refine⟨fun q x w'=>∃ j,x 13=zi (j:Nat)/\j<=s.tr.length-m/\q=s.tr.length-m-j/\dc D w w'/\EH ρ n (s.tr.take (s.tr.length-m-j)++s.tr.drop (s.tr.length-m)) w' /\
   (∀ (b:Nat) (c:Array Y) (U:Nat),w.heap[b]?=aO c U->U≠91->w'.heap[b]?=aO c U),
  ⟨_,0,J,Nat.zero_le _,J,yF,by rw[Nat.sub_zero,a5O];exact h.sv,yH⟩,?_⟩
 intro q x d w1 hI;refine toPr ?_;obtain⟨j,hx,hj,rfl,L,r,M⟩:=hI;have F:=M _ _ _ B (by rcases z.ty with h | h<;>subst h<;>decide);by_cases hlt:j<s.tr.length-m
 .have qV:((j:Nat):Int)<((s.tr.length-m:Nat):Int):=zo;obtain⟨g,u,rfl,g1,g2⟩:=yl (m+j) zo;have Q5:p=O ⟨g,m,V⟩:=by
   rw[A,bU zo];simp [Addr.add];exact fun h=>h.symm
  subst Q5;have XW:=M _ _ _ g1 zd;obtain⟨⟨i,t⟩,hit⟩:∃ y,y=s.tr[s.tr.length-m-j-1]' zo:=⟨_,J⟩;have hi:i<n:=by
   have:=h.lt (i,t) zg;omega
  have g3:u[m+j]?=O (pp (ρ i)):=by
   rw[g2,rG,List.getElem?_map,List.getElem?_reverse zo,List.getElem?_eq_getElem zo];have:s.tr[s.tr.length-1-(m+j)]' zo=(i,t):=by
    rw[hit]
    congr 1
    omega
   rw[this];rfl
  have ej:((j:Nat):Int).toNat=j:=zo;have CP:s.tr.take (s.tr.length-m-j)=s.tr.take (s.tr.length-m-j-1)++[(i,t)]:=by
   have:s.tr.length-m-j=s.tr.length-m-j-1+1:=zo;grind [List.take_succ_eq_append_getElem,Nat.add_sub_cancel]
  rw[CP,List.append_assoc,List.singleton_append] at r;have LA:i ∉ (s.tr.take (s.tr.length-m-j-1)++s.tr.drop (s.tr.length-m)).map (·.1):=by
   have e0:s.tr=s.tr.take (s.tr.length-m-j-1)++(i,t)::s.tr.drop (s.tr.length-m-j-1+1):=by
    rw[hit,<- a3U zo,a5O]
   have N:((s.tr.take (s.tr.length-m-j-1)++(i,t)::s.tr.drop (s.tr.length-m-j-1+1)).map (·.1)).Nodup:=by rw[<- e0];exact h.nd
   rw[List.map_append,List.map_cons] at N;have l:=(List.nodup_cons.1 ((List.perm_middle.nodup_iff).1 N)).1;rw[List.map_append];intro qd;apply l;rcases List.mem_append.1 qd with f | f
   .grind
   .refine List.mem_append_right _ ?_;have K:s.tr.drop (s.tr.length-m)=(s.tr.drop (s.tr.length-m-j-1+1)).drop j:=by
     rw[List.drop_drop];congr 1;omega
    rw[K] at f;obtain⟨y,hy,rfl⟩:=List.mem_map.1 f;grind
  obtain⟨ref,P,-⟩:=r.var i hi;have aX9:=r.free hi LA;refine dG hx @ej @XW (zA @g3 @P) ?_;refine⟨_,zo,j+1,zs,zo,J,?_,?_,fun b c U fc hU=>?_⟩
  .refine L.trans ⟨J,J,J,yH,fun b o fc hm=>?_⟩;by_cases e:b=ρ i
   .subst e;rw[P] at fc;exact absurd ⟨h.dv i hi,_,_,_,(a3R fc).symm,.inl J⟩ hm
   exact yH
  .omega
  exact yH
 .have EJ:j=s.tr.length-m:=zo;subst EJ;have pY:(kB (cs.setIfInBounds so (.slice a s.tr.length c)) so (s.fuel:Int)).size=cs.size:=Ou;have H:sliced a 0 m c 1 = .slice a m c:=by
   unfold sliced;cases a with
   | none=>simp
   | some x=>simp [Addr.add]
  have YZ:=bn F;simp (disch:=first|assumption|omega|simp only[zS]<;>omega|decide) only[zB,simprocAttr,kN,hx,F,YX I,Ou,H,sf2];rw[Nat.sub_self,List.take_zero,a4u] at r;have hTp:T≠87/\T≠91/\T≠180/\T≠89:=by rcases z.ty with h | h<;>subst h<;>decide
  have eT:(bR w1 sb (ah (kB (cs.setIfInBounds so (.slice a m c)) so s.fuel) T (0,0))).ownsRow 0 87 1 (.slice a m c) m (rG ρ (s.iH m).tr):=by
   have ev:rG ρ (s.iH m).tr=(rG ρ s.tr).take m:=by
    simp only[rG,Sr.iH];rw[<- List.map_take,List.take_reverse]
   have Q:w1.ownsRow 0 87 1 (.slice a m c) m ((rG ρ s.tr).take m):=by
    refine⟨by rw[List.length_take,aLd,Nat.mul_one];omega,?_⟩;rcases h.row.2 with⟨l,f⟩| ⟨g,cap,cur,l,f,h3,X,h5,h6,h7⟩<;>grind
   rw[ev];refine Jy Q ?_;intro e;rcases Q.2 with⟨E,-⟩| ⟨g',cap,cur,E,-,h3,-⟩
   .rw[E] at e;cases e
   grind [a4w,a3I]
  refine⟨L.trans ⟨J,J,J,yH,fun b o fc hm=>?_⟩,.slice a m c,⟨r.bL fun b c' t ht fc=>?_,h.dv,qI J YZ,?_,fun g R=>h.dr g (by cases a with
   | none=>cases R
   | some x=>exact R),h.ds,?_,?_,nG.drop _ h.ok⟩⟩
  .by_cases e:b=sb
   .subst e;rw[F] at fc;exact absurd ⟨h.ds,_,_,_,(a3R fc).symm,z.mu⟩ hm
   exact yH
  .exact yH
  .grind [Sr.iH]
  .have:=h.nd;show((s.tr.drop _).map _).Nodup;grind
  .intro p A;exact h.lt p (List.mem_of_mem_drop A)
end
structure CW(f:Nat):Prop where
 tm:∀ {ρ:Nat->Nat} {n:Nat} {tr:Tr} {wb sb so T:Nat} {cs:Array Y} {w:Z} {s:Ws} {t:Tm} {v:Y} {least:Nat} {r:Option Ws},yo tr wb sb so T cs->HU ρ n tr wb sb so T cs w s->dO ρ n w v t->eB t ->
  s.cV<=900000100->s.seen.length<=s.out.length->lF tr f t least s=O r->Calls bdL 31 #[pp wb,v,zi least] w (BY ρ n tr wb sb so T cs w s.cV r)
 comp:∀ {ρ:Nat->Nat} {n:Nat} {tr:Tr} {wb sb so T:Nat} {cs:Array Y} {w:Z} {s:Ws} {name:Bs} {args:List Tm} {b:Nat} {least:Nat} {r:Option Ws},yo tr wb sb so T cs->HU ρ n tr wb sb so T cs w s ->
  dO ρ n w (ak 175 (pp b)) (.comp name args)->eB (.comp name args) ->
  s.cV<=900000100-60->s.seen.length<=s.out.length->zm tr f name args least s=O r->Calls bdL 65 #[pp wb,pp b,zi least] w (BY ρ n tr wb sb so T cs w (s.cV+30) r)
 list:∀ {ρ:Nat->Nat} {n:Nat} {tr:Tr} {wb sb so T:Nat} {cs:Array Y} {w:Z} {s:Ws} {name:Bs} {x y:Tm} {b:Nat} {r:Option Ws},yo tr wb sb so T cs->HU ρ n tr wb sb so T cs w s ->
  dO ρ n w (ak 175 (pp b)) (.comp name [x,y])->eB (.comp name [x,y]) ->
  s.cV<=900000100-60->s.seen.length<=s.out.length->vL tr f 91 x y s=O r->Calls bdL 96 #[pp wb,pp b] w (BY ρ n tr wb sb so T cs w (s.cV+30) r)
theorem BY.of{T:Nat}{r:Option Ws}{e:Ending}(h:BY ρ n tr wb pb so T cs w1 B r e w')(a:nu wb pb w w1)(c:B<=B'):BY ρ n tr wb pb so T cs w B' r e w':=by
 obtain⟨b,d⟩:=h;refine⟨a.trans b,?_⟩;exact yH
def aLk{ρ:Nat->Nat}{n:Nat}{tr:Tr}{wb:Nat}{nm:Y}{w:Z}{seen:List Nat}(a:EH ρ n tr w)(f:NmA ρ w wb nm seen)(b:∀ i∈seen,i<n){i:Nat}(hi:i<n){K:Y->Prop}{X:Y->Z->Prop} :
  RD bdL (Instr.lookup 101 nm (pp (ρ i)) G) w K X =
   match seen.idxOf? i with
   | some k=>K (aq #[.int .i64 ((k+1:Nat)),.bool G])
   | none=>K (aq #[.int .i64 0,.bool ae]):=by
 have hm:Bt bdL 101=O (87,3):=zk;have d:Au bdL 3=O (zi 0):=zk;have e:Ax bdL 87=true:=zk;obtain⟨ref,g,-⟩:=a.var i hi;rcases f with⟨rfl,rfl⟩| ⟨r,c,es,rfl,q,h,l⟩
 .rw[ayO hm (acU e) d];rfl
 .rw[ayP hm e d h l (fun c v m=>?_) g]
  .rw[afv a.inj hi seen 0 0 b];cases seen.idxOf? i with
   | none=>rfl
   | some k=>simp
  .obtain⟨j,o,rfl⟩:=afu m;obtain⟨ref,p,-⟩:=a.var j (b j o);exact⟨_,_,p⟩
def ml.name{T:Nat}{s:Ws}{r:Nat}(h:ml ρ n tr wb pb so T cs (.map (O r)) w s)(hx:yo tr wb pb so T cs)(hr:wb<r)
  (m:w.heap[r]?=O (.map es c)) (y:Fw (A5 ρ s.seen 0) es.toList) (hi:i<n) {e:MapEntry} (hk:e.key=pp (ρ i)) (hv:e.val=zi ((s.seen.length+1:Nat))) :
  ml ρ n tr wb pb so T cs (.map (O r)) (bR w r (.map (es.push e) (c+1))) { s with seen:=s.seen++[i] }/\nu wb pb w (bR w r (.map (es.push e) (c+1))):=by
 have j:nu wb pb w (bR w r (.map (es.push e) (c+1))):=⟨J,J,J,yH,fun b o d hm=>by
  by_cases k:b=r
  .subst k;rw[m] at d;injection d with d;exact absurd (.inr (.inr ⟨hr,.inr ⟨_,_,d.symm⟩⟩)) hm
  exact yH⟩
 have p:=bn m;refine⟨⟨h.st.bL (h.kv hx j),?_,?_,?_,h.YV hx j,?_⟩,j⟩
 .obtain⟨q,buf,b1,b2,l⟩:=h.bu;refine⟨q,buf,b1,yH,l.1,?_⟩;rcases l.2 with l | ⟨g,cap,cur,t,u,z,x⟩
  .exact yH
  .refine .inr ⟨g,cap,cur,t,u,?_,x⟩;exact yH
 .refine .inr ⟨r,c+1,_,J,hr,qI J p,?_⟩;grind [Array.toList_push,apK,apJ]
 .rw[jg]
  .exact h.fu
  .rintro rfl;have:=h.fu;grind
 .intro a f;simp only[List.mem_append,a3T,List.not_mem_nil,or_false] at f;rcases f with f | rfl
  .exact h.sn a f
  omega
def ml.names{T:Nat}{s:Ws}(h:ml ρ n tr wb pb so T cs (.map V) w s)(hx:yo tr wb pb so T cs)(d:s.seen=[])
  (e:tv = au V\/tv=pp wb) (f:w.heap[wb]?=aO #[tv,buf,pq pb so,.map V] 103) (g:w.ownsRow (wb+1) 5 1 buf s.out.length (uW s.out))
 (a:w'=bR (w.alloc (.map #[] 0)) wb (ah #[tv,buf,pq pb so,.map (O w.heap.size)] 103)) :
  ml ρ n tr wb pb so T cs (.map (O w.heap.size)) w' s/\nu wb pb w w'/\wb<w.heap.size/\w'.heap[w.heap.size]?=O (.map #[] 0):=by
 subst a;have lb:=bn f;have i:=bn h.fu;have j:=hx.ne;have b:nu wb pb w (bR (w.alloc (.map #[] 0)) wb (ah #[tv,buf,pq pb so,.map (O w.heap.size)] 103)):=((bD.refl _ _).alloc _).bR (.inl fun _=>.inl J);have c:(bR (w.alloc (.map #[] 0)) wb (ah #[tv,buf,pq pb so,.map (O w.heap.size)] 103)).heap[w.heap.size]?=O (.map #[] 0):=by
  exact yH
 refine⟨⟨h.st.bL (h.kv hx b),?_,?_,?_,h.YV hx b,h.sn⟩,b,lb,c⟩
 .exact⟨tv,buf,e,yH,(by grind [KD,World.ownsRow.alloc])⟩
 .exact .inr ⟨_,_,_,J,lb,c,by rw[d];rfl⟩
 grind [jg,Nn,fu]
def aLm(ih:CW f){T:Nat}{s:Ws}{least:Nat}{r:Option Ws}(hx:yo tr wb pb so T cs)(hs:HU ρ n tr wb pb so T cs w s)(hv:dO ρ n w v t)(dx:eB t)
  (hB:s.cV<=900000100) (A6:s.seen.length<=s.out.length) (hr:lF tr (f+1) t least s=O r):Calls bdL 31 #[pp wb,v,zi least] w (BY ρ n tr wb pb so T cs w s.cV r):=by
 obtain⟨nm,h⟩:=hs;obtain⟨ad,buf,Hz,hb,dS⟩:=id h.bu;have lb:=bn hb;have Db:s.cV=s.out.length+60*s.fuel:=rfl;rw[lF] at hr;refine aKW ?_;refine cJ hb ?_;refine(apA h.fu hx.sz zg).mono ?_;rintro e w1 ⟨he,y⟩;by_cases K:s.fuel=0
 .rw[zip K] at hr;cases hr;rw[zip zo] at he;subst he;simp only[ends,PC];have o:nu wb pb w w1:=by rw[y];exact(bD.refl _ _).bR (.inl fun _=>.inr (.inl J))
  refine⟨o,J,?_,nm,s.out,?_,zo⟩
  .rw[y,qI J (bn h.fu),K];rfl
  .rw[y];exact h.bu.other hx.ne h.fu hx.T1 _
 .rw[bU K] at hr;rw[bU zo] at he;subst he;have g:=h.fuel hx (s.fuel-1);rw[show((s.fuel-1:Nat):Int)=(s.fuel:Int)-1 by omega,<- y] at g;have o:nu wb pb w w1:=by rw[y];exact(bD.refl _ _).bR (.inl fun _=>.inr (.inl J))
  clear y;refine bG ?_;cases hw:fI tr f t with
  | none=>rw[hw] at hr;cases hr
  | some t'=>
  rw[hw] at hr;refine(HT g.st (hv.bL (h.kv hx o).toT) hw).mono ?_;rintro e w2 ⟨rfl,u,rfl,hu⟩;have p:=xn hx.tok dx hw;obtain⟨ad1,aYb,L,A,xZ⟩:=id g.bu;cases t' with
  | atom a=>
   unfold dK at hu;subst hu;unfold eB at p;refine bG ?_;refine(HW g hx a zg).mono ?_;rintro e w3 ⟨⟨v3,rfl⟩,B,dV⟩;refine bG ?_;cases hr;exact⟨o.trans dV,J,_,B⟩
  | int a=>
   unfold dK at hu;subst hu;unfold eB at p;refine bG ?_;refine⟨fun _=>True,trivial,?_⟩;refine bG ?_;refine cQ (pp wb) (fun w' _=>eR) ?_;refine(apE a p.1 p.2 _ (g.ext yF).YT).mono ?_;rintro e w3 ⟨rfl,C⟩;have B:=g.ext (((bD.refl _ _).drew).trans C);refine⟨trivial,?_⟩;have hl:=apF a p.1 p.2;refine(HW B hx _ zg).mono ?_;rintro e w4 ⟨⟨v3,rfl⟩,D,M⟩;refine bG ?_;cases hr;exact⟨(o.trans (bD.toM (((bD.refl _ _).drew).trans C))).trans M,J,_,D⟩
  | var i=>
   unfold dK at hu;obtain⟨hi,rfl⟩:=hu;refine cJ A ?_;obtain⟨s1,dZ⟩:∃ s1:Ws,s1={ s with fuel:=s.fuel-1 }:=⟨_,J⟩;have E:s1.out=s.out:=zg;have fK:s1.seen=s.seen:=zg;rw[<- dZ] at g hr;have UP:∀ (k:Nat) (z:Y) (s2:Ws) (w':Z) (x:Y),x=zi (k:Int)->k<=1000000000->ml ρ n tr wb pb so T cs z w' s2->nu wb pb w2 w'->s2.out=s.out->r=O (s2.add (95::di k)) ->
     Pr (HD fun q=>q w'.drew/\NC (pp wb) fun N=>vq bdL (Instr.fieldAt 103 N 0) q (fun P=>
      CA bdL 64 #[x] w'.drew (fun UQ Q=>q Q/\RD bdL (bo .add 9 (.const (aW [95])) (.tmp 75) (aW [95]) UQ) Q (fun R=>
       CA bdL 44 #[P,R] Q (fun x77 Ox=>BY ρ n tr wb pb so T cs w s.cV r (ai (aq #[])) Ox) (M1 (BY ρ n tr wb pb so T cs w s.cV r))) NX) (M1 (BY ρ n tr wb pb so T cs w s.cV r)))):=by
    intro k z s2 w' x S hk I U ho2 iL;subst S;refine⟨fun _=>True,trivial,?_⟩;refine toPr ?_;refine bG ?_;refine cQ (pp wb) (fun w' _=>eR) ?_;refine(Lw k zo zo _ (I.ext yF).YT).mono ?_;rintro e w3 ⟨rfl,C⟩;have B:=I.ext (((bD.refl _ _).drew).trans C);refine⟨trivial,?_⟩;have e1:jc (k:Int)=di k:=by
     unfold jc;grind
    have hl:=apF k zo zo;rw[e1] at hl ⊢;have LC:s2.out.length=s.out.length:=zg;rw[xP _ _ zg];refine(HW B hx _ zg).mono ?_;rintro e w4 ⟨⟨v3,rfl⟩,D,M⟩;rw[iL];exact⟨((o.trans U).trans (bD.toM (((bD.refl _ _).drew).trans C))).trans M,J,_,D⟩
   rw[aLk g.st g.na g.sn hi,fK];have hlen:s.out.length<=900000100:=zo;cases hk:s.seen.idxOf? i with
   | some k=>
    have sY:k<s.seen.length:=(List.idxOf?_eq_some_iff.1 hk).1;refine bG ?_;refine⟨fun x w'=>w'=w2/\x 9=zi ((k+1:Nat):Int),eR,?_⟩;rintro x w' ⟨rfl,W⟩ d;refine UP (k+1) nm s1 w' _ W zo g (bD.refl _ _) E ?_;grind [Yj,a3I]
   | none=>
    refine bG ?_;refine⟨fun x w'=>x 9=zi ((s.seen.length+1:Nat):Int)/\(∃ z,ml ρ n tr wb pb so T cs z w' { s1 with seen:=s1.seen++[i] })/\nu wb pb w2 w',?_,?_⟩
    .refine bG ?_;refine⟨fun _ w'=>∃ r c es,ml ρ n tr wb pb so T cs (.map (O r)) w' s1/\wb<r/\w'.heap[r]?=O (.map es c)/\Fw (A5 ρ s1.seen 0) es.toList/\nu wb pb w2 w',?_,?_⟩
     .rcases id g.na with⟨g0,rfl⟩| ⟨r',c,es,rfl,g1,g2,g3⟩
      .have YZ:=bn A;refine cJ A ?_;obtain⟨m,X,F,H⟩:=g.names hx g0 L A zg J;exact⟨_,_,_,m,F,H,by rw[g0];rfl,X⟩
      .refine cJ A ?_;grind [bD.refl]
     .rintro _ w' ⟨r',c,es,m,X,F,H,k5⟩ d;obtain⟨ad2,aYf,aYg,fh,th⟩:=id m.bu;have hes:es.size=s.seen.length:=by
       have:=apI H;grind [apH]
      have iW:s.seen.length<=1000000000:=zo;refine cJ fh ?_;rw[aK0 (k:=87) (e:=3) zk F,hes];refine cJ fh ?_;obtain⟨ref,hbi,-⟩:=m.st.var i hi;have mn:IQ (ρ i) (A5 ρ s1.seen 0) 0=none:=by
       rw[afv m.st.inj hi s1.seen 0 0 m.sn,fK,hk];rfl
      rw[ayQ (k:=87) (e:=3) zk zk F H (fun c v hc=>?_) hbi mn]
      .obtain⟨m1,m2⟩:=m.name hx X F H hi (e:={ key:=pp (ρ i),val:=zi ((s.seen.length:Int)+1),born:=c }) J zg;refine⟨?_,⟨_,m1⟩,k5.trans m2⟩;simp only[jo,if_true];grind [Qc]
      .obtain⟨j,D,rfl⟩:=afu hc;obtain⟨ref,h5,-⟩:=m.st.var j (m.sn j D);exact yH
    .rintro x w' ⟨W,⟨z,I⟩,U⟩ d;refine UP (s.seen.length+1) z _ w' _ W zo I U E ?_;grind [Yj,a3I,Ws.add]
  | comp name l=>
   have hu':=hu;unfold dK at hu;obtain⟨b,av,vs,rfl,-⟩:=hu;refine bG ?_;refine(ih.comp (s:={ s with fuel:=s.fuel-1 }) (least:=least) hx ⟨_,g⟩ hu' p (by grind [Ws.cV]) A6 hr).mono ?_;rintro e w3 hp;have IT:=hp.of (B':=s.cV) o (by simp only[Ws.cV];omega);cases r with
   | none=>
    obtain⟨g1,rfl,g2⟩:=IT;refine bG ?_;exact⟨g1,J,g2⟩
   | some s'=>
    obtain⟨g1,rfl,g2⟩:=IT;refine bG ?_;exact⟨g1,J,g2⟩
def F4{name:Bs}{args:List Tm}(h:dO ρ n w (ak 175 (pp b)) (.comp name args)) :
  ∃ a cap,w.heap[b]?=aO #[aW name,.slice a args.length cap] 180 /\
   ∀ (j:Nat) (c:j<args.length),∃ ab cs v,a=O ⟨ab,0,V⟩/\w.heap[ab]?=aO cs 89/\cs[j]?=O v/\dO ρ n w v args[j]:=by
 unfold dO dK at h;obtain⟨g,av,vs,e,-,i,f,d⟩:=h;cases e;have k:=d.length;rcases f with⟨rfl,rfl⟩| ⟨ab,cs,rfl,-,g2,g3,g4⟩
 .exact yH
 .refine⟨O ⟨ab,0,V⟩,cs.size,yH,fun j c=>?_⟩;obtain⟨v,l,m⟩:=iJ.at j c d;exact yH
theorem JA:∀ {l:List Tm} {j:Nat},jF l->(a:j<l.length)->eB l[j]
 | t::ts,0,h,_=>by unfold jF at h;exact h.1
 | t::ts,j+1,h,a=>by unfold jF at h;exact JA h.2 zg
abbrev afI(wb:Nat):Deferred:={ target:=.fn (.func 95) #[],args:=#[pp wb,.int .u8 41] }
def aLs(h:tN w wb S nm out)(a:out.length+1<=1000000000)
  (hk:∀ w',tN w' wb S nm (out++[41])->jT wb w w'->res w'):LV bdL res R [afI wb] .returning w:=by
 refine Cp zk zs (Sx.CallsD.mono (apu h 41 a) ?_);rintro e d w' ⟨rfl,⟨v,rfl⟩,b,c⟩;exact hk w' b c
def aLt(h:tN w wb S nm out)(a:out.length+1<=1000000000)
  (hk:∀ w',tN w' wb S nm (out++[41])->jT wb w w'->R Oo w'):LV bdL res R [afI wb] (.panicking [{ v:=ak 134 (.agg #[]),recovered:=false }]) w:=by
 refine Cp zk zs (Sx.CallsD.mono (apu h 41 a) ?_);rintro e d w' ⟨rfl,⟨v,rfl⟩,b,c⟩;exact hk w' b c
def apP{T:Nat}(hx:yo tr wb pb so T cs)(h:BY ρ n tr wb pb so T cs w B V Oo w3)(d:B+1<=B')(b:B'<=1000000000) :
  LV bdL res (BY ρ n tr wb pb so T cs w B' V) [afI wb] (.panicking [{ v:=ak 134 (.agg #[]),recovered:=false }]) w3:=by
 obtain⟨g1,-,g2,nm,out,g3,g4⟩:=h;refine aLt g3 zo fun w' c a=>?_;refine⟨g1.trans (a.toW pb),J,?_,nm,_,c,zg⟩;refine a.block _ _ g2 ?_;rintro (h | ⟨_,_,_,h⟩)
 .exact hx.ne h
 .injection h with _ h _;exact hx.T1 h
def aLu(ih:∀ g,g<=f->CW g){T:Nat}{s:Ws}{name:Bs}{args:List Tm}{least:Nat}{r:Option Ws}(hx:yo tr wb pb so T cs)(hs:HU ρ n tr wb pb so T cs w s)
  (hu:dO ρ n w (ak 175 (pp b)) (.comp name args)) (dx:eB (.comp name args))
  (hB:s.cV<=900000100-60) (D:s.seen.length<=s.out.length) (hr:zm tr (f+1) name args least s=O r) :
  Calls bdL 65 #[pp wb,pp b,zi least] w (BY ρ n tr wb pb so T cs w (s.cV+30) r):=by
 obtain⟨nm,h⟩:=hs;obtain⟨ad,buf,Hz,hb,dS⟩:=id h.bu;have lb:=bn hb;have Db:s.cV=s.out.length+60*s.fuel:=rfl;obtain⟨ao,cap,E,JB⟩:=F4 hu;have vQ:=dx;unfold eB at vQ;obtain⟨aYi,Er,Q⟩:=vQ;rw[zm.eq_def] at hr;dsimp only at hr;have B:Ext w w.drew:=yF;have hd:=h.ext B;refine aKY ?_;refine cJ E ?_;refine(apB name args.length _).mono ?_;rintro e w1 ⟨rfl,rfl⟩;by_cases hp:lz name args.length=0
 .have IT:¬ (0:Int)<((lz name args.length:Nat):Int):=zo;refine bG ?_;refine⟨fun x w'=>w'=w.drew/\x 101 = .bool (decide (name=[46]/\args.length=2)),?_,?_⟩
  .by_cases hn:name=[46]
   .refine dA E hn ?_;simp [jo];omega
   .refine dA E hn ?_;grind
  .rintro x w' ⟨rfl,aLv⟩ d;rw[aLv];by_cases hl:name=[46]/\args.length=2
   .rw[GS _ _ hl];obtain⟨x0,p,rfl⟩:∃ x0 p,args=[x0,p]:=by
     match args,hl.2 with
     | [x0,p],_=>grind
    have fi:lz name 2=0:=hp;simp only[fi,ne_eq,not_true_eq_false,if_false,zip hl.1] at hr;refine a3L ((ih f (a3O _)).list hx ⟨_,hd⟩ (hu.bL (rF.ea B)) dx hB D hr) ?_;rintro e w2 gL;have j7:=gL.of (B':=s.cV+30) (bD.toM (M:=MW wb pb) B) (a3O _);cases r with
    | none=>
     obtain⟨g1,rfl,g2⟩:=j7;exact⟨g1,J,g2⟩
    | some s'=>
     obtain⟨g1,rfl,g2⟩:=j7;exact⟨g1,J,g2⟩
   .rw[GU _ _ hl];have mm:Wb (tE tr f 40 args (s.add name)) (fun s=>O (O (s.add [41])))=O r:=by
     grind
    have EL:Ext w w.drew.drew:=B.drew;have xV:=h.ext EL;refine cJ E ?_;refine(HW xV hx name zo).mono ?_;rintro e w2 ⟨⟨v2,rfl⟩,F,eY⟩;have R:nu wb pb w w2:=(bD.toM (M:=MW wb pb) EL).trans eY;have LD:=(h.kv hx R) _ _ _ (.inl J) E;refine cJ LD ?_;refine⟨fun m x w'=>∃ j o EK,x 32=zi (j:Nat)/\j<=args.length/\m=args.length-j/\ml ρ n tr wb pb so T cs EK w' o/\nu wb pb w w' /\
     (∃ g,g<=f/\Wb (tE tr g (if j=0 then 40 else 44) (args.drop j) o) (fun s=>O (O (s.add [41])))=O r)/\o.cV<=s.cV+20/\o.seen.length<=o.out.length,
     ⟨_,0,_,nm,J,Nat.zero_le _,J,F,R,zg,by grind [Ws.pK],pj D⟩,?_⟩
    intro m x3 d3 w3 hI;refine toPr ?_;obtain⟨j,o,EK,Dj,hj,rfl,q,t,⟨g,hg,l⟩,apR,LF⟩:=hI;have apS:o.cV=o.out.length+60*o.fuel:=rfl;obtain⟨ad3,aLx,aLy,eO,NA⟩:=id q.bu;have Oy:=hu.bL (h.kv hx t).toT;by_cases hlt:j<args.length
    .obtain⟨ao3,S,LG,aLz⟩:=F4 Oy;have aLA:=(h.kv hx t) _ _ _ (.inl J) E;rw[aLA] at LG;simp only[a3I,Obj.cells.injEq,and_true,Array.mk.injEq,List.cons.injEq,Value.slice.injEq,true_and] at LG;obtain⟨rfl,rfl⟩:=LG;obtain⟨ab,US,v3,rfl,nC,JC,EN⟩:=aLz j hlt;rw[a3U hlt] at l;cases g with
     | zero=>simp [tE,Wb] at l
     | succ g=>
     rw[tE] at l;have EJ:((j:Nat):Int).toNat=j:=zo;have aLB:(if (1:Int)<((j:Nat):Int) then(1:Int) else((j:Nat):Int))=if j=0 then 0 else 1:=by
      omega
     refine dG @akO Dj nC (zA JC aLB) ?_;obtain⟨sep,aLC⟩:∃ sep:UInt8,sep=if j=0 then 40 else 44:=⟨_,J⟩
     rw[<- aLC] at l;have Oz:((List.getD [(40:UInt8),44] (Int.toNat (if j=0 then 0 else 1)) 0).toNat:Int)=sep.toNat:=by
      grind
     refine a3L (Oq (q.ext yF) hx sep zo Oz) ?_;rintro e u ⟨⟨v4,rfl⟩,i,c⟩;have Y0:nu wb pb w u:=(t.trans (bD.drew (bD.refl _ _))).trans c;have vW:=EN.bL (q.kv hx ((bD.drew (bD.refl _ _)).trans c)).toT;have JD:eB args[j]:=JA Q hlt;have U:(o.add [sep]).cV=o.cV+1:=Ws.pK ..;cases a:lF tr g args[j] 0 (o.add [sep]) with
     | none=>simp [a,Wb] at l
     | some W=>
     refine bG ?_;refine a3L ((ih g zo).tm (least:=0) hx ⟨_,i⟩ vW JD zo (pj LF) a) ?_;rintro e w5 H;cases W with
     | none=>
      simp only[a,Wb,a3I] at l;subst l;have A:=H.of (B':=s.cV+30) Y0 zo;obtain⟨g1,rfl,g2⟩:=A;exact⟨g1,J,g2⟩
     | some I=>
      obtain⟨g1,rfl,OA,g2⟩:=H;obtain⟨l1,K⟩:=(K8 hx.tok g).tm _ _ _ _ JD zo (pj LF) a;simp only[a] at l;refine cJ Dj ?_;refine⟨_,zo,j+1,I,OA,zg,zo,J,g2,Y0.trans g1,⟨g,zo,?_⟩,zo,K⟩;rw[bU zo];exact l
    .have hdj:args.drop j=[]:=zg;rw[hdj] at l;cases g with
     | zero=>simp [tE,Wb] at l
     | succ g=>
     simp only[tE,Wb,a3I] at l;subst l;refine cJ Dj ?_;refine(Oq q hx 41 zo J).mono ?_;rintro e u ⟨⟨v4,rfl⟩,i,c⟩;exact⟨t.trans c,J,_,i⟩
 .have IT:(0:Int)<((lz name args.length:Nat):Int):=zo;obtain⟨x0,p,rfl⟩:∃ x0 p,args=[x0,p]:=by
   have F:args.length=2:=by
    by_cases F:args.length=2
    .omega
    .exact absurd (by unfold lz;grind) hp
   match args,F with
   | [x0,p],_=>grind
  have fi:lz name [x0,p].length=lz name 2:=rfl;rw[fi] at hp IT ⊢;have gL:lz name 2<=2:=by
   grind [lz]
  obtain⟨pG,JE⟩:=N7 Q;dsimp only at hr;rw[zip hp] at hr;obtain⟨op,X⟩:∃ op:Bs,op=if name=[109,111,100] then [32,109,111,100,32] else name:=⟨_,J⟩
  have Y1:op.length<=20:=zg;rw[<- X] at hr;have L:∀ w',nu wb pb w w'->∃ ab cap zG u0 u1,w'.heap[b]?=aO #[aW name,cS ab 2 cap] 180/\w'.heap[ab]?=aO zG 89/\zG[0]?=O u0/\zG[1]?=O u1/\dO ρ n w' u0 x0/\dO ρ n w' u1 p:=by
   intro w' hf;obtain⟨ao,cap,k1,N⟩:=F4 (hu.bL (h.kv hx hf).toT);obtain⟨ab,zG,u0,rfl,k3,k4,k5⟩:=N 0 zs;obtain⟨LH,zI,u1,e,k6,k7,k8⟩:=N 1 zs;exact yH
  by_cases j3:lz name 2<least
  .rw[zip j3] at hr;refine bG ?_;refine(Oq hd hx 40 zo J).mono ?_;rintro e w2 ⟨⟨v2,rfl⟩,F,eY⟩;have R:nu wb pb w w2:=(bD.toM (M:=MW wb pb) B).trans eY;obtain⟨ab,Ha,F5,u0,u1,k1,N,k3,k4,k5,k6⟩:=L w2 R;refine jh @k1 @N @k3 ?_;cases a:lF tr f x0 (lz name 2) (s.add [40]) with
   | none=>simp [a,Wb] at hr
   | some W=>
   have aYl:(s.add [40]).cV=s.cV+1:=Ws.pK ..;refine a3L ((ih f (a3O _)).tm hx ⟨_,F⟩ k5 pG zo (pj D) a) ?_;rintro e w3 H;have A:=H.of (B':=s.cV+1) R zo;cases W with
   | none=>
    simp only[a,Wb,a3I] at hr;subst hr;obtain rfl:=A.2.1;exact apP hx A zo zo
   | some k=>
    obtain⟨t,rfl,C,q⟩:=A;obtain⟨l1,K⟩:=(K8 hx.tok f).tm _ _ _ _ pG zo (pj D) a;simp only[a] at hr;obtain⟨ab3,S,US,u03,xe,q1,q2,q3,q4,q5,q6⟩:=L w3 t;have aLG:k.cV=k.out.length+60*k.fuel:=rfl;refine bG ?_;refine⟨fun _ w'=>ml ρ n tr wb pb so T cs C w' (k.add op)/\nu wb pb w3 w',?_,?_⟩
    .by_cases y:name=[109,111,100]
     .refine dA @q1 y ?_;rw[X,zip y] at Y1 ⊢;refine(HW q hx _ zo).mono ?_;rintro e u ⟨⟨v4,rfl⟩,i,c⟩;exact⟨i,c⟩
     .refine dA @q1 y ?_;rw[X,bU y] at Y1 ⊢;have UT:Ext w3 w3.drew:=yF;refine(HW (q.ext UT) hx _ zo).mono ?_;rintro e u ⟨⟨v4,rfl⟩,i,c⟩;exact⟨i,(bD.toM UT).trans c⟩
    .rintro _ u ⟨i,c⟩ d4;have UU:=t.trans c;obtain⟨ab4,aLI,cs4,u04,xf,q1,q2,q3,q4,q5,q6⟩:=L u UU;have zJ:((lz name 2:Nat):Int)+1=((lz name 2+1:Nat):Int):=zo;refine dG @q1 @q2 @q4 zJ ?_;have U:(k.add op).cV=k.cV+op.length:=Ws.pK ..;cases z:lF tr f p (lz name 2+1) (k.add op) with
     | none=>simp [z,Wb] at hr
     | some r2=>
     refine a3L ((ih f (a3O _)).tm hx ⟨_,i⟩ q6 JE zo (pj K) z) ?_;rintro e w5 ng;have P:=ng.of (B':=s.cV+1) UU zo;cases r2 with
     | none=>
      simp only[z,Wb,a3I] at hr;subst hr;obtain rfl:=P.2.1;exact apP hx P zo zo
     | some I=>
      obtain⟨iV,rfl,OA,h5⟩:=P;obtain⟨l3,l4⟩:=(K8 hx.tok f).tm _ _ _ _ JE zo (pj K) z;simp only[z,Wb,a3I] at hr;subst hr;have aLK:I.cV=I.out.length+60*I.fuel:=rfl;refine aLs h5.bu zo fun w6 hb6 Dk=>?_;exact⟨iV.trans (Dk.toW pb),J,OA,(by grind [ml.wr])⟩
  .rw[bU j3] at hr;obtain⟨ab,Ha,F5,u0,u1,k1,N,k3,k4,k5,k6⟩:=L w.drew (bD.toM B);refine jh @k1 @N @k3 ?_;cases a:lF tr f x0 (lz name 2) s with
   | none=>simp [a,Wb] at hr
   | some W=>
   refine a3L ((ih f (a3O _)).tm hx ⟨_,hd⟩ k5 pG zo D a) ?_;rintro e w3 H;have A:=H.of (B':=s.cV+1) (bD.toM (M:=MW wb pb) B) zo;cases W with
   | none=>
    simp only[a,Wb,a3I] at hr;subst hr;have ng:=A.of (B':=s.cV+30) (bD.refl _ _) zo;obtain⟨g1,rfl,g2⟩:=ng;exact⟨g1,J,g2⟩
   | some k=>
    obtain⟨t,rfl,C,q⟩:=A;obtain⟨l1,K⟩:=(K8 hx.tok f).tm _ _ _ _ pG zo D a;simp only[a] at hr;obtain⟨ab3,S,US,u03,xe,q1,q2,q3,q4,q5,q6⟩:=L w3 t;have aLG:k.cV=k.out.length+60*k.fuel:=rfl;refine bG ?_;refine⟨fun _ w'=>ml ρ n tr wb pb so T cs C w' (k.add op)/\nu wb pb w3 w',?_,?_⟩
    .by_cases y:name=[109,111,100]
     .refine dA @q1 y ?_;rw[X,zip y] at Y1 ⊢;refine(HW q hx _ zo).mono ?_;rintro e u ⟨⟨v4,rfl⟩,i,c⟩;exact⟨i,c⟩
     .refine dA @q1 y ?_;rw[X,bU y] at Y1 ⊢;have UT:Ext w3 w3.drew:=yF;refine(HW (q.ext UT) hx _ zo).mono ?_;rintro e u ⟨⟨v4,rfl⟩,i,c⟩;exact⟨i,(bD.toM UT).trans c⟩
    .rintro _ u ⟨i,c⟩ d4;have UU:=t.trans c;obtain⟨ab4,aLI,cs4,u04,xf,q1,q2,q3,q4,q5,q6⟩:=L u UU;have zJ:((lz name 2:Nat):Int)+1=((lz name 2+1:Nat):Int):=zo;refine dG @q1 @q2 @q4 zJ ?_;have U:(k.add op).cV=k.cV+op.length:=Ws.pK ..;cases z:lF tr f p (lz name 2+1) (k.add op) with
     | none=>simp [z,Wb] at hr
     | some r2=>
     simp only[z,Wb,a3I] at hr;refine a3L ((ih f (a3O _)).tm hx ⟨_,i⟩ q6 JE zo (pj K) z) ?_;rintro e w5 ng;have P:=ng.of (B':=s.cV+30) UU zo;subst hr;cases r2 with
     | none=>
      obtain⟨g1,rfl,g2⟩:=P;exact⟨g1,J,g2⟩
     | some I=>
      obtain⟨g1,rfl,g2⟩:=P;exact⟨g1,J,g2⟩
section
variable{D:Nat->Prop}{ρ:Nat->Nat}{n sb so T:Nat}{cs:Array Y}
def aLL(M:vU so T cs)(hi:i<n):∀ (f:Nat) {tv v:Y} {w:Z} {s:Sr} {t:Tm} {r:Except jP (Bool×Sr)},gV D ρ n sb so T cs tv w s->dO ρ n w v t->eB t->s.fuel<=1000000000->zt f i t s=O r ->
  Calls bdL 221 #[pq sb so,pp (ρ i),v] w (EPost D w (xC D ρ n sb so T cs) r):=by
 intro f;induction f using Nat.strongRecOn with
 | _ f ih=>
 intro tv v w s t r h hv N E hr;cases f with
 | zero=>simp [zt] at hr
 | succ f=>
 rw[zt] at hr;refine aK4 ?_;refine(Ot h M E).mono ?_;rintro e w1 ⟨l,c⟩;by_cases F:s.fuel=0
 .rw[zip F] at hr c;injection hr with hr;subst hr c;simp only[ends,PC];exact⟨l,J⟩
 rw[bU F] at hr c;obtain⟨rfl,c⟩:=c;have Q:=hv.bL l.toT;refine bG ?_;cases hw:fI s.tr f t with
 | none=>rw[hw] at hr;cases hr
 | some R=>
 rw[hw] at hr;refine a3L (HT c.sv Q (f:=f) (by exact hw)) ?_;rintro e w2 ⟨rfl,u,rfl,hu⟩;have S:=xn h.ok N hw;cases R with
 | atom a=>
  unfold dK at hu;subst hu;cases hr;refine bG ?_;exact⟨l,J,_,c⟩
 | int a=>
  unfold dK at hu;subst hu;cases hr;refine bG ?_;exact⟨l,J,_,c⟩
 | var j=>
  unfold dK at hu;obtain⟨z,rfl⟩:=hu;cases hr;obtain⟨ref,g1,-⟩:=c.sv.var j z;obtain⟨YY,g2,-⟩:=c.sv.var i hi;refine bG ?_;rw[ayM zk g1 g2];refine⟨l,?_,_,c⟩;simp only[Ending.returned.injEq,Value.bool.injEq,decide_eq_decide];exact⟨fun e=>c.sv.inj _ _ z hi e,zg⟩
 | comp name args=>
  obtain⟨b,av,vs,rfl,-,-⟩:=by unfold dK at hu;exact hu
  obtain⟨ao,cap,U,W⟩:=F4 hu;unfold eB at S;refine cJ U ?_;refine⟨fun m x w'=>∃ j o H,x 29=zi (j:Nat)/\j<=args.length/\m=args.length-j/\gV D ρ n sb so T cs H w' o/\dc D w2 w'/\o.fuel<=1000000000/\(∃ g,g<=f/\AU g i (args.drop j) o=O r),
   ⟨_,0,_,_,J,Nat.zero_le _,J,c,yF,Nat.le_trans (Nat.sub_le _ _) E,f,a3O _,hr⟩,?_⟩
  intro m x d w3 X;refine toPr ?_;obtain⟨j,o,H,hx,z,rfl,I,K,BA,g,hg,k⟩:=X;cases g with
  | zero=>simp [AU] at k
  | succ g=>
  by_cases hlt:j<args.length
  .rw[a3U hlt,AU] at k;obtain⟨ab,US,v3,rfl,nC,JC,EN⟩:=W j hlt;have A:=K.bL (by unfold lH;decide) nC;have B:=EN.bL K.toT;have ej:((j:Nat):Int).toNat=j:=zo;refine dG hx @ej A JC ?_;cases q:zt g i args[j] o with
   | none=>rw[q] at k;cases k
   | some r1=>
   refine a3L (ih g zo I B (by grind [JA]) BA q) ?_;rintro e w4 ⟨gT,y⟩;rw[q] at k;cases r1 with
   | error t=>
    cases k;have y:e=gW t:=y;subst y;cases t<;>exact⟨yF,J⟩
   | ok p=>
    obtain⟨b1,s4⟩:=p;obtain⟨rfl,C,L⟩:=y;simp only[P.Out.eo] at k;have hfu:=((Jq g).tm q).2;cases b1 with
    | true=>
     cases k;refine bG ?_;exact⟨yF,J,_,L⟩
    | false=>
     refine cJ hx ?_;refine⟨_,zo,j+1,s4,C,zs,zo,J,L,yF,?_,g,zo,zg⟩;grind
  .have EJ:j=args.length:=zo;subst EJ;rw[List.drop_length,AU] at k;cases k;refine cJ hx ?_;exact⟨yF,J,_,I⟩
def aLP(g:vU so T cs)(hi:i<n){s:Sr}{r:Except jP (Bool×Sr)}(h:gV D ρ n sb so T cs tv w s)(hD:∀ b,w.heap.size<=b->D b)(hv:dO ρ n w v t)(j:eB t)(m:s.fuel<=1000000000)
  (x:i ∉ s.tr.map (·.1)) (y:s.tr.length<=900000000) (hr:uk f i t s=O r) :
  Calls bdL 216 #[pq sb so,pp (ρ i),v] w (EPost D w (xC D ρ n sb so T cs) r):=by
 refine aK5 ?_;unfold uk at hr;cases a:zt f i t s with
 | none=>rw[a] at hr;cases hr
 | some o=>
 rw[a] at hr;refine a3L (aLL g hi f h hv j m a) ?_;rintro e w1 ⟨c,d⟩;cases o with
 | error t=>
  cases hr;have d:e=gW t:=d;subst d;cases t<;>exact⟨c,J⟩
 | ok p=>
  obtain⟨b1,s1⟩:=p;obtain⟨rfl,z,k⟩:=d;have l:=((Jq f).tm a).1;have l:s1.tr=s.tr:=l;simp only[P.Out.eo] at hr;cases b1 with
  | true=>
   cases hr;refine bG ?_;exact⟨c,J,_,k⟩
  | false=>
   cases hr;refine bG ?_;refine a3L (apM k g (fun b q=>hD b (Nat.le_trans c.size q)) hi (by grind [P.Q4]) zg (hv.bL c.toT) j zg) ?_;rintro e w2 ⟨rfl,A,B,u⟩;refine bG ?_;exact⟨yF,J,_,u⟩
end
