/- A part of one proof (ShX1, KS1, GBase3, KS2, KS3, PW5, PW6, KS4). -/
import Derived.Test.YtoegidfbnkaabaaGreatDoorPkLAP
set_option linter.all false
set_option maxRecDepth 100000
set_option maxHeartbeats 8000000
open Option renaming some → O, none → V
open Go renaming Value → Y, World → Z
open Bool renaming true → A, false → G
open Go.Obj renaming cells → ae
open Go.Ending renaming returned → ah
open Go.Value renaming nilIface → ai, iface → aj, tuple → ak, pointer → aq
open Option.some renaming injEq → a1o, inj → a1w
open Go.Calls renaming mono → a1r
open Nat renaming le_refl → a1s
open List renaming drop_eq_getElem_cons → a1y, mem_cons → a1z, nil_append → a2d, take_append_drop → a3v
open Go.Value renaming ownBlock → a2f
open Go.Proofs.Tryz renaming prog → bby
open Go.Proofs.Tryz
namespace Go.Proofs.YtoegidfbnkaabaaGreatDoor
open P
open Go.Proofs.YtoegidfbnkaabaaGreatDoor.Sx
variable{B B' b base c cap e f g i m n pb so wb:Nat}{D:Nat->Prop}{R:Ending->Z->Prop}{S buf nm tv v:Y}{X:Y->Z->Prop}{cs:Array Y}{es:Array MapEntry}{out:Bs}{res:Z->Prop}{t:Tm}{tr:Tr}{w w' w1 w3:Z}{xs:List Y}{ρ:Nat->Nat}
section
variable{p0 p1 p2 p3 p4 p5 p6 p7:Y}{w:Z}{R:Ending->Z->Prop}
def aJt:=cz w R [p0] (gc [] [] []) func214
def aJu:=cz w R [p0,p1] (gc [(1,[13])] [] [14]) func208
def aJv:=cz w R [p0,p1,p2] (gc [] [] []) func217
def aJw:=cz w R [p0,p1,p2] (gc [(9,[29])] [] [6,16,20,22,30,36]) func221
def aJx:=cz w R [p0,p1,p2] (gc [] [] [6,10]) func216
def aJy:=cz w R [p0,p1,p2] (gd [(16,[94])] [(11000,[63]),(12001,[]),(13000,[88]),(14001,[])] [(13,22),(18,15)] [] [] [] [6,8,10,12,14,26,27,36,37,42,43,47,52,57,58,61,62,63,66,87,88,95,112,113]) func210
def aJz:=cz w R [p0,p1,p2] (gd [(10,[64])] [(5000,[33]),(6001,[]),(7000,[58]),(8001,[])] [(7,22),(12,15)] [] [] [] [6,8,10,22,27,28,31,32,33,36,57,58,65,82,83]) func218
def aJA:=cz w R [p0,p1,p2] (gc [] [(9001,[]),(13000,[43]),(14001,[7])] [9,10,14,15,19,20,25,28,39,41,42,43]) func222
def aJB:=cz w R [p0,p1] (gd [] [] [(11,9)] [(12,[21,0,1,2,3,4,5,6,7,8,9,10,12,13,14,15,16,17,18,11,19,20,21])] [] [] [13,17,21,33]) func219
def aJC:=cz w R [p0,p1] (gc [] [] [4,7,10,12,18,19,21,27,28,30]) func220
def aJD:=cz w R [p0,p1,p2] (gd [] [(18003,[64]),(21020,[])] [(5,7),(8,7),(12,7)] [(14,[11,0,1,2,3,4,5,6,7,8,9,10,11]),(22,[10,0,1,2,3,5,6,7,8,4,9,10,11])] [] [] [6,8,12,13,14,15,23,24,25,35,39,40,41,42,50,51,52,63,64,65,66,67,68,74,75,76,88,89,92,93,94,97,98,99,102,103,104,107,110]) func213
end
open Go.RowKit Sx
def lI(T:Nat):Prop:=T=91\/T=87\/T=130\/T=356\/T=116\/T=342\/T=20
def EM(D:Nat->Prop)(b:Nat)(o:Obj):Prop:=D b/\∃ cs T z,o = ae cs T z/\lI T
abbrev dc(D:Nat->Prop)(w w':Z):Prop:=bB (EM D) w w'
theorem dc.bJ(h:dc D w w'){T:Nat}(c:¬ lI T)(a:w.heap[b]?=aO cs T):w'.heap[b]?=aO cs T:=by
 refine h.block _ _ a ?_;rintro ⟨_,cs',d,z,e,f⟩;grind
theorem dc.toT(h:dc D w w'):X3 w w':=fun b cs t _ ht a=>h.bJ (by rcases ht with rfl | rfl<;>(unfold lI;decide)) a
theorem dc.ed(h:Ext w w'):dc D w w':=yF
def rz(ρ:Nat->Nat)(tr:Tr):List Y:=tr.reverse.map fun p=>pp (ρ p.1)
def aJE(ρ:Nat->Nat)(i:Nat)(t:Tm)(tr:Tr):rz ρ ((i,t)::tr)=rz ρ tr++[pp (ρ i)]:=by simp [rz]
@[simp] theorem aJF(ρ:Nat->Nat)(tr:Tr):(rz ρ tr).length=tr.length:=by simp [rz]
structure vF(so T:Nat)(cs:Array Y):Prop where
 sz:so+2<=cs.size
 ty:T=130\/T=116
structure gO(D:Nat->Prop)(ρ:Nat->Nat)(n sb so T:Nat)(cs:Array Y)(tv:Y)(w:Z)(s:Sr):Prop where
 sv:Eg ρ n s.tr w
 dv:∀ i,i<n->D (ρ i)
 cell:w.heap[sb]?=aO (kr (cs.setIfInBounds so tv) so s.fuel) T
 row:w.ownsRow 0 87 1 tv s.tr.length (rz ρ s.tr)
 dr:∀ g,tv.ownBlock=O g->D g
 ds:D sb
 nd:(s.tr.map (·.1)).Nodup
 lt:∀ p∈s.tr,p.1<n
 ok:nC s.tr
section
variable{D:Nat->Prop}{ρ:Nat->Nat}{n sb so T:Nat}{cs:Array Y}{tv:Y}{w w':Z}{s:Sr}
theorem gO.ext(h:gO D ρ n sb so T cs tv w s)(a:Ext w w'):gO D ρ n sb so T cs tv w' s:=
 ⟨h.sv.bJ (G5.ed a),h.dv,a.ext _ _ h.cell,jL a.ext h.row,h.dr,h.ds,h.nd,h.lt,h.ok⟩
theorem gO.X7(h:gO D ρ n sb so T cs tv w s){c:Array Y}{U:Nat}(b:w.heap[g]?=aO c U)(d:U≠87):tv.ownBlock≠O g:=by
 intro a;rcases h.row.2 with⟨rfl,-⟩| ⟨e,cap,cur,rfl,-,f,-⟩
 .cases a
 grind [a2f,a1o]
def vF.mu(a:vF so T cs):lI T:=by grind [lI,ty]
theorem I2{size:Nat}{o:Obj}(h:w.ownsRow base e size v m xs)(a:v.ownBlock≠O g):(bQ w g o).ownsRow base e size v m xs:=by
 refine⟨h.1,?_⟩;rcases h.2 with f | ⟨b,cap,cur,rfl,c,i,d⟩
 .exact yH
 .exact .inr ⟨b,cap,cur,J,c,by rw[jb (fun e=>a (by subst e;rfl))];omega,d⟩
def gO.cells(h:gO D ρ n sb so T cs tv w s)(d:vF so T cs){cs':Array Y}{f:Nat} :
  gO D ρ n sb so T cs' tv (bQ w sb (ae (kr (cs'.setIfInBounds so tv) so f) T (0,0))) { s with fuel:=f }/\dc D w (bQ w sb (ae (kr (cs'.setIfInBounds so tv) so f) T (0,0))):=by
 have l:=bg h.cell;have g:T≠87/\T≠91/\T≠180/\T≠89:=by rcases d.ty with h | h<;>subst h<;>decide
 have i:dc D w (bQ w sb (ae (kr (cs'.setIfInBounds so tv) so f) T (0,0))):=⟨J,J,J,yH,fun b o a hm=>by
  by_cases e:b=sb
  .subst e;rw[h.cell] at a;exact absurd ⟨h.ds,_,_,_,(a1w a).symm,d.mu⟩ hm
  exact yH⟩
 have j:G5 w (bQ w sb (ae (kr (cs'.setIfInBounds so tv) so f) T (0,0))):=fun b c t ht a=>by
  rw[jb]
  .omega
  .rintro rfl;rw[h.cell] at a;grind
 exact⟨⟨h.sv.bJ j,h.dv,yH,I2 h.row (h.X7 h.cell g.1),h.dr,h.ds,h.nd,h.lt,h.ok⟩,i⟩
theorem gO.aJG(h:gO D ρ n sb so T cs tv w s)(a:vF so T cs)(b:s.fuel≠0) :
  gO D ρ n sb so T cs tv (bQ w sb (ae (kr (cs.setIfInBounds so tv) so ((s.fuel:Int)-1)) T (0,0))) s.dec/\dc D w (bQ w sb (ae (kr (cs.setIfInBounds so tv) so ((s.fuel:Int)-1)) T (0,0))):=by
 have:=h.cells a (cs':=cs) (f:=s.fuel-1);rw[show((s.fuel-1:Nat):Int)=(s.fuel:Int)-1 by omega] at this;exact this
def gP:jE->Ending
 | .fault k=>.panicked [{ v:=aj 27 (.int .i64 k),recovered:=false }]
 | .DZ=>NL
def EPost(D:Nat->Prop)(w:Z){α:Type}(R:α->Ending->Z->Prop)(r:Except jE α)(e:Ending)(w':Z):Prop:=
 dc D w w'/\match r with
  | .ok a=>R a e w'
  | .error t=>e=gP t
abbrev xp(D:Nat->Prop)(ρ:Nat->Nat)(n sb so T:Nat)(cs:Array Y)(p:Bool×Sr)(e:Ending)(w':Z):Prop:=
 e = ah (.bool p.1)/\∃ tv,gO D ρ n sb so T cs tv w' p.2
theorem EPost.of{α:Type}{R:α->Ending->Z->Prop}{r:Except jE α}{e:Ending}(h:EPost D w1 R r e w')(a:dc D w w1):EPost D w R r e w':=⟨a.trans h.1,h.2⟩
def EPost.tail{α:Type}{R:α->Ending->Z->Prop}(b:∀ {a e w},R a e w->∃ v,e = ah v){r:Except jE α}{e:Ending}(h:EPost D w R r e w') :
  ends (fun x w'=>EPost D w R r (ah x) w') (PC (EPost D w R r)) e w':=by
 cases e with
 | returned v=>exact h
 | panicked c=>exact h
 | outgrown=>
  obtain⟨-,h⟩:=h;cases r with
  | ok a=>obtain⟨v,h⟩:=b h;cases h
  | error t=>cases t<;>cases h
def EPost.TP{r:Except jE (Bool×Sr)}{e:Ending}(h:EPost D w (xp D ρ n sb so T cs) r e w') :
 ends (fun x w'=>EPost D w (xp D ρ n sb so T cs) r (ah x) w') (PC (EPost D w (xp D ρ n sb so T cs) r)) e w':=h.tail zg
def EPost.aJH{r:Except jE (Bool×Sr)}{e:Ending}(h:EPost D w (xp D ρ n sb so T cs) r e w') :
  ends (fun x w'=>EPost D w (xp D ρ n sb so T cs) r (ah x) w') (Mm (EPost D w (xp D ρ n sb so T cs) r)) e w':=by
 cases e with
 | returned v=>exact h
 | panicked c=>exact fun _=>h
 | outgrown=>
  obtain⟨-,h⟩:=h;cases r with
  | ok a=>obtain⟨h,-⟩:=h;cases h
  | error t=>cases t<;>cases h
def NN(h:gO D ρ n sb so T cs tv w s)(a:vF so T cs)(f:s.fuel<=1000000000) :
  Calls bby 61 #[pq sb so] w fun e w'=>dc D w w'/\(if s.fuel=0 then e=NL else e = ah (ak #[])/\gO D ρ n sb so T cs tv w' s.dec):=by
 refine(aoc h.cell (by rw[Array.size_setIfInBounds];exact a.sz) zg).mono ?_;rintro e w1 ⟨he,rfl⟩;by_cases c:s.fuel=0
 .rw[zip zo] at he;rw[zip c];refine⟨?_,he⟩;exact⟨J,J,J,yH,fun b o d hm=>by
   by_cases e:b=sb
   .subst e;rw[h.cell] at d;exact absurd ⟨h.ds,_,_,_,(a1w d).symm,a.mu⟩ hm
   .rw[jb e];omega⟩
 .rw[bM zo] at he;rw[bM c];grind [gO.aJG]
end
def aJI{P:Program}{t bytes:Nat}{z:Y}(ht:P.underlying t=O (.slice e))(hi:(P.info? e).map (fun i=>(i.zero,i.size,i.bytes))=O (O z,1,bytes))(d:z.cells.size=1)(f:bytes<=1000)
 (g:w.ownsRow base e 1 v n xs) {a:Y} (j:w.heap[b]?=aO #[a] e) (r:a.oneCell'=A)
  (s:n<=900000000) (l:base<=w.heap.size) {K:Y->Z->Prop}
  (h:∀ v' w',w'.ownsRow base e 1 v' (n+1) (xs++[a])->w.grownBy w' v.ownBlock->(v'.ownBlock=v.ownBlock\/∀ k,v'.ownBlock=O k->w.heap.size<=k)->K v' w') :
  WR P (Builtin.append_ #[t,t] pb #[v,cS b 1 m]) w K X:=by
 obtain⟨i,hi,c⟩:=Option.map_eq_some_iff.1 hi;simp only[Prod.mk.injEq] at c;obtain⟨o,p,q⟩:=c;refine Sx.DC (m:=1) (t:=t) (e:=e) ht hi o p q d zo g j J (fun u hu=>?_) zo f l h;grind
def TQ(h:w.ownsRow base e 1 v n xs){t:Nat}(ht:t<n):∃ g c u,v = cS g n c/\w.heap[g]?=aO u e/\u[t]?=xs[t]?:=by
 rcases h.2 with⟨-,a⟩| ⟨g,cap,cur,rfl,b,d,f,i,j,k⟩<;>grind
theorem aJJ(h:¬ cap=0):sliced (O ⟨b,0,V⟩) 0 pb cap n = cS b pb cap:=by
 grind [sliced,Addr.add]
def aJK:(Tryz.prog.info? 87).map (fun i=>(i.zero,i.size,i.bytes))=O (O (aq V),1,8):=zk
section
variable{D:Nat->Prop}{ρ:Nat->Nat}{n sb so T:Nat}{cs:Array Y}{tv:Y}{w w':Z}{s:Sr}
def X8{z:Int}(h:so+2<=cs.size):(kr (cs.setIfInBounds so tv) so z)[so]?=O tv:=by
 grind
def sf2{z:Int}{nv:Y}:(kr (cs.setIfInBounds so tv) so z).setIfInBounds so nv=kr (cs.setIfInBounds so nv) so z:=by
 unfold kr;apply Array.ext_getElem?;grind
def NO{z:Int}:(kr (cs.setIfInBounds so tv) so z).size=cs.size:=zs
def TR(h:gO D ρ n sb so T cs tv w s)(b:vF so T cs) :
  Calls bby 214 #[pq sb so] w fun e w'=>e = ah (zi s.tr.length)/\w'=w:=by
 have d:=h.cell;have f:=b.sz;obtain⟨a,c,rfl⟩:=gV h.row;refine aJt ?_;simp (disch:=first|assumption|omega|simp only[zS]<;>omega|decide) only[zB,simprocAttr,kW,d,X8 f,NO]
def aop(h:gO D ρ n sb so T cs tv w s)(q:vF so T cs)(hD:∀ b,w.heap.size<=b->D b)(hi:i<n)(hl:P.look i s.tr=V)(M:i ∉ s.tr.map (·.1))(hv:dK ρ n w v t)(N:eA t)(hlen:s.tr.length<=900000000) :
  Calls bby 217 #[pq sb so,pp (ρ i),v] w fun e w'=>e = ah (ak #[])/\dc D w w'/\∃ Q,gO D ρ n sb so T cs Q w' (s.bind i t):=by
 have a:=h.cell;have R:=q.sz;have lb:=bg a;obtain⟨ref,hr,-⟩:=h.sv.var i hi;have lr:=bg hr;have S:ρ i≠sb:=by
  intro e;rw[<- e,hr] at a;injection a with a;injection a with _ a _;rcases q.ty with h | h<;>rw[h] at a<;>cases a
 obtain⟨u,x,rfl⟩:=hv.iface;refine aJv ?_;simp (disch:=first|assumption|omega|simp only[zS]<;>omega|decide) only[zB,simprocAttr,kW,a,hr,X8 R,NO];obtain⟨w1,y⟩:=cg ((bQ w (ρ i) (ae #[aj u x] 91)).alloc (ae #[pp (ρ i)] 87));rw[<- y];have z1:w1.heap.size=w.heap.size+1:=yH;have d:w1.ownsRow 0 87 1 tv s.tr.length (rz ρ s.tr):=by
  rw[y];exact(I2 h.row (h.X7 hr zd)).alloc _
 have W:w1.heap[w.heap.size]?=aO #[pp (ρ i)] 87:=yH;have X:w1.heap[sb]?=aO (kr (cs.setIfInBounds so tv) so s.fuel) T:=by
  exact yH
 have kK:∀ b o,b≠ρ i->w.heap[b]?=O o->w1.heap[b]?=O o:=yH;have pk:w1.heap[ρ i]?=aO #[aj u x] 91:=by
  exact yH
 have f0:dc D w (bQ w (ρ i) (ae #[aj u x] 91)):=⟨J,J,J,yH,fun b o eZ hm=>by
  by_cases e:b=ρ i
  .subst e;rw[hr] at eZ;exact absurd ⟨h.dv i hi,_,_,_,(a1w eZ).symm,.inl J⟩ hm
  exact yH⟩
 have f1:dc D w w1:=by
  exact yF
 clear y;refine aJI zk aJK J zo d W J hlen zo ?_;intro v' w2 f l j4;have m:T≠87/\T≠91:=by rcases q.ty with h | h<;>subst h<;>decide
 have k:∀ (b:Nat) (c:Array Y) (U:Nat),w1.heap[b]?=aO c U->U≠87->w2.heap[b]?=aO c U:=fun b c U eZ hU=>by
  rw[l.block b (bg eZ) (fun e=>?_)]
  .exact yH
  .rcases d.2 with⟨rfl,-⟩| ⟨I,cap,cur,rfl,-,r,-⟩
   .cases e
   grind [a2f,a1o]
 have f2:dc D w1 w2:=⟨l.os,l.tape,l.output,l.size,fun b o eZ hm=>by
  rw[l.block b (bg eZ) (fun e=>?_)]
  .exact yH
  .rcases d.2 with⟨rfl,-⟩| ⟨I,cap,cur,rfl,-,r,-⟩
   .cases e
   .simp only[a2f,a1o] at e;subst e;rw[eZ] at r;exact hm ⟨h.dr _ J,_,_,_,a1w r,.inr (.inl J)⟩⟩
 have z:=k _ _ _ X m.1;have iu:=k _ _ _ pk zd;have B:=bg z;obtain⟨p2,d2,e2⟩:=gV f;have rj:(kr (cs.setIfInBounds so tv) so (s.fuel:Int)).size=cs.size:=NO;subst e2;refine jc z @sf2 @NO ?_;have C:∀ g,(Value.slice p2 (s.tr.length+1) d2).ownBlock=O g->D g:=(by grind [gO.dr]);have eH:dc D w2 (bQ w2 sb (ae (kr (cs.setIfInBounds so (.slice p2 (s.tr.length+1) d2)) so s.fuel) T (0,0))):=⟨J,J,J,yH,fun b o eZ hm=>by
  by_cases e:b=sb
  .subst e;rw[z] at eZ;exact absurd ⟨h.ds,_,_,_,(a1w eZ).symm,q.mu⟩ hm
  exact yH⟩
 have E:dc D w (bQ w2 sb (ae (kr (cs.setIfInBounds so (.slice p2 (s.tr.length+1) d2)) so s.fuel) T (0,0))):=yF;refine⟨E,.slice p2 (s.tr.length+1) d2,?_⟩;refine⟨⟨h.sv.inj,fun j K=>?_⟩,h.dv,qz J B,?_,C,h.ds,?_,?_,N,h.ok⟩
 .by_cases F:j=i
  .subst F;refine⟨_,by rw[jb S];exact iu,?_⟩;have:P.look j (s.bind j t).tr=O t:=by simp [Sr.bind,P.look]
   rw[this];exact hv.bJ E.toT
  .obtain⟨X9,g1,g2⟩:=h.sv.var j K;have fM:ρ j≠ρ i:=fun e=>F (h.sv.inj j i K hi e);have Qb:ρ j≠sb:=by
    intro e;rw[<- e,g1] at a;injection a with a;injection a with _ a _;exact m.2 a.symm
   refine⟨X9,by rw[jb Qb];exact k _ _ _ (kK _ _ fM g1) zd,?_⟩;have:P.look j (s.bind i t).tr=P.look j s.tr:=by simp [Sr.bind,P.look,F]
   rw[this];cases L:P.look j s.tr with
   | none=>rw[L] at g2;exact g2
   | some t'=>rw[L] at g2;exact dI.bJ g2 E.toT
 .show(bQ w2 sb _).ownsRow 0 87 1 (.slice p2 (s.tr.length+1) d2) (s.tr.length+1) (rz ρ ((i,t)::s.tr));rw[aJE];refine I2 f ?_;intro e;rcases f.2 with⟨e1,-⟩| ⟨I,cap,cur,e1,-,r,-⟩
  .grind
  grind [a2f,a1o]
 .show(i::s.tr.map (·.1)).Nodup;exact List.nodup_cons.2 ⟨M,h.nd⟩
 .intro p H;rcases a1z.1 H with rfl | H
  .omega
  .exact h.lt p H
end
theorem P.Qg{i:Nat}:∀ {tr:Tr},i ∉ tr.map (·.1)->P.look i tr=V
 | [],_=>rfl
 | (j,t)::r,h=>by
  simp only[List.map_cons,a1z,not_or] at h;rw[P.look,bM h.1];exact P.Qg h.2
theorem P.aoq{i j:Nat}{t:Tm}(h:j≠i):∀ (a b:Tr),P.look j (a++(i,t)::b)=P.look j (a++b)
 | [],b=>by rw[a2d,a2d,P.look,bM h]
 | (k,u)::a,b=>by
  rw[List.cons_append,List.cons_append,P.look,P.look,P.aoq h a b]
def nC.drop:∀ (k:Nat) {tr:Tr},nC tr->nC (tr.drop k)
 | 0,_,h=>h
 | _+1,[],h=>h
 | k+1,(_,_)::_,h=>nC.drop k h.2
section
variable{D:Nat->Prop}{ρ:Nat->Nat}{n sb so T:Nat}{cs:Array Y}{tv:Y}{w w':Z}{s:Sr}
def Eg.free{a b:Tr}(h:Eg ρ n (a++(i,t)::b) w)(hi:i<n)(l:i ∉ (a++b).map (·.1)) :
  Eg ρ n (a++b) (bQ w (ρ i) (ae #[ai] 91)):=by
 obtain⟨ref,hr,-⟩:=h.var i hi;have g:=bg hr;have hk:X3 w (bQ w (ρ i) (ae #[ai] 91)):=fun b c t _ ht m=>by
  exact yH
 refine⟨h.inj,fun j d=>?_⟩;by_cases f:j=i
 .subst f;refine⟨_,qz J g,?_⟩;grind [P.Qg]
 .obtain⟨k,g1,g2⟩:=h.var j d;refine⟨k,by rw[jb (fun e=>f (h.inj j i d hi e))];omega,?_⟩;grind [P.aoq,P.look,dI.bJ]
def aer(h:gO D ρ n sb so T cs tv w s)(z:vF so T cs)(hm:m<=s.tr.length)(hlen:s.tr.length<=900000000) :
  Calls bby 208 #[pq sb so,zi m] w fun e w'=>e = ah (ak #[])/\dc D w w'/\∃ W,gO D ρ n sb so T cs W w' (s.iE m):=by
 have C:=h.cell;have K:=z.sz;have lb:=bg C;obtain⟨a,c,E⟩:=gV h.row;subst E;refine aJu ?_;simp (disch:=first|assumption|omega|simp only[zS]<;>omega|decide) only[zB,simprocAttr,kW,C,X8 K,NO];have em:(m:Int).toNat=m:=zo;rw[em];obtain⟨p,B⟩:=cg (if c=m then a else a.map (·.add (m*1)));have X:sliced a m s.tr.length c 1 = .slice p (s.tr.length-m) (c-m):=by rw[B];rfl
 rw[X];have Qh:s.tr.length<=c:=by
  rcases h.row.2 with⟨l,f⟩| ⟨g,cap,cur,l,-,-,h4,-⟩<;>grind
 have xX:∀ k,k<s.tr.length->∃ g u,a=O ⟨g,0,V⟩/\w.heap[g]?=aO u 87/\u[k]?=(rz ρ s.tr)[k]?:=fun k hk=>by
  obtain⟨g,c',u,F,e2,L⟩:=TQ h.row hk;exact yH
 refine bH ?_;refine⟨fun q x w'=>∃ j,x 13=zi (j:Nat)/\j<=s.tr.length-m/\q=s.tr.length-m-j/\dc D w w'/\Eg ρ n (s.tr.take (s.tr.length-m-j)++s.tr.drop (s.tr.length-m)) w' /\
   (∀ (b:Nat) (c:Array Y) (U:Nat),w.heap[b]?=aO c U->U≠91->w'.heap[b]?=aO c U),
  ⟨_,0,J,Nat.zero_le _,J,yF,by rw[Nat.sub_zero,a3v];exact h.sv,yH⟩,?_⟩
 intro q x d w1 hI;refine toPr ?_;obtain⟨j,hx,hj,rfl,M,r,N⟩:=hI;have H:=N _ _ _ C (by rcases z.ty with h | h<;>subst h<;>decide);by_cases hlt:j<s.tr.length-m
 .have qO:((j:Nat):Int)<((s.tr.length-m:Nat):Int):=zo;obtain⟨g,u,rfl,g1,g2⟩:=xX (m+j) zo;have Qi:p=O ⟨g,m,V⟩:=by
   rw[B,bM zo];simp [Addr.add];exact fun h=>h.symm
  subst Qi;have W6:=N _ _ _ g1 zd;obtain⟨⟨i,t⟩,hit⟩:∃ y,y=s.tr[s.tr.length-m-j-1]' zo:=⟨_,J⟩;have hi:i<n:=by
   have:=h.lt (i,t) zg;omega
  have g3:u[m+j]?=O (pp (ρ i)):=by
   rw[g2,rz,List.getElem?_map,List.getElem?_reverse zo,List.getElem?_eq_getElem zo];have:s.tr[s.tr.length-1-(m+j)]' zo=(i,t):=by
    rw[hit]
    congr 1
    omega
   rw[this];rfl
  have ej:((j:Nat):Int).toNat=j:=zo;have GL:s.tr.take (s.tr.length-m-j)=s.tr.take (s.tr.length-m-j-1)++[(i,t)]:=by
   have:s.tr.length-m-j=s.tr.length-m-j-1+1:=zo;grind [List.take_succ_eq_append_getElem,Nat.add_sub_cancel]
  rw[GL,List.append_assoc,List.singleton_append] at r;have K4:i ∉ (s.tr.take (s.tr.length-m-j-1)++s.tr.drop (s.tr.length-m)).map (·.1):=by
   have e0:s.tr=s.tr.take (s.tr.length-m-j-1)++(i,t)::s.tr.drop (s.tr.length-m-j-1+1):=by
    rw[hit,<- a1y zo,a3v]
   have P:((s.tr.take (s.tr.length-m-j-1)++(i,t)::s.tr.drop (s.tr.length-m-j-1+1)).map (·.1)).Nodup:=by rw[<- e0];exact h.nd
   rw[List.map_append,List.map_cons] at P;have l:=(List.nodup_cons.1 ((List.perm_middle.nodup_iff).1 P)).1;rw[List.map_append];intro pV;apply l;rcases List.mem_append.1 pV with f | f
   .grind
   .refine List.mem_append_right _ ?_;have L:s.tr.drop (s.tr.length-m)=(s.tr.drop (s.tr.length-m-j-1+1)).drop j:=by
     rw[List.drop_drop];congr 1;omega
    rw[L] at f;obtain⟨y,hy,rfl⟩:=List.mem_map.1 f;grind
  obtain⟨ref,Q,-⟩:=r.var i hi;have aV8:=r.free hi K4;refine dB hx @ej @W6 (zA @g3 @Q) ?_;refine⟨_,zo,j+1,zs,zo,J,?_,?_,fun b c U eZ hU=>?_⟩
  .refine M.trans ⟨J,J,J,yH,fun b o eZ hm=>?_⟩;by_cases e:b=ρ i
   .subst e;rw[Q] at eZ;exact absurd ⟨h.dv i hi,_,_,_,(a1w eZ).symm,.inl J⟩ hm
   exact yH
  .omega
  exact yH
 .have Ei:j=s.tr.length-m:=zo;subst Ei;have rj:(kr (cs.setIfInBounds so (.slice a s.tr.length c)) so (s.fuel:Int)).size=cs.size:=NO;have I:sliced a 0 m c 1 = .slice a m c:=by
   unfold sliced;cases a with
   | none=>simp
   | some x=>simp [Addr.add]
  have Ya:=bg H;simp (disch:=first|assumption|omega|simp only[zS]<;>omega|decide) only[zB,simprocAttr,kW,hx,H,X8 K,NO,I,sf2];rw[Nat.sub_self,List.take_zero,a2d] at r;have hTp:T≠87/\T≠91/\T≠180/\T≠89:=by rcases z.ty with h | h<;>subst h<;>decide
  have eG:(bQ w1 sb (ae (kr (cs.setIfInBounds so (.slice a m c)) so s.fuel) T (0,0))).ownsRow 0 87 1 (.slice a m c) m (rz ρ (s.iE m).tr):=by
   have ev:rz ρ (s.iE m).tr=(rz ρ s.tr).take m:=by
    simp only[rz,Sr.iE];rw[<- List.map_take,List.take_reverse]
   have R:w1.ownsRow 0 87 1 (.slice a m c) m ((rz ρ s.tr).take m):=by
    refine⟨by rw[List.length_take,aJF,Nat.mul_one];omega,?_⟩;rcases h.row.2 with⟨l,f⟩| ⟨g,cap,cur,l,f,h3,h4,h5,h6,h7⟩<;>grind
   rw[ev];refine I2 R ?_;intro e;rcases R.2 with⟨F,-⟩| ⟨g',cap,cur,F,-,h3,-⟩
   .rw[F] at e;cases e
   grind [a2f,a1o]
  refine⟨M.trans ⟨J,J,J,yH,fun b o eZ hm=>?_⟩,.slice a m c,⟨r.bJ fun b c' t ht eZ=>?_,h.dv,qz J Ya,?_,fun g S=>h.dr g (by cases a with
   | none=>cases S
   | some x=>exact S),h.ds,?_,?_,nC.drop _ h.ok⟩⟩
  .by_cases e:b=sb
   .subst e;rw[H] at eZ;exact absurd ⟨h.ds,_,_,_,(a1w eZ).symm,z.mu⟩ hm
   exact yH
  .exact yH
  .grind [Sr.iE]
  .have:=h.nd;show((s.tr.drop _).map _).Nodup;grind
  .intro p B;exact h.lt p (List.mem_of_mem_drop B)
end
structure CW(f:Nat):Prop where
 tm:∀ {ρ:Nat->Nat} {n:Nat} {tr:Tr} {wb sb so T:Nat} {cs:Array Y} {w:Z} {s:Ws} {t:Tm} {v:Y} {least:Nat} {r:Option Ws},ya tr wb sb so T cs->G7 ρ n tr wb sb so T cs w s->dK ρ n w v t->eA t ->
  s.cV<=900000100->s.seen.length<=s.out.length->lB tr f t least s=O r->Calls bby 31 #[pp wb,v,zi least] w (BI ρ n tr wb sb so T cs w s.cV r)
 comp:∀ {ρ:Nat->Nat} {n:Nat} {tr:Tr} {wb sb so T:Nat} {cs:Array Y} {w:Z} {s:Ws} {name:Bs} {args:List Tm} {b:Nat} {least:Nat} {r:Option Ws},ya tr wb sb so T cs->G7 ρ n tr wb sb so T cs w s ->
  dK ρ n w (aj 175 (pp b)) (.comp name args)->eA (.comp name args) ->
  s.cV<=900000100-60->s.seen.length<=s.out.length->yZ tr f name args least s=O r->Calls bby 65 #[pp wb,pp b,zi least] w (BI ρ n tr wb sb so T cs w (s.cV+30) r)
 list:∀ {ρ:Nat->Nat} {n:Nat} {tr:Tr} {wb sb so T:Nat} {cs:Array Y} {w:Z} {s:Ws} {name:Bs} {x y:Tm} {b:Nat} {r:Option Ws},ya tr wb sb so T cs->G7 ρ n tr wb sb so T cs w s ->
  dK ρ n w (aj 175 (pp b)) (.comp name [x,y])->eA (.comp name [x,y]) ->
  s.cV<=900000100-60->s.seen.length<=s.out.length->vw tr f 91 x y s=O r->Calls bby 96 #[pp wb,pp b] w (BI ρ n tr wb sb so T cs w (s.cV+30) r)
theorem BI.of{T:Nat}{r:Option Ws}{e:Ending}(h:BI ρ n tr wb pb so T cs w1 B r e w')(a:ng wb pb w w1)(c:B<=B'):BI ρ n tr wb pb so T cs w B' r e w':=by
 obtain⟨b,d⟩:=h;refine⟨a.trans b,?_⟩;exact yH
def aJM{ρ:Nat->Nat}{n:Nat}{tr:Tr}{wb:Nat}{nm:Y}{w:Z}{seen:List Nat}(a:Eg ρ n tr w)(f:NmA ρ w wb nm seen)(b:∀ i∈seen,i<n){i:Nat}(hi:i<n){K:Y->Prop}{X:Y->Z->Prop} :
  RD bby (Instr.lookup 101 nm (pp (ρ i)) A) w K X =
   match seen.idxOf? i with
   | some k=>K (ak #[.int .i64 ((k+1:Nat)),.bool A])
   | none=>K (ak #[.int .i64 0,.bool G]):=by
 have hm:Bh bby 101=O (87,3):=zk;have d:Ae bby 3=O (zi 0):=zk;have e:Ai bby 87=true:=zk;obtain⟨ref,g,-⟩:=a.var i hi;rcases f with⟨rfl,rfl⟩| ⟨r,c,es,rfl,q,h,l⟩
 .rw[axj hm (abI e) d];rfl
 .rw[axk hm e d h l (fun c v m=>?_) g]
  .rw[aem a.inj hi seen 0 0 b];cases seen.idxOf? i with
   | none=>rfl
   | some k=>simp
  .obtain⟨j,o,rfl⟩:=ael m;obtain⟨ref,p,-⟩:=a.var j (b j o);exact⟨_,_,p⟩
def ma.name{T:Nat}{s:Ws}{r:Nat}(h:ma ρ n tr wb pb so T cs (.map (O r)) w s)(hx:ya tr wb pb so T cs)(hr:wb<r)
  (m:w.heap[r]?=O (.map es c)) (y:EX (AQ ρ s.seen 0) es.toList) (hi:i<n) {e:MapEntry} (hk:e.key=pp (ρ i)) (hv:e.val=zi ((s.seen.length+1:Nat))) :
  ma ρ n tr wb pb so T cs (.map (O r)) (bQ w r (.map (es.push e) (c+1))) { s with seen:=s.seen++[i] }/\ng wb pb w (bQ w r (.map (es.push e) (c+1))):=by
 have j:ng wb pb w (bQ w r (.map (es.push e) (c+1))):=⟨J,J,J,yH,fun b o d hm=>by
  by_cases k:b=r
  .subst k;rw[m] at d;injection d with d;exact absurd (.inr (.inr ⟨hr,.inr ⟨_,_,d.symm⟩⟩)) hm
  exact yH⟩
 have p:=bg m;refine⟨⟨h.st.bJ (h.kv hx j),?_,?_,?_,h.X6 hx j,?_⟩,j⟩
 .obtain⟨q,buf,b1,b2,l⟩:=h.bu;refine⟨q,buf,b1,yH,l.1,?_⟩;rcases l.2 with l | ⟨g,cap,cur,t,u,z,x⟩
  .exact yH
  .refine .inr ⟨g,cap,cur,t,u,?_,x⟩;exact yH
 .refine .inr ⟨r,c+1,_,J,hr,qz J p,?_⟩;grind [Array.toList_push,aom,aol]
 .rw[jb]
  .exact h.fu
  .rintro rfl;have:=h.fu;grind
 .intro a f;simp only[List.mem_append,a1z,List.not_mem_nil,or_false] at f;rcases f with f | rfl
  .exact h.sn a f
  omega
def ma.names{T:Nat}{s:Ws}(h:ma ρ n tr wb pb so T cs (.map V) w s)(hx:ya tr wb pb so T cs)(d:s.seen=[])
  (e:tv = aq V\/tv=pp wb) (f:w.heap[wb]?=aO #[tv,buf,pq pb so,.map V] 103) (g:w.ownsRow (wb+1) 5 1 buf s.out.length (uJ s.out))
 (a:w'=bQ (w.alloc (.map #[] 0)) wb (ae #[tv,buf,pq pb so,.map (O w.heap.size)] 103)) :
  ma ρ n tr wb pb so T cs (.map (O w.heap.size)) w' s/\ng wb pb w w'/\wb<w.heap.size/\w'.heap[w.heap.size]?=O (.map #[] 0):=by
 subst a;have lb:=bg f;have i:=bg h.fu;have j:=hx.ne;have b:ng wb pb w (bQ (w.alloc (.map #[] 0)) wb (ae #[tv,buf,pq pb so,.map (O w.heap.size)] 103)):=((bB.refl _ _).alloc _).bQ (.inl fun _=>.inl J);have c:(bQ (w.alloc (.map #[] 0)) wb (ae #[tv,buf,pq pb so,.map (O w.heap.size)] 103)).heap[w.heap.size]?=O (.map #[] 0):=by
  exact yH
 refine⟨⟨h.st.bJ (h.kv hx b),?_,?_,?_,h.X6 hx b,h.sn⟩,b,lb,c⟩
 .exact⟨tv,buf,e,yH,(by grind [J8,World.ownsRow.alloc])⟩
 .exact .inr ⟨_,_,_,J,lb,c,by rw[d];rfl⟩
 grind [jb,MD,fu]
def aJO(ih:CW f){T:Nat}{s:Ws}{least:Nat}{r:Option Ws}(hx:ya tr wb pb so T cs)(hs:G7 ρ n tr wb pb so T cs w s)(hv:dK ρ n w v t)(dA:eA t)
  (hB:s.cV<=900000100) (AR:s.seen.length<=s.out.length) (hr:lB tr (f+1) t least s=O r):Calls bby 31 #[pp wb,v,zi least] w (BI ρ n tr wb pb so T cs w s.cV r):=by
 obtain⟨nm,h⟩:=hs;obtain⟨ad,buf,G4,hb,dS⟩:=id h.bu;have lb:=bg hb;have CN:s.cV=s.out.length+60*s.fuel:=rfl;rw[lB] at hr;refine aJo ?_;refine cJ hb ?_;refine(aoc h.fu hx.sz zg).mono ?_;rintro e w1 ⟨he,y⟩;by_cases L:s.fuel=0
 .rw[zip L] at hr;cases hr;rw[zip zo] at he;subst he;simp only[ends,PC];have o:ng wb pb w w1:=by rw[y];exact(bB.refl _ _).bQ (.inl fun _=>.inr (.inl J))
  refine⟨o,J,?_,nm,s.out,?_,zo⟩
  .rw[y,qz J (bg h.fu),L];rfl
  .rw[y];exact h.bu.other hx.ne h.fu hx.T1 _
 .rw[bM L] at hr;rw[bM zo] at he;subst he;have g:=h.fuel hx (s.fuel-1);rw[show((s.fuel-1:Nat):Int)=(s.fuel:Int)-1 by omega,<- y] at g;have o:ng wb pb w w1:=by rw[y];exact(bB.refl _ _).bQ (.inl fun _=>.inr (.inl J))
  clear y;refine bH ?_;cases hw:fF tr f t with
  | none=>rw[hw] at hr;cases hr
  | some t'=>
  rw[hw] at hr;refine(G6 g.st (hv.bJ (h.kv hx o).toT) hw).mono ?_;rintro e w2 ⟨rfl,u,rfl,hu⟩;have p:=wY hx.tok dA hw;obtain⟨ad1,aWa,M,B,xK⟩:=id g.bu;cases t' with
  | atom a=>
   unfold dI at hu;subst hu;unfold eA at p;refine bH ?_;refine(G8 g hx a zg).mono ?_;rintro e w3 ⟨⟨v3,rfl⟩,C,dU⟩;refine bH ?_;cases hr;exact⟨o.trans dU,J,_,C⟩
  | int a=>
   unfold dI at hu;subst hu;unfold eA at p;refine bH ?_;refine⟨fun _=>True,trivial,?_⟩;refine bH ?_;refine cQ (pp wb) (fun w' _=>eT) ?_;refine(aog a p.1 p.2 _ (g.ext yF).X4).mono ?_;rintro e w3 ⟨rfl,D⟩;have C:=g.ext (((bB.refl _ _).drew).trans D);refine⟨trivial,?_⟩;have hl:=aoh a p.1 p.2;refine(G8 C hx _ zg).mono ?_;rintro e w4 ⟨⟨v3,rfl⟩,E,N⟩;refine bH ?_;cases hr;exact⟨(o.trans (bB.toM (((bB.refl _ _).drew).trans D))).trans N,J,_,E⟩
  | var i=>
   unfold dI at hu;obtain⟨hi,rfl⟩:=hu;refine cJ B ?_;obtain⟨s1,dX⟩:∃ s1:Ws,s1={ s with fuel:=s.fuel-1 }:=⟨_,J⟩;have F:s1.out=s.out:=zg;have fX:s1.seen=s.seen:=zg;rw[<- dX] at g hr;have TV:∀ (k:Nat) (z:Y) (s2:Ws) (w':Z) (x:Y),x=zi (k:Int)->k<=1000000000->ma ρ n tr wb pb so T cs z w' s2->ng wb pb w2 w'->s2.out=s.out->r=O (s2.add (95::dL k)) ->
     Pr (HD fun q=>q w'.drew/\NC (pp wb) fun P=>uY bby (Instr.fieldAt 103 P 0) q (fun Q=>
      CA bby 64 #[x] w'.drew (fun TX R=>q R/\RD bby (bo .add 9 (.const (aT [95])) (.tmp 75) (aT [95]) TX) R (fun S=>
       CA bby 44 #[Q,S] R (fun x77 NS=>BI ρ n tr wb pb so T cs w s.cV r (ah (ak #[])) NS) (Mm (BI ρ n tr wb pb so T cs w s.cV r))) NX) (Mm (BI ρ n tr wb pb so T cs w s.cV r)))):=by
    intro k z s2 w' x U hk K W ho2 iu;subst U;refine⟨fun _=>True,trivial,?_⟩;refine toPr ?_;refine bH ?_;refine cQ (pp wb) (fun w' _=>eT) ?_;refine(KZ k zo zo _ (K.ext yF).X4).mono ?_;rintro e w3 ⟨rfl,D⟩;have C:=K.ext (((bB.refl _ _).drew).trans D);refine⟨trivial,?_⟩;have e1:gX (k:Int)=dL k:=by
     unfold gX;grind
    have hl:=aoh k zo zo;rw[e1] at hl ⊢;have K5:s2.out.length=s.out.length:=zg;rw[B9 _ _ zg];refine(G8 C hx _ zg).mono ?_;rintro e w4 ⟨⟨v3,rfl⟩,E,N⟩;rw[iu];exact⟨((o.trans W).trans (bB.toM (((bB.refl _ _).drew).trans D))).trans N,J,_,E⟩
   rw[aJM g.st g.na g.sn hi,fX];have hlen:s.out.length<=900000100:=zo;cases hk:s.seen.idxOf? i with
   | some k=>
    have sS:k<s.seen.length:=(List.idxOf?_eq_some_iff.1 hk).1;refine bH ?_;refine⟨fun x w'=>w'=w2/\x 9=zi ((k+1:Nat):Int),eT,?_⟩;rintro x w' ⟨rfl,X⟩ d;refine TV (k+1) nm s1 w' _ X zo g (bB.refl _ _) F ?_;grind [Xu,a1o]
   | none=>
    refine bH ?_;refine⟨fun x w'=>x 9=zi ((s.seen.length+1:Nat):Int)/\(∃ z,ma ρ n tr wb pb so T cs z w' { s1 with seen:=s1.seen++[i] })/\ng wb pb w2 w',?_,?_⟩
    .refine bH ?_;refine⟨fun _ w'=>∃ r c es,ma ρ n tr wb pb so T cs (.map (O r)) w' s1/\wb<r/\w'.heap[r]?=O (.map es c)/\EX (AQ ρ s1.seen 0) es.toList/\ng wb pb w2 w',?_,?_⟩
     .rcases id g.na with⟨g0,rfl⟩| ⟨r',c,es,rfl,g1,g2,g3⟩
      .have Ya:=bg B;refine cJ B ?_;obtain⟨m,k2,H,I⟩:=g.names hx g0 M B zg J;exact⟨_,_,_,m,H,I,by rw[g0];rfl,k2⟩
      .refine cJ B ?_;grind [bB.refl]
     .rintro _ w' ⟨r',c,es,m,k2,H,I,k5⟩ d;obtain⟨ad2,aWe,aWf,fg,sU⟩:=id m.bu;have hes:es.size=s.seen.length:=by
       have:=aok I;grind [aoj]
      have iQ:s.seen.length<=1000000000:=zo;refine cJ fg ?_;rw[aJs (k:=87) (e:=3) zk H,hes];refine cJ fg ?_;obtain⟨ref,hbi,-⟩:=m.st.var i hi;have mg:Ie (ρ i) (AQ ρ s1.seen 0) 0=none:=by
       rw[aem m.st.inj hi s1.seen 0 0 m.sn,fX,hk];rfl
      rw[axl (k:=87) (e:=3) zk zk H I (fun c v hc=>?_) hbi mg]
      .obtain⟨m1,m2⟩:=m.name hx k2 H I hi (e:={ key:=pp (ρ i),val:=zi ((s.seen.length:Int)+1),born:=c }) J zg;refine⟨?_,⟨_,m1⟩,k5.trans m2⟩;simp only[jg,if_true];grind [we]
      .obtain⟨j,E,rfl⟩:=ael hc;obtain⟨ref,h5,-⟩:=m.st.var j (m.sn j E);exact yH
    .rintro x w' ⟨X,⟨z,K⟩,W⟩ d;refine TV (s.seen.length+1) z _ w' _ X zo K W F ?_;grind [Xu,a1o,Ws.add]
  | comp name l=>
   have hu':=hu;unfold dI at hu;obtain⟨b,av,vs,rfl,-⟩:=hu;refine bH ?_;refine(ih.comp (s:={ s with fuel:=s.fuel-1 }) (least:=least) hx ⟨_,g⟩ hu' p (by grind [Ws.cV]) AR hr).mono ?_;rintro e w3 hp;have Ih:=hp.of (B':=s.cV) o (by simp only[Ws.cV];omega);cases r with
   | none=>
    obtain⟨g1,rfl,g2⟩:=Ih;refine bH ?_;exact⟨g1,J,g2⟩
   | some s'=>
    obtain⟨g1,rfl,g2⟩:=Ih;refine bH ?_;exact⟨g1,J,g2⟩
def FA{name:Bs}{args:List Tm}(h:dK ρ n w (aj 175 (pp b)) (.comp name args)) :
  ∃ a cap,w.heap[b]?=aO #[aT name,.slice a args.length cap] 180 /\
   ∀ (j:Nat) (c:j<args.length),∃ ab cs v,a=O ⟨ab,0,V⟩/\w.heap[ab]?=aO cs 89/\cs[j]?=O v/\dK ρ n w v args[j]:=by
 unfold dK dI at h;obtain⟨g,av,vs,e,-,i,f,d⟩:=h;cases e;have k:=d.length;rcases f with⟨rfl,rfl⟩| ⟨ab,cs,rfl,-,g2,g3,g4⟩
 .exact yH
 .refine⟨O ⟨ab,0,V⟩,cs.size,yH,fun j c=>?_⟩;obtain⟨v,l,m⟩:=iG.at j c d;exact yH
theorem I4:∀ {l:List Tm} {j:Nat},jt l->(a:j<l.length)->eA l[j]
 | t::ts,0,h,_=>by unfold jt at h;exact h.1
 | t::ts,j+1,h,a=>by unfold jt at h;exact I4 h.2 zg
abbrev aez(wb:Nat):Deferred:={ target:=.fn (.func 95) #[],args:=#[pp wb,.int .u8 41] }
def aJU(h:tG w wb S nm out)(a:out.length+1<=1000000000)
  (hk:∀ w',tG w' wb S nm (out++[41])->jH wb w w'->res w'):LV bby res R [aez wb] .returning w:=by
 refine B8 zk zs (Sx.CallsD.mono (an6 h 41 a) ?_);rintro e d w' ⟨rfl,⟨v,rfl⟩,b,c⟩;exact hk w' b c
def aJV(h:tG w wb S nm out)(a:out.length+1<=1000000000)
  (hk:∀ w',tG w' wb S nm (out++[41])->jH wb w w'->R NL w'):LV bby res R [aez wb] (.panicking [{ v:=aj 134 (.agg #[]),recovered:=false }]) w:=by
 refine B8 zk zs (Sx.CallsD.mono (an6 h 41 a) ?_);rintro e d w' ⟨rfl,⟨v,rfl⟩,b,c⟩;exact hk w' b c
def aos{T:Nat}(hx:ya tr wb pb so T cs)(h:BI ρ n tr wb pb so T cs w B V NL w3)(d:B+1<=B')(b:B'<=1000000000) :
  LV bby res (BI ρ n tr wb pb so T cs w B' V) [aez wb] (.panicking [{ v:=aj 134 (.agg #[]),recovered:=false }]) w3:=by
 obtain⟨g1,-,g2,nm,out,g3,g4⟩:=h;refine aJV g3 zo fun w' c a=>?_;refine⟨g1.trans (a.toW pb),J,?_,nm,_,c,zg⟩;refine a.block _ _ g2 ?_;rintro (h | ⟨_,_,_,h⟩)
 .exact hx.ne h
 .injection h with _ h _;exact hx.T1 h
def aJW(ih:∀ g,g<=f->CW g){T:Nat}{s:Ws}{name:Bs}{args:List Tm}{least:Nat}{r:Option Ws}(hx:ya tr wb pb so T cs)(hs:G7 ρ n tr wb pb so T cs w s)
  (hu:dK ρ n w (aj 175 (pp b)) (.comp name args)) (dA:eA (.comp name args))
  (hB:s.cV<=900000100-60) (E:s.seen.length<=s.out.length) (hr:yZ tr (f+1) name args least s=O r) :
  Calls bby 65 #[pp wb,pp b,zi least] w (BI ρ n tr wb pb so T cs w (s.cV+30) r):=by
 obtain⟨nm,h⟩:=hs;obtain⟨ad,buf,G4,hb,dS⟩:=id h.bu;have lb:=bg hb;have CN:s.cV=s.out.length+60*s.fuel:=rfl;obtain⟨ao,cap,F,I5⟩:=FA hu;have vB:=dA;unfold eA at vB;obtain⟨aWh,GV,R⟩:=vB;rw[yZ.eq_def] at hr;dsimp only at hr;have C:Ext w w.drew:=yF;have hd:=h.ext C;refine aJq ?_;refine cJ F ?_;refine(aod name args.length _).mono ?_;rintro e w1 ⟨rfl,rfl⟩;by_cases hp:lu name args.length=0
 .have Ih:¬ (0:Int)<((lu name args.length:Nat):Int):=zo;refine bH ?_;refine⟨fun x w'=>w'=w.drew/\x 101 = .bool (decide (name=[46]/\args.length=2)),?_,?_⟩
  .by_cases hn:name=[46]
   .refine dj F hn ?_;simp [jg];omega
   .refine dj F hn ?_;grind
  .rintro x w' ⟨rfl,aJX⟩ d;rw[aJX];by_cases hl:name=[46]/\args.length=2
   .rw[Gk _ _ hl];obtain⟨x0,p,rfl⟩:∃ x0 p,args=[x0,p]:=by
     match args,hl.2 with
     | [x0,p],_=>grind
    have fa:lu name 2=0:=hp;simp only[fa,ne_eq,not_true_eq_false,if_false,zip hl.1] at hr;refine a1r ((ih f (a1s _)).list hx ⟨_,hd⟩ (hu.bJ (ry.ed C)) dA hB E hr) ?_;rintro e w2 gH;have jY:=gH.of (B':=s.cV+30) (bB.toM (M:=MW wb pb) C) (a1s _);cases r with
    | none=>
     obtain⟨g1,rfl,g2⟩:=jY;exact⟨g1,J,g2⟩
    | some s'=>
     obtain⟨g1,rfl,g2⟩:=jY;exact⟨g1,J,g2⟩
   .rw[Gl _ _ hl];have mf:Wb (sZ tr f 40 args (s.add name)) (fun s=>O (O (s.add [41])))=O r:=by
     grind
    have Ek:Ext w w.drew.drew:=C.drew;have vi:=h.ext Ek;refine cJ F ?_;refine(G8 vi hx name zo).mono ?_;rintro e w2 ⟨⟨v2,rfl⟩,H,eW⟩;have S:ng wb pb w w2:=(bB.toM (M:=MW wb pb) Ek).trans eW;have K6:=(h.kv hx S) _ _ _ (.inl J) F;refine cJ K6 ?_;refine⟨fun m x w'=>∃ j o Ej,x 32=zi (j:Nat)/\j<=args.length/\m=args.length-j/\ma ρ n tr wb pb so T cs Ej w' o/\ng wb pb w w' /\
     (∃ g,g<=f/\Wb (sZ tr g (if j=0 then 40 else 44) (args.drop j) o) (fun s=>O (O (s.add [41])))=O r)/\o.cV<=s.cV+20/\o.seen.length<=o.out.length,
     ⟨_,0,_,nm,J,Nat.zero_le _,J,H,S,zg,by grind [Ws.pE],oU E⟩,?_⟩
    intro m x3 d3 w3 hI;refine toPr ?_;obtain⟨j,o,Ej,CX,hj,rfl,q,t,⟨g,hg,l⟩,aou,K7⟩:=hI;have aov:o.cV=o.out.length+60*o.fuel:=rfl;obtain⟨ad3,aJZ,aJ0,eL,MP⟩:=id q.bu;have NT:=hu.bJ (h.kv hx t).toT;by_cases hlt:j<args.length
    .obtain⟨ao3,U,K8,aJ1⟩:=FA NT;have aJ2:=(h.kv hx t) _ _ _ (.inl J) F;rw[aJ2] at K8;simp only[a1o,Obj.cells.injEq,and_true,Array.mk.injEq,List.cons.injEq,Value.slice.injEq,true_and] at K8;obtain⟨rfl,rfl⟩:=K8;obtain⟨ab,TZ,v3,rfl,nu,I6,El⟩:=aJ1 j hlt;rw[a1y hlt] at l;cases g with
     | zero=>simp [sZ,Wb] at l
     | succ g=>
     rw[sZ] at l;have Ei:((j:Nat):Int).toNat=j:=zo;have aJ3:(if (1:Int)<((j:Nat):Int) then(1:Int) else((j:Nat):Int))=if j=0 then 0 else 1:=by
      omega
     refine dB @aju CX nu (zA I6 aJ3) ?_;obtain⟨sep,aJ4⟩:∃ sep:UInt8,sep=if j=0 then 40 else 44:=⟨_,J⟩
     rw[<- aJ4] at l;have NU:((List.getD [(40:UInt8),44] (Int.toNat (if j=0 then 0 else 1)) 0).toNat:Int)=sep.toNat:=by
      grind
     refine a1r (NM (q.ext yF) hx sep zo NU) ?_;rintro e u ⟨⟨v4,rfl⟩,i,c⟩;have Yb:ng wb pb w u:=(t.trans (bB.drew (bB.refl _ _))).trans c;have vH:=El.bJ (q.kv hx ((bB.drew (bB.refl _ _)).trans c)).toT;have I7:eA args[j]:=I4 R hlt;have W:(o.add [sep]).cV=o.cV+1:=Ws.pE ..;cases a:lB tr g args[j] 0 (o.add [sep]) with
     | none=>simp [a,Wb] at l
     | some X=>
     refine bH ?_;refine a1r ((ih g zo).tm (least:=0) hx ⟨_,i⟩ vH I7 zo (oU K7) a) ?_;rintro e w5 I;cases X with
     | none=>
      simp only[a,Wb,a1o] at l;subst l;have B:=I.of (B':=s.cV+30) Yb zo;obtain⟨g1,rfl,g2⟩:=B;exact⟨g1,J,g2⟩
     | some K=>
      obtain⟨g1,rfl,NV,g2⟩:=I;obtain⟨l1,L⟩:=(KC hx.tok g).tm _ _ _ _ I7 zo (oU K7) a;simp only[a] at l;refine cJ CX ?_;refine⟨_,zo,j+1,K,NV,zg,zo,J,g2,Yb.trans g1,⟨g,zo,?_⟩,zo,L⟩;rw[bM zo];exact l
    .have hdj:args.drop j=[]:=zg;rw[hdj] at l;cases g with
     | zero=>simp [sZ,Wb] at l
     | succ g=>
     simp only[sZ,Wb,a1o] at l;subst l;refine cJ CX ?_;refine(NM q hx 41 zo J).mono ?_;rintro e u ⟨⟨v4,rfl⟩,i,c⟩;exact⟨t.trans c,J,_,i⟩
 .have Ih:(0:Int)<((lu name args.length:Nat):Int):=zo;obtain⟨x0,p,rfl⟩:∃ x0 p,args=[x0,p]:=by
   have H:args.length=2:=by
    by_cases H:args.length=2
    .omega
    .exact absurd (by unfold lu;grind) hp
   match args,H with
   | [x0,p],_=>grind
  have fa:lu name [x0,p].length=lu name 2:=rfl;rw[fa] at hp Ih ⊢;have gH:lu name 2<=2:=by
   grind [lu]
  obtain⟨nR,Em⟩:=Ns R;dsimp only at hr;rw[zip hp] at hr;obtain⟨op,xD⟩:∃ op:Bs,op=if name=[109,111,100] then [32,109,111,100,32] else name:=⟨_,J⟩
  have Yc:op.length<=20:=zg;rw[<- xD] at hr;have N:∀ w',ng wb pb w w'->∃ ab cap zh u0 u1,w'.heap[b]?=aO #[aT name,cS ab 2 cap] 180/\w'.heap[ab]?=aO zh 89/\zh[0]?=O u0/\zh[1]?=O u1/\dK ρ n w' u0 x0/\dK ρ n w' u1 p:=by
   intro w' hf;obtain⟨ao,cap,k1,P⟩:=FA (hu.bJ (h.kv hx hf).toT);obtain⟨ab,zh,u0,rfl,k3,k4,k5⟩:=P 0 zs;obtain⟨K9,zj,u1,e,k6,k7,k8⟩:=P 1 zs;exact yH
  by_cases j3:lu name 2<least
  .rw[zip j3] at hr;refine bH ?_;refine(NM hd hx 40 zo J).mono ?_;rintro e w2 ⟨⟨v2,rfl⟩,H,eW⟩;have S:ng wb pb w w2:=(bB.toM (M:=MW wb pb) C).trans eW;obtain⟨ab,GD,FB,u0,u1,k1,P,k3,k4,k5,k6⟩:=N w2 S;refine jc @k1 @P @k3 ?_;cases a:lB tr f x0 (lu name 2) (s.add [40]) with
   | none=>simp [a,Wb] at hr
   | some X=>
   have aWk:(s.add [40]).cV=s.cV+1:=Ws.pE ..;refine a1r ((ih f (a1s _)).tm hx ⟨_,H⟩ k5 nR zo (oU E) a) ?_;rintro e w3 I;have B:=I.of (B':=s.cV+1) S zo;cases X with
   | none=>
    simp only[a,Wb,a1o] at hr;subst hr;obtain rfl:=B.2.1;exact aos hx B zo zo
   | some k=>
    obtain⟨t,rfl,D,q⟩:=B;obtain⟨l1,L⟩:=(KC hx.tok f).tm _ _ _ _ nR zo (oU E) a;simp only[a] at hr;obtain⟨ab3,U,TZ,u03,wJ,q1,q2,q3,q4,q5,q6⟩:=N w3 t;have aJ8:k.cV=k.out.length+60*k.fuel:=rfl;refine bH ?_;refine⟨fun _ w'=>ma ρ n tr wb pb so T cs D w' (k.add op)/\ng wb pb w3 w',?_,?_⟩
    .by_cases y:name=[109,111,100]
     .refine dj @q1 y ?_;rw[xD,zip y] at Yc ⊢;refine(G8 q hx _ zo).mono ?_;rintro e u ⟨⟨v4,rfl⟩,i,c⟩;exact⟨i,c⟩
     .refine dj @q1 y ?_;rw[xD,bM y] at Yc ⊢;have T0:Ext w3 w3.drew:=yF;refine(G8 (q.ext T0) hx _ zo).mono ?_;rintro e u ⟨⟨v4,rfl⟩,i,c⟩;exact⟨i,(bB.toM T0).trans c⟩
    .rintro _ u ⟨i,c⟩ d4;have T3:=t.trans c;obtain⟨ab4,aKa,cs4,u04,wK,q1,q2,q3,q4,q5,q6⟩:=N u T3;have zl:((lu name 2:Nat):Int)+1=((lu name 2+1:Nat):Int):=zo;refine dB @q1 @q2 @q4 zl ?_;have W:(k.add op).cV=k.cV+op.length:=Ws.pE ..;cases z:lB tr f p (lu name 2+1) (k.add op) with
     | none=>simp [z,Wb] at hr
     | some r2=>
     refine a1r ((ih f (a1s _)).tm hx ⟨_,i⟩ q6 Em zo (oU L) z) ?_;rintro e w5 mW;have Q:=mW.of (B':=s.cV+1) T3 zo;cases r2 with
     | none=>
      simp only[z,Wb,a1o] at hr;subst hr;obtain rfl:=Q.2.1;exact aos hx Q zo zo
     | some K=>
      obtain⟨iP,rfl,NV,h5⟩:=Q;obtain⟨l3,l4⟩:=(KC hx.tok f).tm _ _ _ _ Em zo (oU L) z;simp only[z,Wb,a1o] at hr;subst hr;have aKc:K.cV=K.out.length+60*K.fuel:=rfl;refine aJU h5.bu zo fun w6 hb6 CY=>?_;exact⟨iP.trans (CY.toW pb),J,NV,(by grind [ma.wr])⟩
  .rw[bM j3] at hr;obtain⟨ab,GD,FB,u0,u1,k1,P,k3,k4,k5,k6⟩:=N w.drew (bB.toM C);refine jc @k1 @P @k3 ?_;cases a:lB tr f x0 (lu name 2) s with
   | none=>simp [a,Wb] at hr
   | some X=>
   refine a1r ((ih f (a1s _)).tm hx ⟨_,hd⟩ k5 nR zo E a) ?_;rintro e w3 I;have B:=I.of (B':=s.cV+1) (bB.toM (M:=MW wb pb) C) zo;cases X with
   | none=>
    simp only[a,Wb,a1o] at hr;subst hr;have mW:=B.of (B':=s.cV+30) (bB.refl _ _) zo;obtain⟨g1,rfl,g2⟩:=mW;exact⟨g1,J,g2⟩
   | some k=>
    obtain⟨t,rfl,D,q⟩:=B;obtain⟨l1,L⟩:=(KC hx.tok f).tm _ _ _ _ nR zo E a;simp only[a] at hr;obtain⟨ab3,U,TZ,u03,wJ,q1,q2,q3,q4,q5,q6⟩:=N w3 t;have aJ8:k.cV=k.out.length+60*k.fuel:=rfl;refine bH ?_;refine⟨fun _ w'=>ma ρ n tr wb pb so T cs D w' (k.add op)/\ng wb pb w3 w',?_,?_⟩
    .by_cases y:name=[109,111,100]
     .refine dj @q1 y ?_;rw[xD,zip y] at Yc ⊢;refine(G8 q hx _ zo).mono ?_;rintro e u ⟨⟨v4,rfl⟩,i,c⟩;exact⟨i,c⟩
     .refine dj @q1 y ?_;rw[xD,bM y] at Yc ⊢;have T0:Ext w3 w3.drew:=yF;refine(G8 (q.ext T0) hx _ zo).mono ?_;rintro e u ⟨⟨v4,rfl⟩,i,c⟩;exact⟨i,(bB.toM T0).trans c⟩
    .rintro _ u ⟨i,c⟩ d4;have T3:=t.trans c;obtain⟨ab4,aKa,cs4,u04,wK,q1,q2,q3,q4,q5,q6⟩:=N u T3;have zl:((lu name 2:Nat):Int)+1=((lu name 2+1:Nat):Int):=zo;refine dB @q1 @q2 @q4 zl ?_;have W:(k.add op).cV=k.cV+op.length:=Ws.pE ..;cases z:lB tr f p (lu name 2+1) (k.add op) with
     | none=>simp [z,Wb] at hr
     | some r2=>
     simp only[z,Wb,a1o] at hr;refine a1r ((ih f (a1s _)).tm hx ⟨_,i⟩ q6 Em zo (oU L) z) ?_;rintro e w5 mW;have Q:=mW.of (B':=s.cV+30) T3 zo;subst hr;cases r2 with
     | none=>
      obtain⟨g1,rfl,g2⟩:=Q;exact⟨g1,J,g2⟩
     | some K=>
      obtain⟨g1,rfl,g2⟩:=Q;exact⟨g1,J,g2⟩
section
variable{D:Nat->Prop}{ρ:Nat->Nat}{n sb so T:Nat}{cs:Array Y}
def aKd(N:vF so T cs)(hi:i<n):∀ (f:Nat) {tv v:Y} {w:Z} {s:Sr} {t:Tm} {r:Except jE (Bool×Sr)},gO D ρ n sb so T cs tv w s->dK ρ n w v t->eA t->s.fuel<=1000000000->y5 f i t s=O r ->
  Calls bby 221 #[pq sb so,pp (ρ i),v] w (EPost D w (xp D ρ n sb so T cs) r):=by
 intro f;induction f using Nat.strongRecOn with
 | _ f ih=>
 intro tv v w s t r h hv Q F hr;cases f with
 | zero=>simp [y5] at hr
 | succ f=>
 rw[y5] at hr;refine aJw ?_;refine(NN h N F).mono ?_;rintro e w1 ⟨l,c⟩;by_cases H:s.fuel=0
 .rw[zip H] at hr c;injection hr with hr;subst hr c;simp only[ends,PC];exact⟨l,J⟩
 rw[bM H] at hr c;obtain⟨rfl,c⟩:=c;have R:=hv.bJ l.toT;refine bH ?_;cases hw:fF s.tr f t with
 | none=>rw[hw] at hr;cases hr
 | some S=>
 rw[hw] at hr;refine a1r (G6 c.sv R (f:=f) (by exact hw)) ?_;rintro e w2 ⟨rfl,u,rfl,hu⟩;have U:=wY h.ok Q hw;cases S with
 | atom a=>
  unfold dI at hu;subst hu;cases hr;refine bH ?_;exact⟨l,J,_,c⟩
 | int a=>
  unfold dI at hu;subst hu;cases hr;refine bH ?_;exact⟨l,J,_,c⟩
 | var j=>
  unfold dI at hu;obtain⟨z,rfl⟩:=hu;cases hr;obtain⟨ref,g1,-⟩:=c.sv.var j z;obtain⟨X9,g2,-⟩:=c.sv.var i hi;refine bH ?_;rw[axh zk g1 g2];refine⟨l,?_,_,c⟩;simp only[Ending.returned.injEq,Value.bool.injEq,decide_eq_decide];exact⟨fun e=>c.sv.inj _ _ z hi e,zg⟩
 | comp name args=>
  obtain⟨b,av,vs,rfl,-,-⟩:=by unfold dI at hu;exact hu
  obtain⟨ao,cap,W,X⟩:=FA hu;unfold eA at U;refine cJ W ?_;refine⟨fun m x w'=>∃ j o I,x 29=zi (j:Nat)/\j<=args.length/\m=args.length-j/\gO D ρ n sb so T cs I w' o/\dc D w2 w'/\o.fuel<=1000000000/\(∃ g,g<=f/\AF g i (args.drop j) o=O r),
   ⟨_,0,_,_,J,Nat.zero_le _,J,c,yF,Nat.le_trans (Nat.sub_le _ _) F,f,a1s _,hr⟩,?_⟩
  intro m x d w3 hI;refine toPr ?_;obtain⟨j,o,I,hx,z,rfl,K,L,E3,g,hg,k⟩:=hI;cases g with
  | zero=>simp [AF] at k
  | succ g=>
  by_cases hlt:j<args.length
  .rw[a1y hlt,AF] at k;obtain⟨ab,TZ,v3,rfl,nu,I6,El⟩:=X j hlt;have B:=L.bJ (by unfold lI;decide) nu;have C:=El.bJ L.toT;have ej:((j:Nat):Int).toNat=j:=zo;refine dB hx @ej B I6 ?_;cases q:y5 g i args[j] o with
   | none=>rw[q] at k;cases k
   | some r1=>
   refine a1r (ih g zo K C (by grind [I4]) E3 q) ?_;rintro e w4 ⟨gW,y⟩;rw[q] at k;cases r1 with
   | error t=>
    cases k;have y:e=gP t:=y;subst y;cases t<;>exact⟨yF,J⟩
   | ok p=>
    obtain⟨b1,s4⟩:=p;obtain⟨rfl,E,M⟩:=y;simp only[P.Out.eh] at k;have hfu:=((IP g).tm q).2;cases b1 with
    | true=>
     cases k;refine bH ?_;exact⟨yF,J,_,M⟩
    | false=>
     refine cJ hx ?_;refine⟨_,zo,j+1,s4,E,zs,zo,J,M,yF,?_,g,zo,zg⟩;grind
  .have Ei:j=args.length:=zo;subst Ei;rw[List.drop_length,AF] at k;cases k;refine cJ hx ?_;exact⟨yF,J,_,K⟩
def aKh(g:vF so T cs)(hi:i<n){s:Sr}{r:Except jE (Bool×Sr)}(h:gO D ρ n sb so T cs tv w s)(hD:∀ b,w.heap.size<=b->D b)(hv:dK ρ n w v t)(j:eA t)(m:s.fuel<=1000000000)
  (x:i ∉ s.tr.map (·.1)) (y:s.tr.length<=900000000) (hr:tX f i t s=O r) :
  Calls bby 216 #[pq sb so,pp (ρ i),v] w (EPost D w (xp D ρ n sb so T cs) r):=by
 refine aJx ?_;unfold tX at hr;cases a:y5 f i t s with
 | none=>rw[a] at hr;cases hr
 | some o=>
 rw[a] at hr;refine a1r (aKd g hi f h hv j m a) ?_;rintro e w1 ⟨c,d⟩;cases o with
 | error t=>
  cases hr;have d:e=gP t:=d;subst d;cases t<;>exact⟨c,J⟩
 | ok p=>
  obtain⟨b1,s1⟩:=p;obtain⟨rfl,z,k⟩:=d;have l:=((IP f).tm a).1;have l:s1.tr=s.tr:=l;simp only[P.Out.eh] at hr;cases b1 with
  | true=>
   cases hr;refine bH ?_;exact⟨c,J,_,k⟩
  | false=>
   cases hr;refine bH ?_;refine a1r (aop k g (fun b q=>hD b (Nat.le_trans c.size q)) hi (by grind [P.Qg]) zg (hv.bJ c.toT) j zg) ?_;rintro e w2 ⟨rfl,B,C,u⟩;refine bH ?_;exact⟨yF,J,_,u⟩
end
