/- A part of one proof (KS2, KS3, PW5, PW6, KS4, KS5). -/
import Derived.Test.YtoegidfbnkaabaaGreatDoorPkKAQ
set_option linter.all false
set_option maxRecDepth 100000
set_option maxHeartbeats 8000000
open Option renaming some → O, none → V
open Go renaming Value → Y, World → Z
open Bool renaming true → A, false → ae
open Go.Obj renaming cells → ah
open Go.Ending renaming returned → ai
open Go.Value renaming nilIface → aj, iface → ak, tuple → aq, pointer → au
open Option.some renaming injEq → a0z, inj → a0G
open Go.Calls renaming mono → a0C
open Nat renaming le_refl → a0D, le_trans → a0E, zero_le → a0R
open List renaming drop_eq_getElem_cons → a0I, mem_cons → a0N, drop_length → a1s, nil_append → a1G, take_append_drop → a2z
open Go.Value renaming ownBlock → a1k
open Go.Proofs.Tryz renaming prog → bax
namespace Go.Proofs.YtoegidfbnkaabaaGreatDoor
open P
open Go.RowKit Sx
variable{B B' b c f i m n pb so:Nat}{K:Y->Prop}{R:Ending->Z->Prop}{S buf nm tv u v:Y}{X:Y->Z->Prop}{cs:Array Y}{es:Array MapEntry}{out:Bs}{res:Z->Prop}{t:Tm}{tr:Tr}{w w' w1 w3:Z}{y:Operand}{ρ:Nat->Nat}
def Tryz.aJO:(Tryz.prog.info? 87).map (fun i=>(i.zero,i.size,i.bytes))=O (O (au V),1,8):=zk
section
variable{D:Nat->Prop}{ρ:Nat->Nat}{n sb so T:Nat}{cs:Array Y}{tv:Y}{w w':Z}{s:Sr}
def XJ{z:Int}(h:so+2<=cs.size):(ky (cs.setIfInBounds so tv) so z)[so]?=O tv:=by
 grind
def sf2{z:Int}{nv:Y}:(ky (cs.setIfInBounds so tv) so z).setIfInBounds so nv=ky (cs.setIfInBounds so nv) so z:=by
 unfold ky;apply Array.ext_getElem?;grind
def Np{z:Int}:(ky (cs.setIfInBounds so tv) so z).size=cs.size:=zs
def Tn(h:gV D ρ n sb so T cs tv w s)(b:vH so T cs) :
  Calls bax 214 #[pq sb so] w fun e w'=>e = ai (zi s.tr.length)/\w'=w:=by
 have d:=h.cell;have f:=b.sz;obtain⟨a,c,rfl⟩:=ij h.row;refine aJx ?_;simp (disch:=first|assumption|omega|simp only[zS]<;>omega|decide) only[zB,simprocAttr,lp,d,XJ f,Np]
def aog(h:gV D ρ n sb so T cs tv w s)(q:vH so T cs)(hD:∀ b,w.heap.size<=b->D b)(y:i<n)(hl:P.look i s.tr=V)(M:i ∉ s.tr.map (·.1))(hv:dN ρ n w v t)(N:er t)(hlen:s.tr.length<=900000000) :
  Calls bax 217 #[pq sb so,pp (ρ i),v] w fun e w'=>e = ai (aq #[])/\di D w w'/\∃ Q,gV D ρ n sb so T cs Q w' (s.bind i t):=by
 have a:=h.cell;have R:=q.sz;have lb:=bn a;obtain⟨ref,hr,-⟩:=h.sv.var i y;have lr:=bn hr;have S:ρ i≠sb:=by
  intro e;rw[<- e,hr] at a;injection a with a;injection a with _ a _;rcases q.ty with h | h<;>rw[h] at a<;>cases a
 obtain⟨u,x,rfl⟩:=hv.iface;refine aJz ?_;simp (disch:=first|assumption|omega|simp only[zS]<;>omega|decide) only[zB,simprocAttr,lp,a,hr,XJ R,Np];obtain⟨w1,z⟩:=ck ((bT w (ρ i) (ah #[ak u x] 91)).alloc (ah #[pp (ρ i)] 87));rw[<- z];have z1:w1.heap.size=w.heap.size+1:=yH;have d:w1.ownsRow 0 87 1 tv s.tr.length (rp ρ s.tr):=by
  rw[z];exact(IK h.row (h.XI hr zd)).alloc _
 have W:w1.heap[w.heap.size]?=aP #[pp (ρ i)] 87:=yH;have X:w1.heap[sb]?=aP (ky (cs.setIfInBounds so tv) so s.fuel) T:=by
  exact yH
 have kJ:∀ b o,b≠ρ i->w.heap[b]?=O o->w1.heap[b]?=O o:=yH;have qn:w1.heap[ρ i]?=aP #[ak u x] 91:=by
  exact yH
 have f0:di D w (bT w (ρ i) (ah #[ak u x] 91)):=⟨J,J,J,yH,fun b o eW hm=>by
  by_cases e:b=ρ i
  .subst e;rw[hr] at eW;exact absurd ⟨h.dv i y,_,_,_,(a0G eW).symm,.inl J⟩ hm
  exact yH⟩
 have f1:di D w w1:=by
  exact yF
 clear z;refine aJM zk Tryz.aJO J zo d W J hlen zo ?_;intro v' w2 f l j6;have m:T≠87/\T≠91:=by rcases q.ty with h | h<;>subst h<;>decide
 have k:∀ (b:Nat) (c:Array Y) (U:Nat),w1.heap[b]?=aP c U->U≠87->w2.heap[b]?=aP c U:=fun b c U eW hU=>by
  rw[l.block b (bn eW) (fun e=>?_)]
  .exact yH
  .rcases d.2 with⟨rfl,-⟩| ⟨I,cap,cur,rfl,-,r,-⟩
   .cases e
   grind [a1k,a0z]
 have f2:di D w1 w2:=⟨l.os,l.tape,l.output,l.size,fun b o eW hm=>by
  rw[l.block b (bn eW) (fun e=>?_)]
  .exact yH
  .rcases d.2 with⟨rfl,-⟩| ⟨I,cap,cur,rfl,-,r,-⟩
   .cases e
   .simp only[a1k,a0z] at e;subst e;rw[eW] at r;exact hm ⟨h.dr _ J,_,_,_,a0G r,.inr (.inl J)⟩⟩
 have B:=k _ _ _ X m.1;have iG:=k _ _ _ qn zd;have C:=bn B;obtain⟨p2,d2,e2⟩:=ij f;have qV:(ky (cs.setIfInBounds so tv) so (s.fuel:Int)).size=cs.size:=Np;subst e2;refine jt B @sf2 @Np ?_;have E:∀ g,(Value.slice p2 (s.tr.length+1) d2).ownBlock=O g->D g:=(by grind [gV.dr]);have eK:di D w2 (bT w2 sb (ah (ky (cs.setIfInBounds so (.slice p2 (s.tr.length+1) d2)) so s.fuel) T (0,0))):=⟨J,J,J,yH,fun b o eW hm=>by
  by_cases e:b=sb
  .subst e;rw[B] at eW;exact absurd ⟨h.ds,_,_,_,(a0G eW).symm,q.mu⟩ hm
  exact yH⟩
 have F:di D w (bT w2 sb (ah (ky (cs.setIfInBounds so (.slice p2 (s.tr.length+1) d2)) so s.fuel) T (0,0))):=yF;refine⟨F,.slice p2 (s.tr.length+1) d2,?_⟩;refine⟨⟨h.sv.inj,fun j K=>?_⟩,h.dv,qo J C,?_,E,h.ds,?_,?_,N,h.ok⟩
 .by_cases G:j=i
  .subst G;refine⟨_,by rw[jh S];exact iG,?_⟩;have:P.look j (s.bind j t).tr=O t:=by simp [Sr.bind,P.look]
   rw[this];exact hv.bJ F.toT
  .obtain⟨XK,g1,g2⟩:=h.sv.var j K;have fE:ρ j≠ρ i:=fun e=>G (h.sv.inj j i K y e);have PM:ρ j≠sb:=by
    intro e;rw[<- e,g1] at a;injection a with a;injection a with _ a _;exact m.2 a.symm
   refine⟨XK,by rw[jh PM];exact k _ _ _ (kJ _ _ fE g1) zd,?_⟩;have:P.look j (s.bind i t).tr=P.look j s.tr:=by simp [Sr.bind,P.look,G]
   rw[this];cases L:P.look j s.tr with
   | none=>rw[L] at g2;exact g2
   | some t'=>rw[L] at g2;exact dK.bJ g2 F.toT
 .show(bT w2 sb _).ownsRow 0 87 1 (.slice p2 (s.tr.length+1) d2) (s.tr.length+1) (rp ρ ((i,t)::s.tr));rw[aJI];refine IK f ?_;intro e;rcases f.2 with⟨e1,-⟩| ⟨I,cap,cur,e1,-,r,-⟩
  .grind
  grind [a1k,a0z]
 .show(i::s.tr.map (·.1)).Nodup;exact List.nodup_cons.2 ⟨M,h.nd⟩
 .intro p H;rcases a0N.1 H with rfl | H
  .omega
  .exact h.lt p H
end
theorem P.PS{i:Nat}:∀ {tr:Tr},i ∉ tr.map (·.1)->P.look i tr=V
 | [],_=>rfl
 | (j,t)::r,h=>by
  simp only[List.map_cons,a0N,not_or] at h;rw[P.look,bO h.1];exact P.PS h.2
theorem P.aoh{i j:Nat}{t:Tm}(h:j≠i):∀ (a b:Tr),P.look j (a++(i,t)::b)=P.look j (a++b)
 | [],b=>by rw[a1G,a1G,P.look,bO h]
 | (k,u)::a,b=>by
  rw[List.cons_append,List.cons_append,P.look,P.look,P.aoh h a b]
def mh.drop:∀ (k:Nat) {tr:Tr},mh tr->mh (tr.drop k)
 | 0,_,h=>h
 | _+1,[],h=>h
 | k+1,(_,_)::_,h=>mh.drop k h.2
section
variable{D:Nat->Prop}{ρ:Nat->Nat}{n sb so T:Nat}{cs:Array Y}{tv:Y}{w w':Z}{s:Sr}
def D9.free{a b:Tr}(h:D9 ρ n (a++(i,t)::b) w)(d:i<n)(m:i ∉ (a++b).map (·.1)) :
  D9 ρ n (a++b) (bT w (ρ i) (ah #[aj] 91)):=by
 obtain⟨ref,hr,-⟩:=h.var i d;have k:=bn hr;have hk:XE w (bT w (ρ i) (ah #[aj] 91)):=fun b c t _ ht o=>by
  exact yH
 refine⟨h.inj,fun j f=>?_⟩;by_cases g:j=i
 .subst g;refine⟨_,qo J k,?_⟩;grind [P.PS]
 .obtain⟨l,g1,g2⟩:=h.var j f;refine⟨l,by rw[jh (fun e=>g (h.inj j i f d e))];omega,?_⟩;grind [P.aoh,P.look,dK.bJ]
def aee(h:gV D ρ n sb so T cs tv w s)(z:vH so T cs)(hm:m<=s.tr.length)(hlen:s.tr.length<=900000000) :
  Calls bax 208 #[pq sb so,zi m] w fun e w'=>e = ai (aq #[])/\di D w w'/\∃ S,gV D ρ n sb so T cs S w' (s.gO m):=by
 have C:=h.cell;have I:=z.sz;have lb:=bn C;obtain⟨a,c,E⟩:=ij h.row;subst E;refine aJy ?_;simp (disch:=first|assumption|omega|simp only[zS]<;>omega|decide) only[zB,simprocAttr,lp,C,XJ I,Np];have em:(m:Int).toNat=m:=zo;rw[em];obtain⟨p,B⟩:=ck (if c=m then a else a.map (·.add (m*1)));have W:sliced a m s.tr.length c 1 = .slice p (s.tr.length-m) (c-m):=by rw[B];rfl
 rw[W];have PT:s.tr.length<=c:=by
  rcases h.row.2 with⟨l,f⟩| ⟨g,cap,cur,l,-,-,X,-⟩<;>grind
 have xW:∀ k,k<s.tr.length->∃ g u,a=O ⟨g,0,V⟩/\w.heap[g]?=aP u 87/\u[k]?=(rp ρ s.tr)[k]?:=fun k hk=>by
  obtain⟨g,c',u,F,e2,K⟩:=Tl h.row hk;exact yH
 refine bF ?_;refine⟨fun q x w'=>∃ j,x 13=zi (j:Nat)/\j<=s.tr.length-m/\q=s.tr.length-m-j/\di D w w'/\D9 ρ n (s.tr.take (s.tr.length-m-j)++s.tr.drop (s.tr.length-m)) w' /\
   (∀ (b:Nat) (c:Array Y) (U:Nat),w.heap[b]?=aP c U->U≠91->w'.heap[b]?=aP c U),
  ⟨_,0,J,a0R _,J,yF,by rw[Nat.sub_zero,a2z];exact h.sv,yH⟩,?_⟩
 intro q x d w1 hI;refine toPr ?_;obtain⟨j,hx,hj,rfl,L,r,M⟩:=hI;have G:=M _ _ _ C (by rcases z.ty with h | h<;>subst h<;>decide);by_cases hlt:j<s.tr.length-m
 .have qG:((j:Nat):Int)<((s.tr.length-m:Nat):Int):=zo;obtain⟨g,u,rfl,g1,g2⟩:=xW (m+j) zo;have PU:p=O ⟨g,m,V⟩:=by
   rw[B,bO zo];simp [Addr.add];exact fun h=>h.symm
  subst PU;have Wq:=M _ _ _ g1 zd;obtain⟨⟨i,t⟩,hit⟩:∃ y,y=s.tr[s.tr.length-m-j-1]' zo:=⟨_,J⟩;have H:i<n:=by
   have:=h.lt (i,t) zg;omega
  have g3:u[m+j]?=O (pp (ρ i)):=by
   rw[g2,rp,List.getElem?_map,List.getElem?_reverse zo,List.getElem?_eq_getElem zo];have:s.tr[s.tr.length-1-(m+j)]' zo=(i,t):=by
    rw[hit]
    congr 1
    omega
   rw[this];rfl
  have ej:((j:Nat):Int).toNat=j:=zo;have Gu:s.tr.take (s.tr.length-m-j)=s.tr.take (s.tr.length-m-j-1)++[(i,t)]:=by
   have:s.tr.length-m-j=s.tr.length-m-j-1+1:=zo;grind [List.take_succ_eq_append_getElem,Nat.add_sub_cancel]
  rw[Gu,List.append_assoc,List.singleton_append] at r;have KI:i ∉ (s.tr.take (s.tr.length-m-j-1)++s.tr.drop (s.tr.length-m)).map (·.1):=by
   have e0:s.tr=s.tr.take (s.tr.length-m-j-1)++(i,t)::s.tr.drop (s.tr.length-m-j-1+1):=by
    rw[hit,<- a0I zo,a2z]
   have N:((s.tr.take (s.tr.length-m-j-1)++(i,t)::s.tr.drop (s.tr.length-m-j-1+1)).map (·.1)).Nodup:=by rw[<- e0];exact h.nd
   rw[List.map_append,List.map_cons] at N;have l:=(List.nodup_cons.1 ((List.perm_middle.nodup_iff).1 N)).1;rw[List.map_append];intro pL;apply l;rcases List.mem_append.1 pL with f | f
   .grind
   .refine List.mem_append_right _ ?_;have K:s.tr.drop (s.tr.length-m)=(s.tr.drop (s.tr.length-m-j-1+1)).drop j:=by
     rw[List.drop_drop];congr 1;omega
    rw[K] at f;obtain⟨y,hy,rfl⟩:=List.mem_map.1 f;grind
  obtain⟨ref,P,-⟩:=r.var i H;have aVF:=r.free H KI;refine dL hx @ej @Wq (zA @g3 @P) ?_;refine⟨_,zo,j+1,zs,zo,J,?_,?_,fun b c U eW hU=>?_⟩
  .refine L.trans ⟨J,J,J,yH,fun b o eW hm=>?_⟩;by_cases e:b=ρ i
   .subst e;rw[P] at eW;exact absurd ⟨h.dv i H,_,_,_,(a0G eW).symm,.inl J⟩ hm
   exact yH
  .omega
  exact yH
 .have Eb:j=s.tr.length-m:=zo;subst Eb;have qV:(ky (cs.setIfInBounds so (.slice a s.tr.length c)) so (s.fuel:Int)).size=cs.size:=Np;have Tp:sliced a 0 m c 1 = .slice a m c:=by
   unfold sliced;cases a with
   | none=>simp
   | some x=>simp [Addr.add]
  have XL:=bn G;simp (disch:=first|assumption|omega|simp only[zS]<;>omega|decide) only[zB,simprocAttr,lp,hx,G,XJ I,Np,Tp,sf2];rw[Nat.sub_self,List.take_zero,a1G] at r;have hTp:T≠87/\T≠91/\T≠180/\T≠89:=by rcases z.ty with h | h<;>subst h<;>decide
  have eU:(bT w1 sb (ah (ky (cs.setIfInBounds so (.slice a m c)) so s.fuel) T (0,0))).ownsRow 0 87 1 (.slice a m c) m (rp ρ (s.gO m).tr):=by
   have ev:rp ρ (s.gO m).tr=(rp ρ s.tr).take m:=by
    simp only[rp,Sr.gO];rw[<- List.map_take,List.take_reverse]
   have Q:w1.ownsRow 0 87 1 (.slice a m c) m ((rp ρ s.tr).take m):=by
    refine⟨by rw[List.length_take,aJJ,Nat.mul_one];omega,?_⟩;rcases h.row.2 with⟨l,f⟩| ⟨g,cap,cur,l,f,h3,X,h5,h6,h7⟩<;>grind
   rw[ev];refine IK Q ?_;intro e;rcases Q.2 with⟨F,-⟩| ⟨g',cap,cur,F,-,h3,-⟩
   .rw[F] at e;cases e
   grind [a1k,a0z]
  refine⟨L.trans ⟨J,J,J,yH,fun b o eW hm=>?_⟩,.slice a m c,⟨r.bJ fun b c' t ht eW=>?_,h.dv,qo J XL,?_,fun g R=>h.dr g (by cases a with
   | none=>cases R
   | some x=>exact R),h.ds,?_,?_,mh.drop _ h.ok⟩⟩
  .by_cases e:b=sb
   .subst e;rw[G] at eW;exact absurd ⟨h.ds,_,_,_,(a0G eW).symm,z.mu⟩ hm
   exact yH
  .exact yH
  .grind [Sr.gO]
  .have:=h.nd;show((s.tr.drop _).map _).Nodup;grind
  .intro p B;exact h.lt p (List.mem_of_mem_drop B)
end
structure CW(f:Nat):Prop where
 tm:∀ {ρ:Nat->Nat} {n:Nat} {tr:Tr} {wb sb so T:Nat} {cs:Array Y} {w:Z} {s:Ws} {t:Tm} {v:Y} {least:Nat} {r:Option Ws},x7 tr wb sb so T cs->GW ρ n tr wb sb so T cs w s->dN ρ n w v t->er t ->
  s.cW<=900000100->s.seen.length<=s.out.length->il tr f t least s=O r->Calls bax 31 #[pp wb,v,zi least] w (Br ρ n tr wb sb so T cs w s.cW r)
 comp:∀ {ρ:Nat->Nat} {n:Nat} {tr:Tr} {wb sb so T:Nat} {cs:Array Y} {w:Z} {s:Ws} {name:Bs} {args:List Tm} {b:Nat} {least:Nat} {r:Option Ws},x7 tr wb sb so T cs->GW ρ n tr wb sb so T cs w s ->
  dN ρ n w (ak 175 (pp b)) (.comp name args)->er (.comp name args) ->
  s.cW<=900000100-60->s.seen.length<=s.out.length->nM tr f name args least s=O r->Calls bax 65 #[pp wb,pp b,zi least] w (Br ρ n tr wb sb so T cs w (s.cW+30) r)
 list:∀ {ρ:Nat->Nat} {n:Nat} {tr:Tr} {wb sb so T:Nat} {cs:Array Y} {w:Z} {s:Ws} {name:Bs} {x y:Tm} {b:Nat} {r:Option Ws},x7 tr wb sb so T cs->GW ρ n tr wb sb so T cs w s ->
  dN ρ n w (ak 175 (pp b)) (.comp name [x,y])->er (.comp name [x,y]) ->
  s.cW<=900000100-60->s.seen.length<=s.out.length->mg tr f 91 x y s=O r->Calls bax 96 #[pp wb,pp b] w (Br ρ n tr wb sb so T cs w (s.cW+30) r)
theorem Br.of{wb T:Nat}{r:Option Ws}{e:Ending}(h:Br ρ n tr wb pb so T cs w1 B r e w')(a:mW wb pb w w1)(c:B<=B'):Br ρ n tr wb pb so T cs w B' r e w':=by
 obtain⟨b,d⟩:=h;refine⟨a.trans b,?_⟩;exact yH
def aJQ{ρ:Nat->Nat}{n:Nat}{tr:Tr}{wb:Nat}{nm:Y}{w:Z}{seen:List Nat}(a:D9 ρ n tr w)(g:NmA ρ w wb nm seen)(b:∀ i∈seen,i<n){i:Nat}(d:i<n){K:Y->Prop}{X:Y->Z->Prop} :
  RD bax (Instr.lookup 101 nm (pp (ρ i)) A) w K X =
   match seen.idxOf? i with
   | some k=>K (aq #[.int .i64 ((k+1:Nat)),.bool A])
   | none=>K (aq #[.int .i64 0,.bool ae]):=by
 have hm:AS bax 101=O (87,3):=zk;have e:zK bax 3=O (zi 0):=zk;have f:zQ bax 87=true:=zk;obtain⟨ref,h,-⟩:=a.var i d;rcases g with⟨rfl,rfl⟩| ⟨r,c,es,rfl,s,l,m⟩
 .rw[axb hm (abh f) e];rfl
 .rw[axc hm f e l m (fun c v o=>?_) h]
  .rw[ad9 a.inj d seen 0 0 b];cases seen.idxOf? i with
   | none=>rfl
   | some k=>simp
  .obtain⟨j,p,rfl⟩:=ad7 o;obtain⟨ref,q,-⟩:=a.var j (b j p);exact⟨_,_,q⟩
def lQ.name{wb T:Nat}{s:Ws}{r:Nat}(h:lQ ρ n tr wb pb so T cs (.map (O r)) w s)(hx:x7 tr wb pb so T cs)(hr:wb<r)
  (m:w.heap[r]?=O (.map es c)) (y:EK (Az ρ s.seen 0) es.toList) (z:i<n) {e:MapEntry} (hk:e.key=pp (ρ i)) (hv:e.val=zi ((s.seen.length+1:Nat))) :
  lQ ρ n tr wb pb so T cs (.map (O r)) (bT w r (.map (es.push e) (c+1))) { s with seen:=s.seen++[i] }/\mW wb pb w (bT w r (.map (es.push e) (c+1))):=by
 have j:mW wb pb w (bT w r (.map (es.push e) (c+1))):=⟨J,J,J,yH,fun b o d hm=>by
  by_cases k:b=r
  .subst k;rw[m] at d;injection d with d;exact absurd (.inr (.inr ⟨hr,.inr ⟨_,_,d.symm⟩⟩)) hm
  exact yH⟩
 have p:=bn m;refine⟨⟨h.st.bJ (h.kv hx j),?_,?_,?_,h.XH hx j,?_⟩,j⟩
 .obtain⟨q,buf,b1,b2,l⟩:=h.bu;refine⟨q,buf,b1,yH,l.1,?_⟩;rcases l.2 with l | ⟨g,cap,cur,t,u,B,x⟩
  .exact yH
  .refine .inr ⟨g,cap,cur,t,u,?_,x⟩;exact yH
 .refine .inr ⟨r,c+1,_,J,hr,qo J p,?_⟩;grind [Array.toList_push,aoe,aod]
 .rw[jh]
  .exact h.fu
  .rintro rfl;have:=h.fu;grind
 .intro a f;simp only[List.mem_append,a0N,List.not_mem_nil,or_false] at f;rcases f with f | rfl
  .exact h.sn a f
  omega
def lQ.names{wb T:Nat}{s:Ws}(h:lQ ρ n tr wb pb so T cs (.map V) w s)(hx:x7 tr wb pb so T cs)(d:s.seen=[])
  (e:tv = au V\/tv=pp wb) (f:w.heap[wb]?=aP #[tv,buf,pq pb so,.map V] 103) (g:w.ownsRow (wb+1) 5 1 buf s.out.length (uF s.out))
 (a:w'=bT (w.alloc (.map #[] 0)) wb (ah #[tv,buf,pq pb so,.map (O w.heap.size)] 103)) :
  lQ ρ n tr wb pb so T cs (.map (O w.heap.size)) w' s/\mW wb pb w w'/\wb<w.heap.size/\w'.heap[w.heap.size]?=O (.map #[] 0):=by
 subst a;have lb:=bn f;have i:=bn h.fu;have j:=hx.ne;have b:mW wb pb w (bT (w.alloc (.map #[] 0)) wb (ah #[tv,buf,pq pb so,.map (O w.heap.size)] 103)):=((bD.refl _ _).alloc _).bT (.inl fun _=>.inl J);have c:(bT (w.alloc (.map #[] 0)) wb (ah #[tv,buf,pq pb so,.map (O w.heap.size)] 103)).heap[w.heap.size]?=O (.map #[] 0):=by
  exact yH
 refine⟨⟨h.st.bJ (h.kv hx b),?_,?_,?_,h.XH hx b,h.sn⟩,b,lb,c⟩
 .exact⟨tv,buf,e,yH,(by grind [JQ,World.ownsRow.alloc])⟩
 .exact .inr ⟨_,_,_,J,lb,c,by rw[d];rfl⟩
 grind [jh,Mi,fu]
def aJS(ih:CW f){wb T:Nat}{s:Ws}{least:Nat}{r:Option Ws}(hx:x7 tr wb pb so T cs)(hs:GW ρ n tr wb pb so T cs w s)(hv:dN ρ n w v t)(dj:er t)
  (hB:s.cW<=900000100) (vy:s.seen.length<=s.out.length) (hr:il tr (f+1) t least s=O r):Calls bax 31 #[pp wb,v,zi least] w (Br ρ n tr wb pb so T cs w s.cW r):=by
 obtain⟨nm,h⟩:=hs;obtain⟨ad,buf,GS,hb,dU⟩:=id h.bu;have lb:=bn hb;have Ct:s.cW=s.out.length+60*s.fuel:=rfl;rw[il] at hr;refine aJs ?_;refine cM hb ?_;refine(an4 h.fu hx.sz zg).mono ?_;rintro e w1 ⟨he,y⟩;by_cases L:s.fuel=0
 .rw[zip L] at hr;cases hr;rw[zip zo] at he;subst he;simp only[ends,PC];have o:mW wb pb w w1:=by rw[y];exact(bD.refl _ _).bT (.inl fun _=>.inr (.inl J))
  refine⟨o,J,?_,nm,s.out,?_,zo⟩
  .rw[y,qo J (bn h.fu),L];rfl
  .rw[y];exact h.bu.other hx.ne h.fu hx.T1 _
 .rw[bO L] at hr;rw[bO zo] at he;subst he;have g:=h.fuel hx (s.fuel-1);rw[show((s.fuel-1:Nat):Int)=(s.fuel:Int)-1 by omega,<- y] at g;have o:mW wb pb w w1:=by rw[y];exact(bD.refl _ _).bT (.inl fun _=>.inr (.inl J))
  clear y;refine bF ?_;cases hw:dR tr f t with
  | none=>rw[hw] at hr;cases hr
  | some t'=>
  rw[hw] at hr;refine(GV g.st (hv.bJ (h.kv hx o).toT) hw).mono ?_;rintro e w2 ⟨rfl,u,rfl,hu⟩;have p:=vq hx.tok dj hw;obtain⟨ad1,aVH,M,B,xK⟩:=id g.bu;cases t' with
  | atom a=>
   unfold dK at hu;subst hu;unfold er at p;refine bF ?_;refine(GX g hx a zg).mono ?_;rintro e w3 ⟨⟨v3,rfl⟩,C,dV⟩;refine bF ?_;cases hr;exact⟨o.trans dV,J,_,C⟩
  | int a=>
   unfold dK at hu;subst hu;unfold er at p;refine bF ?_;refine⟨fun _=>True,trivial,?_⟩;refine bF ?_;refine cR (pp wb) (fun w' _=>eS) ?_;refine(an8 a p.1 p.2 _ (g.ext yF).XF).mono ?_;rintro e w3 ⟨rfl,D⟩;have C:=g.ext (((bD.refl _ _).drew).trans D);refine⟨trivial,?_⟩;have hl:=an9 a p.1 p.2;refine(GX C hx _ zg).mono ?_;rintro e w4 ⟨⟨v3,rfl⟩,E,N⟩;refine bF ?_;cases hr;exact⟨(o.trans (bD.toM (((bD.refl _ _).drew).trans D))).trans N,J,_,E⟩
  | var i=>
   unfold dK at hu;obtain⟨I,rfl⟩:=hu;refine cM B ?_;obtain⟨s1,dY⟩:∃ s1:Ws,s1={ s with fuel:=s.fuel-1 }:=⟨_,J⟩;have F:s1.out=s.out:=zg;have fS:s1.seen=s.seen:=zg;rw[<- dY] at g hr;have Ts:∀ (k:Nat) (z:Y) (s2:Ws) (w':Z) (x:Y),x=zi (k:Int)->k<=1000000000->lQ ρ n tr wb pb so T cs z w' s2->mW wb pb w2 w'->s2.out=s.out->r=O (s2.add (95::gw k)) ->
     Pr (HD fun q=>q w'.drew/\NC (pp wb) fun P=>uU bax (Instr.fieldAt 103 P 0) q (fun Q=>
      CA bax 64 #[x] w'.drew (fun Tt R=>q R/\RD bax (bo .add 9 (.const (aW [95])) (.tmp 75) (aW [95]) Tt) R (fun S=>
       CA bax 44 #[Q,S] R (fun x77 Ns=>Br ρ n tr wb pb so T cs w s.cW r (ai (aq #[])) Ns) (LQ (Br ρ n tr wb pb so T cs w s.cW r))) NX) (LQ (Br ρ n tr wb pb so T cs w s.cW r)))):=by
    intro k z s2 w' x U hk K W ho2 iG;subst U;refine⟨fun _=>True,trivial,?_⟩;refine toPr ?_;refine bF ?_;refine cR (pp wb) (fun w' _=>eS) ?_;refine(KE k zo zo _ (K.ext yF).XF).mono ?_;rintro e w3 ⟨rfl,D⟩;have C:=K.ext (((bD.refl _ _).drew).trans D);refine⟨trivial,?_⟩;have e1:kX (k:Int)=gw k:=by
     unfold kX;grind
    have hl:=an9 k zo zo;rw[e1] at hl ⊢;have KJ:s2.out.length=s.out.length:=zg;rw[Mh _ _ zg];refine(GX C hx _ zg).mono ?_;rintro e w4 ⟨⟨v3,rfl⟩,E,N⟩;rw[iG];exact⟨((o.trans W).trans (bD.toM (((bD.refl _ _).drew).trans D))).trans N,J,_,E⟩
   rw[aJQ g.st g.na g.sn I,fS];have hlen:s.out.length<=900000100:=zo;cases hk:s.seen.idxOf? i with
   | some k=>
    have tG:k<s.seen.length:=(List.idxOf?_eq_some_iff.1 hk).1;refine bF ?_;refine⟨fun x w'=>w'=w2/\x 9=zi ((k+1:Nat):Int),eS,?_⟩;rintro x w' ⟨rfl,X⟩ d;refine Ts (k+1) nm s1 w' _ X zo g (bD.refl _ _) F ?_;grind [SZ,a0z]
   | none=>
    refine bF ?_;refine⟨fun x w'=>x 9=zi ((s.seen.length+1:Nat):Int)/\(∃ z,lQ ρ n tr wb pb so T cs z w' { s1 with seen:=s1.seen++[i] })/\mW wb pb w2 w',?_,?_⟩
    .refine bF ?_;refine⟨fun _ w'=>∃ r c es,lQ ρ n tr wb pb so T cs (.map (O r)) w' s1/\wb<r/\w'.heap[r]?=O (.map es c)/\EK (Az ρ s1.seen 0) es.toList/\mW wb pb w2 w',?_,?_⟩
     .rcases id g.na with⟨g0,rfl⟩| ⟨r',c,es,rfl,g1,g2,g3⟩
      .have XL:=bn B;refine cM B ?_;obtain⟨m,k2,G,H⟩:=g.names hx g0 M B zg J;exact⟨_,_,_,m,G,H,by rw[g0];rfl,k2⟩
      .refine cM B ?_;grind [bD.refl]
     .rintro _ w' ⟨r',c,es,m,k2,G,H,k5⟩ d;obtain⟨ad2,aVL,aVM,fm,sH⟩:=id m.bu;have hes:es.size=s.seen.length:=by
       have:=aoc H;grind [aob]
      have iW:s.seen.length<=1000000000:=zo;refine cM fm ?_;rw[aJw (k:=87) (e:=3) zk G,hes];refine cM fm ?_;obtain⟨ref,hbi,-⟩:=m.st.var i I;have lT:Hz (ρ i) (Az ρ s1.seen 0) 0=none:=by
       rw[ad9 m.st.inj I s1.seen 0 0 m.sn,fS,hk];rfl
      rw[axd (k:=87) (e:=3) zk zk G H (fun c v hc=>?_) hbi lT]
      .obtain⟨m1,m2⟩:=m.name hx k2 G H I (e:={ key:=pp (ρ i),val:=zi ((s.seen.length:Int)+1),born:=c }) J zg;refine⟨?_,⟨_,m1⟩,k5.trans m2⟩;simp only[jk,if_true];grind [VW]
      .obtain⟨j,E,rfl⟩:=ad7 hc;obtain⟨ref,h5,-⟩:=m.st.var j (m.sn j E);exact yH
    .rintro x w' ⟨X,⟨z,K⟩,W⟩ d;refine Ts (s.seen.length+1) z _ w' _ X zo K W F ?_;grind [SZ,a0z,Ws.add]
  | comp name l=>
   have hu':=hu;unfold dK at hu;obtain⟨b,av,vs,rfl,-⟩:=hu;refine bF ?_;refine(ih.comp (s:={ s with fuel:=s.fuel-1 }) (least:=least) hx ⟨_,g⟩ hu' p (by grind [Ws.cW]) vy hr).mono ?_;rintro e w3 hp;have HT:=hp.of (B':=s.cW) o (by simp only[Ws.cW];omega);cases r with
   | none=>
    obtain⟨g1,rfl,g2⟩:=HT;refine bF ?_;exact⟨g1,J,g2⟩
   | some s'=>
    obtain⟨g1,rfl,g2⟩:=HT;refine bF ?_;exact⟨g1,J,g2⟩
def Fl{name:Bs}{args:List Tm}(h:dN ρ n w (ak 175 (pp b)) (.comp name args)) :
  ∃ a cap,w.heap[b]?=aP #[aW name,.slice a args.length cap] 180 /\
   ∀ (j:Nat) (c:j<args.length),∃ ab cs v,a=O ⟨ab,0,V⟩/\w.heap[ab]?=aP cs 89/\cs[j]?=O v/\dN ρ n w v args[j]:=by
 unfold dN dK at h;obtain⟨g,av,vs,e,-,i,f,d⟩:=h;cases e;have k:=d.length;rcases f with⟨rfl,rfl⟩| ⟨ab,cs,rfl,-,g2,g3,g4⟩
 .exact yH
 .refine⟨O ⟨ab,0,V⟩,cs.size,yH,fun j c=>?_⟩;obtain⟨v,l,m⟩:=iP.at j c d;exact yH
theorem IM:∀ {l:List Tm} {j:Nat},iX l->(a:j<l.length)->er l[j]
 | t::b,0,h,_=>by unfold iX at h;exact h.1
 | t::b,j+1,h,a=>by unfold iX at h;exact IM h.2 zg
abbrev ael(wb:Nat):Deferred:={ target:=.fn (.func 95) #[],args:=#[pp wb,.int .u8 41] }
def aJY{wb:Nat}(h:sZ w wb S nm out)(a:out.length+1<=1000000000)
  (hk:∀ w',sZ w' wb S nm (out++[41])->jM wb w w'->res w'):LV bax res R [ael wb] .returning w:=by
 refine BT zk zs (Sx.CallsD.mono (anY h 41 a) ?_);rintro e d w' ⟨rfl,⟨v,rfl⟩,b,c⟩;exact hk w' b c
def aJZ{wb:Nat}(h:sZ w wb S nm out)(a:out.length+1<=1000000000)
  (hk:∀ w',sZ w' wb S nm (out++[41])->jM wb w w'->R Nk w'):LV bax res R [ael wb] (.panicking [{ v:=ak 134 (.agg #[]),recovered:=false }]) w:=by
 refine BT zk zs (Sx.CallsD.mono (anY h 41 a) ?_);rintro e d w' ⟨rfl,⟨v,rfl⟩,b,c⟩;exact hk w' b c
def aoj{wb T:Nat}(hx:x7 tr wb pb so T cs)(h:Br ρ n tr wb pb so T cs w B V Nk w3)(d:B+1<=B')(b:B'<=1000000000) :
  LV bax res (Br ρ n tr wb pb so T cs w B' V) [ael wb] (.panicking [{ v:=ak 134 (.agg #[]),recovered:=false }]) w3:=by
 obtain⟨g1,-,g2,nm,out,g3,g4⟩:=h;refine aJZ g3 zo fun w' c a=>?_;refine⟨g1.trans (a.toW pb),J,?_,nm,_,c,zg⟩;refine a.block _ _ g2 ?_;rintro (h | ⟨_,_,_,h⟩)
 .exact hx.ne h
 .injection h with _ h _;exact hx.T1 h
def aJ0(ih:∀ g,g<=f->CW g){wb T:Nat}{s:Ws}{name:Bs}{args:List Tm}{least:Nat}{r:Option Ws}(hx:x7 tr wb pb so T cs)(hs:GW ρ n tr wb pb so T cs w s)
  (hu:dN ρ n w (ak 175 (pp b)) (.comp name args)) (dj:er (.comp name args))
  (hB:s.cW<=900000100-60) (E:s.seen.length<=s.out.length) (hr:nM tr (f+1) name args least s=O r) :
  Calls bax 65 #[pp wb,pp b,zi least] w (Br ρ n tr wb pb so T cs w (s.cW+30) r):=by
 obtain⟨nm,h⟩:=hs;obtain⟨ad,buf,GS,hb,dU⟩:=id h.bu;have lb:=bn hb;have Ct:s.cW=s.out.length+60*s.fuel:=rfl;obtain⟨ao,cap,F,IN⟩:=Fl hu;have vD:=dj;unfold er at vD;obtain⟨aVN,Fb,Q⟩:=vD;rw[nM.eq_def] at hr;dsimp only at hr;have C:Ext w w.drew:=yF;have hd:=h.ext C;refine aJu ?_;refine cM F ?_;refine(an5 name args.length _).mono ?_;rintro e w1 ⟨rfl,rfl⟩;by_cases hp:jB name args.length=0
 .have HT:¬ (0:Int)<((jB name args.length:Nat):Int):=zo;refine bF ?_;refine⟨fun x w'=>w'=w.drew/\x 101 = .bool (decide (name=[46]/\args.length=2)),?_,?_⟩
  .by_cases hn:name=[46]
   .refine dB F hn ?_;simp [jk];omega
   .refine dB F hn ?_;grind
  .rintro x w' ⟨rfl,aJ1⟩ d;rw[aJ1];by_cases hl:name=[46]/\args.length=2
   .rw[F4 _ _ hl];obtain⟨x0,p,rfl⟩:∃ x0 p,args=[x0,p]:=by
     match args,hl.2 with
     | [x0,p],_=>grind
    have ff:jB name 2=0:=hp;simp only[ff,ne_eq,not_true_eq_false,if_false,zip hl.1] at hr;refine a0C ((ih f (a0D _)).list hx ⟨_,hd⟩ (hu.bJ (rn.ed C)) dj hB E hr) ?_;rintro e w2 fZ;have jd:=fZ.of (B':=s.cW+30) (bD.toM (M:=MW wb pb) C) (a0D _);cases r with
    | none=>
     obtain⟨g1,rfl,g2⟩:=jd;exact⟨g1,J,g2⟩
    | some s'=>
     obtain⟨g1,rfl,g2⟩:=jd;exact⟨g1,J,g2⟩
   .rw[F5 _ _ hl];have ll:Wb (nN tr f 40 args (s.add name)) (fun s=>O (O (s.add [41])))=O r:=by
     grind
    have Ed:Ext w w.drew.drew:=C.drew;have xG:=h.ext Ed;refine cM F ?_;refine(GX xG hx name zo).mono ?_;rintro e w2 ⟨⟨v2,rfl⟩,G,fa⟩;have R:mW wb pb w w2:=(bD.toM (M:=MW wb pb) Ed).trans fa;have KK:=(h.kv hx R) _ _ _ (.inl J) F;refine cM KK ?_;refine⟨fun m x w'=>∃ j o Ec,x 32=zi (j:Nat)/\j<=args.length/\m=args.length-j/\lQ ρ n tr wb pb so T cs Ec w' o/\mW wb pb w w' /\
     (∃ g,g<=f/\Wb (nN tr g (if j=0 then 40 else 44) (args.drop j) o) (fun s=>O (O (s.add [41])))=O r)/\o.cW<=s.cW+20/\o.seen.length<=o.out.length,
     ⟨_,0,_,nm,J,a0R _,J,G,R,zg,by grind [Ws.pj],oL E⟩,?_⟩
    intro m x3 d3 w3 hI;refine toPr ?_;obtain⟨j,o,Ec,CF,hj,rfl,q,t,⟨g,hg,l⟩,aom,KL⟩:=hI;have aon:o.cW=o.out.length+60*o.fuel:=rfl;obtain⟨ad3,aJ3,aJ4,eQ,Mv⟩:=id q.bu;have Nt:=hu.bJ (h.kv hx t).toT;by_cases hlt:j<args.length
    .obtain⟨ao3,S,KM,aJ5⟩:=Fl Nt;have aJ6:=(h.kv hx t) _ _ _ (.inl J) F;rw[aJ6] at KM;simp only[a0z,Obj.cells.injEq,and_true,Array.mk.injEq,List.cons.injEq,Value.slice.injEq,true_and] at KM;obtain⟨rfl,rfl⟩:=KM;obtain⟨ab,Tv,v3,rfl,nk,IP,Ee⟩:=aJ5 j hlt;rw[a0I hlt] at l;cases g with
     | zero=>simp [nN,Wb] at l
     | succ g=>
     rw[nN] at l;have Eb:((j:Nat):Int).toNat=j:=zo;have aJ7:(if (1:Int)<((j:Nat):Int) then(1:Int) else((j:Nat):Int))=if j=0 then 0 else 1:=by
      omega
     refine dL @ajf CF nk (zA IP aJ7) ?_;obtain⟨sep,aJ8⟩:∃ sep:UInt8,sep=if j=0 then 40 else 44:=⟨_,J⟩
     rw[<- aJ8] at l;have Nv:((List.getD [(40:UInt8),44] (Int.toNat (if j=0 then 0 else 1)) 0).toNat:Int)=sep.toNat:=by
      grind
     refine a0C (Nn (q.ext yF) hx sep zo Nv) ?_;rintro e u ⟨⟨v4,rfl⟩,i,c⟩;have XM:mW wb pb w u:=(t.trans (bD.drew (bD.refl _ _))).trans c;have vJ:=Ee.bJ (q.kv hx ((bD.drew (bD.refl _ _)).trans c)).toT;have IQ:er args[j]:=IM Q hlt;have U:(o.add [sep]).cW=o.cW+1:=Ws.pj ..;cases a:il tr g args[j] 0 (o.add [sep]) with
     | none=>simp [a,Wb] at l
     | some W=>
     refine bF ?_;refine a0C ((ih g zo).tm (least:=0) hx ⟨_,i⟩ vJ IQ zo (oL KL) a) ?_;rintro e w5 H;cases W with
     | none=>
      simp only[a,Wb,a0z] at l;subst l;have B:=H.of (B':=s.cW+30) XM zo;obtain⟨g1,rfl,g2⟩:=B;exact⟨g1,J,g2⟩
     | some I=>
      obtain⟨g1,rfl,Nw,g2⟩:=H;obtain⟨l1,K⟩:=(Km hx.tok g).tm _ _ _ _ IQ zo (oL KL) a;simp only[a] at l;refine cM CF ?_;refine⟨_,zo,j+1,I,Nw,zg,zo,J,g2,XM.trans g1,⟨g,zo,?_⟩,zo,K⟩;rw[bO zo];exact l
    .have hdj:args.drop j=[]:=zg;rw[hdj] at l;cases g with
     | zero=>simp [nN,Wb] at l
     | succ g=>
     simp only[nN,Wb,a0z] at l;subst l;refine cM CF ?_;refine(Nn q hx 41 zo J).mono ?_;rintro e u ⟨⟨v4,rfl⟩,i,c⟩;exact⟨t.trans c,J,_,i⟩
 .have HT:(0:Int)<((jB name args.length:Nat):Int):=zo;obtain⟨x0,p,rfl⟩:∃ x0 p,args=[x0,p]:=by
   have G:args.length=2:=by
    by_cases G:args.length=2
    .omega
    .exact absurd (by unfold jB;grind) hp
   match args,G with
   | [x0,p],_=>grind
  have ff:jB name [x0,p].length=jB name 2:=rfl;rw[ff] at hp HT ⊢;have fZ:jB name 2<=2:=by
   grind [jB]
  obtain⟨oX,IS⟩:=MY Q;dsimp only at hr;rw[zip hp] at hr;obtain⟨op,X⟩:∃ op:Bs,op=if name=[109,111,100] then [32,109,111,100,32] else name:=⟨_,J⟩
  have XN:op.length<=20:=zg;rw[<- X] at hr;have L:∀ w',mW wb pb w w'->∃ ab cap y9 u0 u1,w'.heap[b]?=aP #[aW name,cU ab 2 cap] 180/\w'.heap[ab]?=aP y9 89/\y9[0]?=O u0/\y9[1]?=O u1/\dN ρ n w' u0 x0/\dN ρ n w' u1 p:=by
   intro w' hf;obtain⟨ao,cap,k1,N⟩:=Fl (hu.bJ (h.kv hx hf).toT);obtain⟨ab,y9,u0,rfl,k3,k4,k5⟩:=N 0 zs;obtain⟨KN,za,u1,e,k6,k7,k8⟩:=N 1 zs;exact yH
  by_cases jT:jB name 2<least
  .rw[zip jT] at hr;refine bF ?_;refine(Nn hd hx 40 zo J).mono ?_;rintro e w2 ⟨⟨v2,rfl⟩,G,fa⟩;have R:mW wb pb w w2:=(bD.toM (M:=MW wb pb) C).trans fa;obtain⟨ab,Gn,Fo,u0,u1,k1,N,k3,k4,k5,k6⟩:=L w2 R;refine jt @k1 @N @k3 ?_;cases a:il tr f x0 (jB name 2) (s.add [40]) with
   | none=>simp [a,Wb] at hr
   | some W=>
   have aVQ:(s.add [40]).cW=s.cW+1:=Ws.pj ..;refine a0C ((ih f (a0D _)).tm hx ⟨_,G⟩ k5 oX zo (oL E) a) ?_;rintro e w3 H;have B:=H.of (B':=s.cW+1) R zo;cases W with
   | none=>
    simp only[a,Wb,a0z] at hr;subst hr;obtain rfl:=B.2.1;exact aoj hx B zo zo
   | some k=>
    obtain⟨t,rfl,D,q⟩:=B;obtain⟨l1,K⟩:=(Km hx.tok f).tm _ _ _ _ oX zo (oL E) a;simp only[a] at hr;obtain⟨ab3,S,Tv,u03,wI,q1,q2,q3,q4,q5,q6⟩:=L w3 t;have aKc:k.cW=k.out.length+60*k.fuel:=rfl;refine bF ?_;refine⟨fun _ w'=>lQ ρ n tr wb pb so T cs D w' (k.add op)/\mW wb pb w3 w',?_,?_⟩
    .by_cases y:name=[109,111,100]
     .refine dB @q1 y ?_;rw[X,zip y] at XN ⊢;refine(GX q hx _ zo).mono ?_;rintro e u ⟨⟨v4,rfl⟩,i,c⟩;exact⟨i,c⟩
     .refine dB @q1 y ?_;rw[X,bO y] at XN ⊢;have Tw:Ext w3 w3.drew:=yF;refine(GX (q.ext Tw) hx _ zo).mono ?_;rintro e u ⟨⟨v4,rfl⟩,i,c⟩;exact⟨i,(bD.toM Tw).trans c⟩
    .rintro _ u ⟨i,c⟩ d4;have Tx:=t.trans c;obtain⟨ab4,aKe,cs4,u04,wJ,q1,q2,q3,q4,q5,q6⟩:=L u Tx;have zb:((jB name 2:Nat):Int)+1=((jB name 2+1:Nat):Int):=zo;refine dL @q1 @q2 @q4 zb ?_;have U:(k.add op).cW=k.cW+op.length:=Ws.pj ..;cases z:il tr f p (jB name 2+1) (k.add op) with
     | none=>simp [z,Wb] at hr
     | some r2=>
     refine a0C ((ih f (a0D _)).tm hx ⟨_,i⟩ q6 IS zo (oL K) z) ?_;rintro e w5 mN;have P:=mN.of (B':=s.cW+1) Tx zo;cases r2 with
     | none=>
      simp only[z,Wb,a0z] at hr;subst hr;obtain rfl:=P.2.1;exact aoj hx P zo zo
     | some I=>
      obtain⟨iU,rfl,Nw,h5⟩:=P;obtain⟨l3,l4⟩:=(Km hx.tok f).tm _ _ _ _ IS zo (oL K) z;simp only[z,Wb,a0z] at hr;subst hr;have aKg:I.cW=I.out.length+60*I.fuel:=rfl;refine aJY h5.bu zo fun w6 hb6 CG=>?_;exact⟨iU.trans (CG.toW pb),J,Nw,(by grind [lQ.wr])⟩
  .rw[bO jT] at hr;obtain⟨ab,Gn,Fo,u0,u1,k1,N,k3,k4,k5,k6⟩:=L w.drew (bD.toM C);refine jt @k1 @N @k3 ?_;cases a:il tr f x0 (jB name 2) s with
   | none=>simp [a,Wb] at hr
   | some W=>
   refine a0C ((ih f (a0D _)).tm hx ⟨_,hd⟩ k5 oX zo E a) ?_;rintro e w3 H;have B:=H.of (B':=s.cW+1) (bD.toM (M:=MW wb pb) C) zo;cases W with
   | none=>
    simp only[a,Wb,a0z] at hr;subst hr;have mN:=B.of (B':=s.cW+30) (bD.refl _ _) zo;obtain⟨g1,rfl,g2⟩:=mN;exact⟨g1,J,g2⟩
   | some k=>
    obtain⟨t,rfl,D,q⟩:=B;obtain⟨l1,K⟩:=(Km hx.tok f).tm _ _ _ _ oX zo E a;simp only[a] at hr;obtain⟨ab3,S,Tv,u03,wI,q1,q2,q3,q4,q5,q6⟩:=L w3 t;have aKc:k.cW=k.out.length+60*k.fuel:=rfl;refine bF ?_;refine⟨fun _ w'=>lQ ρ n tr wb pb so T cs D w' (k.add op)/\mW wb pb w3 w',?_,?_⟩
    .by_cases y:name=[109,111,100]
     .refine dB @q1 y ?_;rw[X,zip y] at XN ⊢;refine(GX q hx _ zo).mono ?_;rintro e u ⟨⟨v4,rfl⟩,i,c⟩;exact⟨i,c⟩
     .refine dB @q1 y ?_;rw[X,bO y] at XN ⊢;have Tw:Ext w3 w3.drew:=yF;refine(GX (q.ext Tw) hx _ zo).mono ?_;rintro e u ⟨⟨v4,rfl⟩,i,c⟩;exact⟨i,(bD.toM Tw).trans c⟩
    .rintro _ u ⟨i,c⟩ d4;have Tx:=t.trans c;obtain⟨ab4,aKe,cs4,u04,wJ,q1,q2,q3,q4,q5,q6⟩:=L u Tx;have zb:((jB name 2:Nat):Int)+1=((jB name 2+1:Nat):Int):=zo;refine dL @q1 @q2 @q4 zb ?_;have U:(k.add op).cW=k.cW+op.length:=Ws.pj ..;cases z:il tr f p (jB name 2+1) (k.add op) with
     | none=>simp [z,Wb] at hr
     | some r2=>
     simp only[z,Wb,a0z] at hr;refine a0C ((ih f (a0D _)).tm hx ⟨_,i⟩ q6 IS zo (oL K) z) ?_;rintro e w5 mN;have P:=mN.of (B':=s.cW+30) Tx zo;subst hr;cases r2 with
     | none=>
      obtain⟨g1,rfl,g2⟩:=P;exact⟨g1,J,g2⟩
     | some I=>
      obtain⟨g1,rfl,g2⟩:=P;exact⟨g1,J,g2⟩
section
variable{D:Nat->Prop}{ρ:Nat->Nat}{n sb so T:Nat}{cs:Array Y}
def aKh(N:vH so T cs)(F:i<n):∀ (f:Nat) {tv v:Y} {w:Z} {s:Sr} {t:Tm} {r:Except iM (Bool×Sr)},gV D ρ n sb so T cs tv w s->dN ρ n w v t->er t->s.fuel<=1000000000->tP f i t s=O r ->
  Calls bax 221 #[pq sb so,pp (ρ i),v] w (EPost D w (xj D ρ n sb so T cs) r):=by
 intro f;induction f using Nat.strongRecOn with
 | _ f ih=>
 intro tv v w s t r h hv Q G hr;cases f with
 | zero=>simp [tP] at hr
 | succ f=>
 rw[tP] at hr;refine aJA ?_;refine(No h N G).mono ?_;rintro e w1 ⟨l,c⟩;by_cases H:s.fuel=0
 .rw[zip H] at hr c;injection hr with hr;subst hr c;simp only[ends,PC];exact⟨l,J⟩
 rw[bO H] at hr c;obtain⟨rfl,c⟩:=c;have R:=hv.bJ l.toT;refine bF ?_;cases hw:dR s.tr f t with
 | none=>rw[hw] at hr;cases hr
 | some S=>
 rw[hw] at hr;refine a0C (GV c.sv R (f:=f) (by exact hw)) ?_;rintro e w2 ⟨rfl,u,rfl,hu⟩;have U:=vq h.ok Q hw;cases S with
 | atom a=>
  unfold dK at hu;subst hu;cases hr;refine bF ?_;exact⟨l,J,_,c⟩
 | int a=>
  unfold dK at hu;subst hu;cases hr;refine bF ?_;exact⟨l,J,_,c⟩
 | var j=>
  unfold dK at hu;obtain⟨z,rfl⟩:=hu;cases hr;obtain⟨ref,g1,-⟩:=c.sv.var j z;obtain⟨XK,g2,-⟩:=c.sv.var i F;refine bF ?_;rw[aw7 zk g1 g2];refine⟨l,?_,_,c⟩;simp only[Ending.returned.injEq,Value.bool.injEq,decide_eq_decide];exact⟨fun e=>c.sv.inj _ _ z F e,zg⟩
 | comp name args=>
  obtain⟨b,av,vs,rfl,-,-⟩:=by unfold dK at hu;exact hu
  obtain⟨ao,cap,W,X⟩:=Fl hu;unfold er at U;refine cM W ?_;refine⟨fun m x w'=>∃ j o I,x 29=zi (j:Nat)/\j<=args.length/\m=args.length-j/\gV D ρ n sb so T cs I w' o/\di D w2 w'/\o.fuel<=1000000000/\(∃ g,g<=f/\vu g i (args.drop j) o=O r),
   ⟨_,0,_,_,J,a0R _,J,c,yF,a0E (Nat.sub_le _ _) G,f,a0D _,hr⟩,?_⟩
  intro m x d w3 hI;refine toPr ?_;obtain⟨j,o,I,hx,z,rfl,K,L,ET,g,hg,k⟩:=hI;cases g with
  | zero=>simp [vu] at k
  | succ g=>
  by_cases hlt:j<args.length
  .rw[a0I hlt,vu] at k;obtain⟨ab,Tv,v3,rfl,nk,IP,Ee⟩:=X j hlt;have B:=L.bJ (by unfold lh;decide) nk;have C:=Ee.bJ L.toT;have ej:((j:Nat):Int).toNat=j:=zo;refine dL hx @ej B IP ?_;cases q:tP g i args[j] o with
   | none=>rw[q] at k;cases k
   | some r1=>
   refine a0C (ih g zo K C (by grind [IM]) ET q) ?_;rintro e w4 ⟨gn,y⟩;rw[q] at k;cases r1 with
   | error t=>
    cases k;have y:e=gW t:=y;subst y;cases t<;>exact⟨yF,J⟩
   | ok p=>
    obtain⟨b1,s4⟩:=p;obtain⟨rfl,E,M⟩:=y;simp only[P.Out.ek] at k;have hfu:=((GF g).tm q).2;cases b1 with
    | true=>
     cases k;refine bF ?_;exact⟨yF,J,_,M⟩
    | false=>
     refine cM hx ?_;refine⟨_,zo,j+1,s4,E,zs,zo,J,M,yF,?_,g,zo,zg⟩;grind
  .have Eb:j=args.length:=zo;subst Eb;rw[a1s,vu] at k;cases k;refine cM hx ?_;exact⟨yF,J,_,K⟩
def aKl(g:vH so T cs)(j:i<n){s:Sr}{r:Except iM (Bool×Sr)}(h:gV D ρ n sb so T cs tv w s)(hD:∀ b,w.heap.size<=b->D b)(hv:dN ρ n w v t)(k:er t)(o:s.fuel<=1000000000)
  (y:i ∉ s.tr.map (·.1)) (z:s.tr.length<=900000000) (hr:q9 f i t s=O r) :
  Calls bax 216 #[pq sb so,pp (ρ i),v] w (EPost D w (xj D ρ n sb so T cs) r):=by
 refine aJB ?_;unfold q9 at hr;cases a:tP f i t s with
 | none=>rw[a] at hr;cases hr
 | some q=>
 rw[a] at hr;refine a0C (aKh g j f h hv k o a) ?_;rintro e w1 ⟨c,d⟩;cases q with
 | error t=>
  cases hr;have d:e=gW t:=d;subst d;cases t<;>exact⟨c,J⟩
 | ok p=>
  obtain⟨b1,s1⟩:=p;obtain⟨rfl,B,l⟩:=d;have m:=((GF f).tm a).1;have m:s1.tr=s.tr:=m;simp only[P.Out.ek] at hr;cases b1 with
  | true=>
   cases hr;refine bF ?_;exact⟨c,J,_,l⟩
  | false=>
   cases hr;refine bF ?_;refine a0C (aog l g (fun b u=>hD b (a0E c.size u)) j (by grind [P.PS]) zg (hv.bJ c.toT) k zg) ?_;rintro e w2 ⟨rfl,C,E,x⟩;refine bF ?_;exact⟨yF,J,_,x⟩
end
section
variable{D:Nat->Prop}{ρ:Nat->Nat}{n sb so T:Nat}{cs:Array Y}
def aer{a b:Tm}(g:D9 ρ n tr w)(f:dN ρ n w u a)(c:dN ρ n w v b)(p:¬ (Bk a=A/\Bk b=A)){x:Operand} :
  RD bax (bo .eql 89 x y u v) w K X=K (.bool (P.flat a b)):=by
 have d:yC bax 89=true:=zk;cases a with
 | atom a=>
  unfold dN dK at f;subst f;cases b with
  | atom b=>
   unfold dN dK at c;subst c;rw[aw4 d zk zk];grind [decide,P.flat]
  | int b=>unfold dN dK at c;subst c;exact Dq d zg _ _
  | var b=>unfold dN dK at c;obtain⟨_,rfl⟩:=c;exact Dq d zg _ _
  | comp m l=>unfold dN dK at c;obtain⟨_,_,_,rfl,-⟩:=c;exact Dq d zg _ _
 | int a=>
  unfold dN dK at f;subst f;cases b with
  | atom b=>unfold dN dK at c;subst c;exact Dq d zg _ _
  | int b=>
   unfold dN dK at c;subst c;rw[aw5 d zk zk];grind [decide,P.flat]
  | var b=>unfold dN dK at c;obtain⟨_,rfl⟩:=c;exact Dq d zg _ _
  | comp m l=>unfold dN dK at c;obtain⟨_,_,_,rfl,-⟩:=c;exact Dq d zg _ _
 | var i=>
  unfold dN dK at f;obtain⟨k,rfl⟩:=f;cases b with
  | atom b=>unfold dN dK at c;subst c;exact Dq d zg _ _
  | int b=>unfold dN dK at c;subst c;exact Dq d zg _ _
  | var j=>
   unfold dN dK at c;obtain⟨o,rfl⟩:=c;obtain⟨r,g1,-⟩:=g.var i k;obtain⟨s,g2,-⟩:=g.var j o;rw[aw6 d zk zk g1 g2];have:decide (ρ i=ρ j)=P.flat (.var i) (.var j):=by
    rw[P.flat];by_cases h:i=j
    .subst h;simp
    .have q:ρ i≠ρ j:=fun e=>h (g.inj i j k o e);simp [h,q]
   rw[this]
  | comp m l=>unfold dN dK at c;obtain⟨_,_,_,rfl,-⟩:=c;exact Dq d zg _ _
 | comp m l=>
  unfold dN dK at f;obtain⟨_,_,_,rfl,-⟩:=f;cases b with
  | atom b=>unfold dN dK at c;subst c;exact Dq d zg _ _
  | int b=>unfold dN dK at c;subst c;exact Dq d zg _ _
  | var j=>unfold dN dK at c;obtain⟨_,rfl⟩:=c;exact Dq d zg _ _
  | comp m' l'=>exact absurd ⟨J,J⟩ p
theorem dK.other{a:Tm}(b:dN ρ n w u a)(c:P.isVar a=ae)(d:Bk a=ae):∃ ut x,u = ak ut x/\¬ ut=87/\¬ ut=175:=by
 cases a with
 | atom a=>unfold dN dK at b;grind
 | int a=>unfold dN dK at b;grind
 | var a=>cases c
 | comp a l=>cases d
def PV(hf:vH so T cs):∀ (f:Nat) {tv v u:Y} {w:Z} {s:Sr} {a b:Tm} {r:Except iM (Bool×Sr)},gV D ρ n sb so T cs tv w s->(∀ b,w.heap.size<=b->D b)->dN ρ n w u a->er a->dN ρ n w v b->er b ->
  s.cW<=900000000->gY f a b s=O r ->
  Calls bax 210 #[pq sb so,u,v] w (EPost D w (xj D ρ n sb so T cs) r):=by
 intro f;induction f using Nat.strongRecOn with
 | _ f ih=>
 intro tv v u w s a b r h hD ha IQ M PW hz hr;have JU:s.tr.length+s.fuel<=900000000:=hz;cases f with
 | zero=>simp [gY] at hr
 | succ f=>
 rw[gY] at hr;refine aJC ?_;refine(No h hf zo).mono ?_;rintro e w1 ⟨I,q⟩;by_cases h0:s.fuel=0
 .rw[zip h0] at hr q;injection hr with hr;subst hr q;simp only[ends,PC];exact⟨I,J⟩
 rw[bO h0] at hr q;obtain⟨rfl,q⟩:=q;have AQ:=ha.bJ I.toT;have ja:=M.bJ I.toT;have Ty:∀ b,w1.heap.size<=b->D b:=fun b M=>hD b (a0E I.size M);have hdt:s.dec.tr=s.tr:=rfl;refine bF ?_;cases N:dR s.tr f a with
 | none=>rw[N] at hr;simp at hr
 | some a'=>
 cases S:dR s.tr f b with
 | none=>rw[N,S] at hr;cases a'<;>simp at hr
 | some o=>
 rw[N,S] at hr;refine a0C (GV q.sv AQ (f:=f) (by exact N)) ?_;rintro e w2 ⟨rfl,ua,rfl,C⟩;refine bF ?_;refine a0C (GV q.sv ja (f:=f) (by exact S)) ?_;rintro e w3 ⟨rfl,ub,rfl,E⟩;have XP:=vq h.ok IQ N;have Tz:=vq h.ok PW S;have Cs:∀ {i:Nat} {t:Tm} {x:Y} {w':Z},P.look i s.tr=V->i<n->dN ρ n w' x t->er t->gV D ρ n sb so T cs tv w' s.dec->di D w w'->q9 f i t s.dec=O r ->
   Calls bax 216 #[pq sb so,pp (ρ i),x] w' (EPost D w (xj D ρ n sb so T cs) r):=fun{i t x w'} hl hi hx dj hs hE F=>
  (aKl hf hi hs (fun b M=>hD b (a0E hE.size M)) hx dj (a0E (Nat.sub_le _ _) zo) (ac1 hl) zg F).mono fun e w' G=>G.of hE
 by_cases L:P.isVar a'=A
 .cases a' with
  | atom a=>cases L
  | int a=>cases L
  | comp a l=>cases L
  | var i=>
  have xg:=IC N;unfold dN dK at C;obtain⟨hi,rfl⟩:=C;refine bF ?_;have KI:dN ρ n w3 (ak 87 (pp (ρ i))) (.var i):=by unfold dN dK;grind
  rw[aer q.sv KI E (by rintro ⟨h,_⟩;cases h)];by_cases z:P.isVar o=A
  .cases o with
   | atom a=>cases z
   | int a=>cases z
   | comp a l=>cases z
   | var j=>
   simp only[P.flat] at hr ⊢;by_cases nu:i=j
   .rw[zip nu] at hr;cases hr;have:(i == j)=true:=zg;refine cM @this ?_;exact⟨I,J,_,q⟩
   .rw[bO nu] at hr;have:(i == j)=false:=zg;refine cM @this ?_;refine a0C (Cs xg hi E Tz q I hr) ?_;exact fun e H G=>G.Tk
  .have iV:P.flat (.var i) o=false:=by cases o<;>first | rfl | exact absurd J z
   rw[iV];have hr:q9 f i o s.dec=O r:=by
    grind
   refine bF ?_;refine a0C (Cs xg hi E Tz q I hr) ?_;exact fun e H G=>G.Tk
 .have L:P.isVar a'=false:=zg;have aKm:∃ ut x,ua = ak ut x/\¬ ut=87:=by
   cases a' with
   | atom a=>unfold dN dK at C;grind
   | int a=>unfold dN dK at C;grind
   | var a=>cases L
   | comp a l=>unfold dN dK at C;grind
  obtain⟨ut,ux,rfl,W⟩:=aKm;by_cases z:P.isVar o=A
  .cases o with
   | atom a=>cases z
   | int a=>cases z
   | comp a l=>cases z
   | var j=>
   have xg:=IC S;unfold dN dK at E;obtain⟨hj,rfl⟩:=E;have hr:q9 f j a' s.dec=O r:=by
    cases a' with
    | var j=>cases L
    | atom x=>omega
    | int x=>omega
    | comp x l=>omega
   refine cM W ?_;refine a0C (Cs xg hj C XP q I hr) ?_;exact fun e H G=>G.Tk
  have z:P.isVar o=false:=zg;have aKn:∃ X x,ub = ak X x/\¬ X=87:=by
   cases o with
   | atom a=>unfold dN dK at E;grind
   | int a=>unfold dN dK at E;grind
   | var a=>cases z
   | comp a l=>unfold dN dK at E;grind
  obtain⟨X,vx,rfl,XR⟩:=aKn;by_cases qx:Bk a'=A/\Bk o=A
  .obtain⟨B,K⟩:=qx;cases a' with
   | atom a=>cases B
   | int a=>cases B
   | var a=>cases B
   | comp name l=>
   cases o with
   | atom a=>cases K
   | int a=>cases K
   | var a=>cases K
   | comp CJ l'=>
   simp only at hr;obtain⟨ba,ava,vsa,Ny,-,-⟩:=by unfold dN dK at C;exact C
   obtain⟨bb,avb,vsb,KQ,-,-⟩:=by unfold dN dK at E;exact E
   injection Ny with e1 e2;injection KQ with e3 e4;subst e1 e2 e3 e4;obtain⟨ao,cap,B,aeu⟩:=Fl C;obtain⟨bo',aKr,K,aev⟩:=Fl E;refine dL W XR B K ?_;refine⟨fun x w'=>w'=w3,?_,?_⟩
   .refine⟨fun x w'=>w'=w3/\x 63 = .bool ae,?_,?_⟩
    .exact eS
    .rintro x w' ⟨rfl,hx⟩ d;exact fj hx
   .rintro x w' rfl d;have TA:=(bD.drew (bD.refl (fun _ _=>False) w')).block _ _ B (fun h=>h);have IV:=(bD.drew (bD.refl (fun _ _=>False) w')).block _ _ K (fun h=>h);refine⟨fun x Q=>Ext w' Q/\name=CJ/\l.length=l'.length,?_,?_⟩
    .refine⟨fun x Q=>Ext w' Q/\x 88 = .bool (decide (¬ (name=CJ/\l.length=l'.length))),?_,?_⟩
     .by_cases hn:name=CJ
      .subst hn;refine dB TA IV ?_;grind [bD.refl,Int.ofNat_inj,bD.drew]
      .refine dB TA IV ?_;exact yF
     .rintro x Q ⟨R,hx⟩ d2;by_cases xQ:name=CJ/\l.length=l'.length
      .refine dL hx xQ @not_true_eq_false @decide_false ?_;exact yF
      .rw[bO xQ] at hr;cases hr;refine dL hx xQ @not_false_eq_true @decide_true ?_;exact⟨yF,J,_,q.ext R⟩
    .rintro x Q ⟨R,rfl,uA⟩ d2;rw[zip ⟨J,uA⟩] at hr;have aew:=R.ext _ _ B;refine cM aew ?_;unfold er at XP Tz;refine⟨fun m x H=>∃ j sj Fq,x 94=zi (j:Nat)/\j<=l.length/\m=l.length-j/\gV D ρ n sb so T cs Fq H sj/\di D Q H/\sj.cW<=900000000/\(∃ g,g<=f/\lJ g (l.drop j) (l'.drop j) sj=O r),
      ⟨_,0,_,_,J,a0R _,J,q.ext R,yF,by grind [Sr.cW,Sr.dec],f,a0D _,hr⟩,?_⟩
     intro m x d H hI;refine toPr ?_;obtain⟨j,sj,Fq,hx,hj,rfl,h4,gn,AX,g,hg,F⟩:=hI;have GZ:di D w H:=I.trans ((di.ed R).trans gn);cases g with
     | zero=>simp [lJ] at F
     | succ g=>
     by_cases hlt:j<l.length
     .have qG:j<l'.length:=zo;rw[a0I hlt,a0I qG,lJ] at F;obtain⟨ab,Tv,v3,rfl,nk,IP,Ee⟩:=aeu j hlt;obtain⟨KN,cs4,v4,rfl,aex,aey,vJ⟩:=aev j qG;have TB:di D w' H:=(di.ed R).trans gn;have th:di D w' H.drew:=yF;have kt:∀ (b:Nat) (c:Array Y) (U:Nat),¬ lh U->w'.heap[b]?=aP c U->H.drew.heap[b]?=aP c U:=(by grind [di.bJ]);have q1:=kt _ _ _ (by grind [lh]) B;have q2:=kt _ _ _ (by grind [lh]) K;have q3:=kt _ _ _ (by grind [lh]) nk;have q4:=kt _ _ _ (by grind [lh]) aex;have ej:((j:Nat):Int).toNat=j:=zo;refine dL hx @ej @q1 (zA @q2 (zA @q3 (zA @q4 (zA IP aey)))) ?_;cases fS:gY g l[j] l'[j] sj with
      | none=>rw[fS] at F;cases F
      | some r1=>
      have KR:di D H H.drew:=di.ed (bD.drew yF);refine a0C (ih g zo (h4.ext (bD.drew yF)) (fun b M=>hD b (a0E GZ.size M)) (Ee.bJ th.toT) (by grind [IM]) (vJ.bJ th.toT) (by grind [IM]) AX fS) ?_;rintro e w5 ⟨rq,G⟩;rw[fS] at F;cases r1 with
      | error t=>
       cases F;have G:e=gW t:=G;subst G;cases t<;>exact⟨GZ.trans yF,J⟩
      | ok p=>
       obtain⟨b1,s5⟩:=p;obtain⟨rfl,tv5,h5⟩:=G;simp only[P.Out.ek] at F;have XS:=((DP g).tm fS).1;cases b1 with
       | false=>
        cases F;refine bF ?_;exact⟨GZ.trans yF,J,_,h5⟩
       | true=>
        refine cM hx ?_;exact⟨_,zo,j+1,s5,tv5,zs,zo,J,h5,gn.trans yF,zg,g,zo,zg⟩
     .have Eb:j=l.length:=zo;subst Eb;rw[a1s,uA,a1s,lJ] at F
      .cases F;refine cM hx ?_;exact⟨GZ,J,_,h4⟩
      grind
  .have hr:r = .ok (P.flat a' o,s.dec):=by
    cases a' with
    | var i=>cases L
    | atom x=>cases o with
     | var j=>cases z
     | atom y=>grind
     | int y=>grind
     | comp y l=>grind
    | int x=>cases o with
     | var j=>cases z
     | atom y=>grind
     | int y=>grind
     | comp y l=>grind
    | comp x k=>cases o with
     | var j=>cases z
     | atom y=>grind
     | int y=>grind
     | comp y l=>exact absurd ⟨J,J⟩ qx
   subst hr;have kT:∀ {x y:Operand},RD bax (bo .eql 89 x y (ak ut ux) (ak X vx)) w3 (fun v=>EPost D w (xj D ρ n sb so T cs) (.ok (P.flat a' o,s.dec)) (ai v) w3) (PX (EPost D w (xj D ρ n sb so T cs) (.ok (P.flat a' o,s.dec)))):=fun{x y}=>by
    rw[aer q.sv C E qx];exact⟨I,J,_,q⟩
   by_cases B:Bk a'=A
   .have K:Bk o=false:=by
     grind
    obtain⟨_,_,e0,-,IW⟩:=E.other z K;cases e0;cases a' with
    | atom a=>cases B
    | int a=>cases B
    | var a=>cases B
    | comp name l=>
    obtain⟨ba,ava,vsa,Ny,-,-⟩:=by unfold dN dK at C;exact C
    cases Ny;refine jt W XR IW ?_;refine⟨fun _ _=>False,?_,by rintro _ _ h;exact h.elim⟩;refine⟨fun x w'=>w'=w3/\x 63 = .bool A,?_,?_⟩
    .exact eS
    .rintro x w' ⟨rfl,hx⟩ d;refine cM hx ?_;exact kT
   .have B:Bk a'=false:=zg;obtain⟨_,_,e0,-,TC⟩:=C.other L B;cases e0;by_cases IW:X=175
    .subst IW;refine jt W XR TC ?_;refine⟨fun _ _=>False,?_,by rintro _ _ h;exact h.elim⟩;refine⟨fun x w'=>w'=w3/\x 63 = .bool A,?_,?_⟩
     .exact eS
     .rintro x w' ⟨rfl,hx⟩ d;refine cM hx ?_;exact kT
    .refine dL W XR TC IW ?_;refine⟨fun _ _=>False,?_,by rintro _ _ h;exact h.elim⟩;refine⟨fun x w'=>w'=w3/\x 63 = .bool A,?_,?_⟩
     .exact eS
     .rintro x w' ⟨rfl,hx⟩ d;refine cM hx ?_;exact kT
end
