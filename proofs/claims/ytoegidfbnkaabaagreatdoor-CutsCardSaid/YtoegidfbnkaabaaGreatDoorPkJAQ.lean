/- A part of one proof (KS2, KS3, PW5, PW6, KS4, KS5). -/
import Derived.Test.YtoegidfbnkaabaaGreatDoorPkJAP
set_option linter.all false
set_option maxRecDepth 100000
set_option maxHeartbeats 8000000
open Option renaming some → O, none → V
open Go renaming Value → Y, World → Z
open Bool renaming true → A, false → G
open Go.Obj renaming cells → ae
open Go.Ending renaming returned → ah
open Go.Value renaming nilIface → ai, iface → aj, tuple → ak, pointer → aq
open Option.some renaming injEq → aZG, inj → aZN
open Go.Calls renaming mono → aZJ
open Nat renaming le_refl → aZK, le_trans → aZL, zero_le → aZY
open List renaming drop_eq_getElem_cons → aZP, mem_cons → aZU, drop_length → a0y, nil_append → a0K, take_append_drop → a1y
open Go.Value renaming ownBlock → a0q
open Go.Proofs.Tryz renaming prog → a9B
namespace Go.Proofs.YtoegidfbnkaabaaGreatDoor
open P
open Go.RowKit Sx
variable{B B' b c f i m n pb so wb:Nat}{K:Y->Prop}{R:Ending->Z->Prop}{S buf nm tv u v:Y}{X:Y->Z->Prop}{cs:Array Y}{es:Array MapEntry}{out:Bs}{res:Z->Prop}{t:Tm}{tr:Tr}{w w' w1 w3:Z}{y:Operand}{ρ:Nat->Nat}
def Tryz.aII:(Tryz.prog.info? 87).map (fun i=>(i.zero,i.size,i.bytes))=O (O (aq V),1,8):=zk
section
variable{D:Nat->Prop}{ρ:Nat->Nat}{n sb so T:Nat}{cs:Array Y}{tv:Y}{w w':Z}{s:Sr}
def Xg{z:Int}(h:so+2<=cs.size):(kg (cs.setIfInBounds so tv) so z)[so]?=O tv:=by
 grind
def sf2{z:Int}{nv:Y}:(kg (cs.setIfInBounds so tv) so z).setIfInBounds so nv=kg (cs.setIfInBounds so nv) so z:=by
 unfold kg;apply Array.ext_getElem?;grind
def MV{z:Int}:(kg (cs.setIfInBounds so tv) so z).size=cs.size:=zs
def SY(h:gQ D ρ n sb so T cs tv w s)(b:uZ so T cs) :
  Calls a9B 214 #[pq sb so] w fun e w'=>e = ah (zi s.tr.length)/\w'=w:=by
 have d:=h.cell;have f:=b.sz;obtain⟨a,c,rfl⟩:=gV h.row;refine aIr ?_;simp (disch:=first|assumption|omega|simp only[zS]<;>omega|decide) only[zB,simprocAttr,kJ,d,Xg f,MV]
def anm(h:gQ D ρ n sb so T cs tv w s)(q:uZ so T cs)(hD:∀ b,w.heap.size<=b->D b)(y:i<n)(hl:P.look i s.tr=V)(N:i ∉ s.tr.map (·.1))(hv:dM ρ n w v t)(Q:er t)(hlen:s.tr.length<=900000000) :
  Calls a9B 217 #[pq sb so,pp (ρ i),v] w fun e w'=>e = ah (ak #[])/\dc D w w'/\∃ R,gQ D ρ n sb so T cs R w' (s.bind i t):=by
 have a:=h.cell;have S:=q.sz;have lb:=bg a;obtain⟨ref,hr,-⟩:=h.sv.var i y;have lr:=bg hr;have W:ρ i≠sb:=by
  intro e;rw[<- e,hr] at a;injection a with a;injection a with _ a _;rcases q.ty with h | h<;>rw[h] at a<;>cases a
 obtain⟨u,x,rfl⟩:=hv.iface;refine aIt ?_;simp (disch:=first|assumption|omega|simp only[zS]<;>omega|decide) only[zB,simprocAttr,kJ,a,hr,Xg S,MV];obtain⟨w1,z⟩:=cd ((bO w (ρ i) (ae #[aj u x] 91)).alloc (ae #[pp (ρ i)] 87));rw[<- z];have z1:w1.heap.size=w.heap.size+1:=yH;have d:w1.ownsRow 0 87 1 tv s.tr.length (qM ρ s.tr):=by
  rw[z];exact(Iz h.row (h.Xf hr zd)).alloc _
 have X:w1.heap[w.heap.size]?=aM #[pp (ρ i)] 87:=yH;have iS:w1.heap[sb]?=aM (kg (cs.setIfInBounds so tv) so s.fuel) T:=by
  exact yH
 have kz:∀ b o,b≠ρ i->w.heap[b]?=O o->w1.heap[b]?=O o:=yH;have pR:w1.heap[ρ i]?=aM #[aj u x] 91:=by
  exact yH
 have f0:dc D w (bO w (ρ i) (ae #[aj u x] 91)):=⟨J,J,J,yH,fun b o eY hm=>by
  by_cases e:b=ρ i
  .subst e;rw[hr] at eY;exact absurd ⟨h.dv i y,_,_,_,(aZN eY).symm,.inl J⟩ hm
  exact yH⟩
 have f1:dc D w w1:=by
  exact yF
 clear z;refine aIG zk Tryz.aII J zo d X J hlen zo ?_;intro v' w2 f l jU;have m:T≠87/\T≠91:=by rcases q.ty with h | h<;>subst h<;>decide
 have k:∀ (b:Nat) (c:Array Y) (U:Nat),w1.heap[b]?=aM c U->U≠87->w2.heap[b]?=aM c U:=fun b c U eY hU=>by
  rw[l.block b (bg eY) (fun e=>?_)]
  .exact yH
  .rcases d.2 with⟨rfl,-⟩| ⟨K,cap,cur,rfl,-,r,-⟩
   .cases e
   grind [a0q,aZG]
 have f2:dc D w1 w2:=⟨l.os,l.tape,l.output,l.size,fun b o eY hm=>by
  rw[l.block b (bg eY) (fun e=>?_)]
  .exact yH
  .rcases d.2 with⟨rfl,-⟩| ⟨K,cap,cur,rfl,-,r,-⟩
   .cases e
   .simp only[a0q,aZG] at e;subst e;rw[eY] at r;exact hm ⟨h.dr _ J,_,_,_,aZN r,.inr (.inl J)⟩⟩
 have B:=k _ _ _ iS m.1;have iz:=k _ _ _ pR zd;have C:=bg B;obtain⟨p2,d2,e2⟩:=gV f;have qE:(kg (cs.setIfInBounds so tv) so (s.fuel:Int)).size=cs.size:=MV;subst e2;refine iZ B @sf2 @MV ?_;have E:∀ g,(Value.slice p2 (s.tr.length+1) d2).ownBlock=O g->D g:=(by grind [gQ.dr]);have eD:dc D w2 (bO w2 sb (ae (kg (cs.setIfInBounds so (.slice p2 (s.tr.length+1) d2)) so s.fuel) T (0,0))):=⟨J,J,J,yH,fun b o eY hm=>by
  by_cases e:b=sb
  .subst e;rw[B] at eY;exact absurd ⟨h.ds,_,_,_,(aZN eY).symm,q.mu⟩ hm
  exact yH⟩
 have F:dc D w (bO w2 sb (ae (kg (cs.setIfInBounds so (.slice p2 (s.tr.length+1) d2)) so s.fuel) T (0,0))):=yF;refine⟨F,.slice p2 (s.tr.length+1) d2,?_⟩;refine⟨⟨h.sv.inj,fun j L=>?_⟩,h.dv,pS J C,?_,E,h.ds,?_,?_,Q,h.ok⟩
 .by_cases H:j=i
  .subst H;refine⟨_,by rw[iY W];exact iz,?_⟩;have:P.look j (s.bind j t).tr=O t:=by simp [Sr.bind,P.look]
   rw[this];exact hv.bH F.toT
  .obtain⟨Xh,g1,g2⟩:=h.sv.var j L;have fM:ρ j≠ρ i:=fun e=>H (h.sv.inj j i L y e);have Pl:ρ j≠sb:=by
    intro e;rw[<- e,g1] at a;injection a with a;injection a with _ a _;exact m.2 a.symm
   refine⟨Xh,by rw[iY Pl];exact k _ _ _ (kz _ _ fM g1) zd,?_⟩;have:P.look j (s.bind i t).tr=P.look j s.tr:=by simp [Sr.bind,P.look,H]
   rw[this];cases M:P.look j s.tr with
   | none=>rw[M] at g2;exact g2
   | some t'=>rw[M] at g2;exact dI.bH g2 F.toT
 .show(bO w2 sb _).ownsRow 0 87 1 (.slice p2 (s.tr.length+1) d2) (s.tr.length+1) (qM ρ ((i,t)::s.tr));rw[aIC];refine Iz f ?_;intro e;rcases f.2 with⟨e1,-⟩| ⟨K,cap,cur,e1,-,r,-⟩
  .grind
  grind [a0q,aZG]
 .show(i::s.tr.map (·.1)).Nodup;exact List.nodup_cons.2 ⟨N,h.nd⟩
 .intro p I;rcases aZU.1 I with rfl | I
  .omega
  .exact h.lt p I
end
theorem P.Ps{i:Nat}:∀ {tr:Tr},i ∉ tr.map (·.1)->P.look i tr=V
 | [],_=>rfl
 | (j,t)::r,h=>by
  simp only[List.map_cons,aZU,not_or] at h;rw[P.look,bZ h.1];exact P.Ps h.2
theorem P.ann{i j:Nat}{t:Tm}(h:j≠i):∀ (a b:Tr),P.look j (a++(i,t)::b)=P.look j (a++b)
 | [],b=>by rw[a0K,a0K,P.look,bZ h]
 | (k,u)::a,b=>by
  rw[List.cons_append,List.cons_append,P.look,P.look,P.ann h a b]
def mR.drop:∀ (k:Nat) {tr:Tr},mR tr->mR (tr.drop k)
 | 0,_,h=>h
 | _+1,[],h=>h
 | k+1,(_,_)::_,h=>mR.drop k h.2
section
variable{D:Nat->Prop}{ρ:Nat->Nat}{n sb so T:Nat}{cs:Array Y}{tv:Y}{w w':Z}{s:Sr}
def DO.free{a b:Tr}(h:DO ρ n (a++(i,t)::b) w)(d:i<n)(m:i ∉ (a++b).map (·.1)) :
  DO ρ n (a++b) (bO w (ρ i) (ae #[ai] 91)):=by
 obtain⟨ref,hr,-⟩:=h.var i d;have k:=bg hr;have hk:Xa w (bO w (ρ i) (ae #[ai] 91)):=fun b c t _ ht o=>by
  exact yH
 refine⟨h.inj,fun j f=>?_⟩;by_cases g:j=i
 .subst g;refine⟨_,pS J k,?_⟩;grind [P.Ps]
 .obtain⟨l,g1,g2⟩:=h.var j f;refine⟨l,by rw[iY (fun e=>g (h.inj j i f d e))];omega,?_⟩;grind [P.ann,P.look,dI.bH]
def adw(h:gQ D ρ n sb so T cs tv w s)(z:uZ so T cs)(hm:m<=s.tr.length)(hlen:s.tr.length<=900000000) :
  Calls a9B 208 #[pq sb so,zi m] w fun e w'=>e = ah (ak #[])/\dc D w w'/\∃ X,gQ D ρ n sb so T cs X w' (s.iD m):=by
 have C:=h.cell;have L:=z.sz;have lb:=bg C;obtain⟨a,c,E⟩:=gV h.row;subst E;refine aIs ?_;simp (disch:=first|assumption|omega|simp only[zS]<;>omega|decide) only[zB,simprocAttr,kJ,C,Xg L,MV];have em:(m:Int).toNat=m:=zo;rw[em];obtain⟨p,B⟩:=cd (if c=m then a else a.map (·.add (m*1)));have iH:sliced a m s.tr.length c 1 = .slice p (s.tr.length-m) (c-m):=by rw[B];rfl
 rw[iH];have Pt:s.tr.length<=c:=by
  rcases h.row.2 with⟨l,f⟩| ⟨g,cap,cur,l,-,-,h4,-⟩<;>grind
 have xy:∀ k,k<s.tr.length->∃ g u,a=O ⟨g,0,V⟩/\w.heap[g]?=aM u 87/\u[k]?=(qM ρ s.tr)[k]?:=fun k hk=>by
  obtain⟨g,c',u,F,e2,M⟩:=SX h.row hk;exact yH
 refine bE ?_;refine⟨fun q x w'=>∃ j,x 13=zi (j:Nat)/\j<=s.tr.length-m/\q=s.tr.length-m-j/\dc D w w'/\DO ρ n (s.tr.take (s.tr.length-m-j)++s.tr.drop (s.tr.length-m)) w' /\
   (∀ (b:Nat) (c:Array Y) (U:Nat),w.heap[b]?=aM c U->U≠91->w'.heap[b]?=aM c U),
  ⟨_,0,J,aZY _,J,yF,by rw[Nat.sub_zero,a1y];exact h.sv,yH⟩,?_⟩
 intro q x d w1 hI;refine toPr ?_;obtain⟨j,hx,hj,rfl,N,r,P⟩:=hI;have H:=P _ _ _ C (by rcases z.ty with h | h<;>subst h<;>decide);by_cases hlt:j<s.tr.length-m
 .have ql:((j:Nat):Int)<((s.tr.length-m:Nat):Int):=zo;obtain⟨g,u,rfl,g1,g2⟩:=xy (m+j) zo;have Pu:p=O ⟨g,m,V⟩:=by
   rw[B,bZ zo];simp [Addr.add];exact fun h=>h.symm
  subst Pu;have V3:=P _ _ _ g1 zd;obtain⟨⟨i,t⟩,hit⟩:∃ y,y=s.tr[s.tr.length-m-j-1]' zo:=⟨_,J⟩;have I:i<n:=by
   have:=h.lt (i,t) zg;omega
  have g3:u[m+j]?=O (pp (ρ i)):=by
   rw[g2,qM,List.getElem?_map,List.getElem?_reverse zo,List.getElem?_eq_getElem zo];have:s.tr[s.tr.length-1-(m+j)]' zo=(i,t):=by
    rw[hit]
    congr 1
    omega
   rw[this];rfl
  have ej:((j:Nat):Int).toNat=j:=zo;have Gc:s.tr.take (s.tr.length-m-j)=s.tr.take (s.tr.length-m-j-1)++[(i,t)]:=by
   have:s.tr.length-m-j=s.tr.length-m-j-1+1:=zo;grind [List.take_succ_eq_append_getElem,Nat.add_sub_cancel]
  rw[Gc,List.append_assoc,List.singleton_append] at r;have Ks:i ∉ (s.tr.take (s.tr.length-m-j-1)++s.tr.drop (s.tr.length-m)).map (·.1):=by
   have e0:s.tr=s.tr.take (s.tr.length-m-j-1)++(i,t)::s.tr.drop (s.tr.length-m-j-1+1):=by
    rw[hit,<- aZP zo,a1y]
   have Q:((s.tr.take (s.tr.length-m-j-1)++(i,t)::s.tr.drop (s.tr.length-m-j-1+1)).map (·.1)).Nodup:=by rw[<- e0];exact h.nd
   rw[List.map_append,List.map_cons] at Q;have l:=(List.nodup_cons.1 ((List.perm_middle.nodup_iff).1 Q)).1;rw[List.map_append];intro pj;apply l;rcases List.mem_append.1 pj with f | f
   .grind
   .refine List.mem_append_right _ ?_;have M:s.tr.drop (s.tr.length-m)=(s.tr.drop (s.tr.length-m-j-1+1)).drop j:=by
     rw[List.drop_drop];congr 1;omega
    rw[M] at f;obtain⟨y,hy,rfl⟩:=List.mem_map.1 f;grind
  obtain⟨ref,R,-⟩:=r.var i I;have aUN:=r.free I Ks;refine dH hx @ej @V3 (zA @g3 @R) ?_;refine⟨_,zo,j+1,zs,zo,J,?_,?_,fun b c U eY hU=>?_⟩
  .refine N.trans ⟨J,J,J,yH,fun b o eY hm=>?_⟩;by_cases e:b=ρ i
   .subst e;rw[R] at eY;exact absurd ⟨h.dv i I,_,_,_,(aZN eY).symm,.inl J⟩ hm
   exact yH
  .omega
  exact yH
 .have DQ:j=s.tr.length-m:=zo;subst DQ;have qE:(kg (cs.setIfInBounds so (.slice a s.tr.length c)) so (s.fuel:Int)).size=cs.size:=MV;have K:sliced a 0 m c 1 = .slice a m c:=by
   unfold sliced;cases a with
   | none=>simp
   | some x=>simp [Addr.add]
  have Xi:=bg H;simp (disch:=first|assumption|omega|simp only[zS]<;>omega|decide) only[zB,simprocAttr,kJ,hx,H,Xg L,MV,K,sf2];rw[Nat.sub_self,List.take_zero,a0K] at r;have hTp:T≠87/\T≠91/\T≠180/\T≠89:=by rcases z.ty with h | h<;>subst h<;>decide
  have eP:(bO w1 sb (ae (kg (cs.setIfInBounds so (.slice a m c)) so s.fuel) T (0,0))).ownsRow 0 87 1 (.slice a m c) m (qM ρ (s.iD m).tr):=by
   have ev:qM ρ (s.iD m).tr=(qM ρ s.tr).take m:=by
    simp only[qM,Sr.iD];rw[<- List.map_take,List.take_reverse]
   have S:w1.ownsRow 0 87 1 (.slice a m c) m ((qM ρ s.tr).take m):=by
    refine⟨by rw[List.length_take,aID,Nat.mul_one];omega,?_⟩;rcases h.row.2 with⟨l,f⟩| ⟨g,cap,cur,l,f,h3,h4,h5,h6,h7⟩<;>grind
   rw[ev];refine Iz S ?_;intro e;rcases S.2 with⟨F,-⟩| ⟨g',cap,cur,F,-,h3,-⟩
   .rw[F] at e;cases e
   grind [a0q,aZG]
  refine⟨N.trans ⟨J,J,J,yH,fun b o eY hm=>?_⟩,.slice a m c,⟨r.bH fun b c' t ht eY=>?_,h.dv,pS J Xi,?_,fun g W=>h.dr g (by cases a with
   | none=>cases W
   | some x=>exact W),h.ds,?_,?_,mR.drop _ h.ok⟩⟩
  .by_cases e:b=sb
   .subst e;rw[H] at eY;exact absurd ⟨h.ds,_,_,_,(aZN eY).symm,z.mu⟩ hm
   exact yH
  .exact yH
  .grind [Sr.iD]
  .have:=h.nd;show((s.tr.drop _).map _).Nodup;grind
  .intro p B;exact h.lt p (List.mem_of_mem_drop B)
end
structure CW(f:Nat):Prop where
 tm:∀ {ρ:Nat->Nat} {n:Nat} {tr:Tr} {wb sb so T:Nat} {cs:Array Y} {w:Z} {s:Ws} {t:Tm} {v:Y} {least:Nat} {r:Option Ws},xD tr wb sb so T cs->GC ρ n tr wb sb so T cs w s->dM ρ n w v t->er t ->
  s.cU<=900000100->s.seen.length<=s.out.length->lE tr f t least s=O r->Calls a9B 31 #[pp wb,v,zi least] w (Ba ρ n tr wb sb so T cs w s.cU r)
 comp:∀ {ρ:Nat->Nat} {n:Nat} {tr:Tr} {wb sb so T:Nat} {cs:Array Y} {w:Z} {s:Ws} {name:Bs} {args:List Tm} {b:Nat} {least:Nat} {r:Option Ws},xD tr wb sb so T cs->GC ρ n tr wb sb so T cs w s ->
  dM ρ n w (aj 175 (pp b)) (.comp name args)->er (.comp name args) ->
  s.cU<=900000100-60->s.seen.length<=s.out.length->B8 tr f name args least s=O r->Calls a9B 65 #[pp wb,pp b,zi least] w (Ba ρ n tr wb sb so T cs w (s.cU+30) r)
 list:∀ {ρ:Nat->Nat} {n:Nat} {tr:Tr} {wb sb so T:Nat} {cs:Array Y} {w:Z} {s:Ws} {name:Bs} {x y:Tm} {b:Nat} {r:Option Ws},xD tr wb sb so T cs->GC ρ n tr wb sb so T cs w s ->
  dM ρ n w (aj 175 (pp b)) (.comp name [x,y])->er (.comp name [x,y]) ->
  s.cU<=900000100-60->s.seen.length<=s.out.length->yy tr f 91 x y s=O r->Calls a9B 96 #[pp wb,pp b] w (Ba ρ n tr wb sb so T cs w (s.cU+30) r)
theorem Ba.of{T:Nat}{r:Option Ws}{e:Ending}(h:Ba ρ n tr wb pb so T cs w1 B r e w')(a:mD wb pb w w1)(c:B<=B'):Ba ρ n tr wb pb so T cs w B' r e w':=by
 obtain⟨b,d⟩:=h;refine⟨a.trans b,?_⟩;exact yH
def aIK{ρ:Nat->Nat}{n:Nat}{tr:Tr}{wb:Nat}{nm:Y}{w:Z}{seen:List Nat}(a:DO ρ n tr w)(g:NmA ρ w wb nm seen)(b:∀ i∈seen,i<n){i:Nat}(d:i<n){K:Y->Prop}{X:Y->Z->Prop} :
  RD a9B (Instr.lookup 101 nm (pp (ρ i)) A) w K X =
   match seen.idxOf? i with
   | some k=>K (ak #[.int .i64 ((k+1:Nat)),.bool A])
   | none=>K (ak #[.int .i64 0,.bool G]):=by
 have hm:AG a9B 101=O (87,3):=zk;have e:zm a9B 3=O (zi 0):=zk;have f:zv a9B 87=true:=zk;obtain⟨ref,h,-⟩:=a.var i d;rcases g with⟨rfl,rfl⟩| ⟨r,c,es,rfl,s,l,m⟩
 .rw[awg hm (aaS f) e];rfl
 .rw[awh hm f e l m (fun c v o=>?_) h]
  .rw[adr a.inj d seen 0 0 b];cases seen.idxOf? i with
   | none=>rfl
   | some k=>simp
  .obtain⟨j,p,rfl⟩:=adq o;obtain⟨ref,q,-⟩:=a.var j (b j p);exact⟨_,_,q⟩
def lI.name{T:Nat}{s:Ws}{r:Nat}(h:lI ρ n tr wb pb so T cs (.map (O r)) w s)(hx:xD tr wb pb so T cs)(hr:wb<r)
  (m:w.heap[r]?=O (.map es c)) (y:Er (Al ρ s.seen 0) es.toList) (z:i<n) {e:MapEntry} (hk:e.key=pp (ρ i)) (hv:e.val=zi ((s.seen.length+1:Nat))) :
  lI ρ n tr wb pb so T cs (.map (O r)) (bO w r (.map (es.push e) (c+1))) { s with seen:=s.seen++[i] }/\mD wb pb w (bO w r (.map (es.push e) (c+1))):=by
 have j:mD wb pb w (bO w r (.map (es.push e) (c+1))):=⟨J,J,J,yH,fun b o d hm=>by
  by_cases k:b=r
  .subst k;rw[m] at d;injection d with d;exact absurd (.inr (.inr ⟨hr,.inr ⟨_,_,d.symm⟩⟩)) hm
  exact yH⟩
 have p:=bg m;refine⟨⟨h.st.bH (h.kv hx j),?_,?_,?_,h.Xe hx j,?_⟩,j⟩
 .obtain⟨q,buf,b1,b2,l⟩:=h.bu;refine⟨q,buf,b1,yH,l.1,?_⟩;rcases l.2 with l | ⟨g,cap,cur,t,u,B,x⟩
  .exact yH
  .refine .inr ⟨g,cap,cur,t,u,?_,x⟩;exact yH
 .refine .inr ⟨r,c+1,_,J,hr,pS J p,?_⟩;grind [Array.toList_push,ank,anj]
 .rw[iY]
  .exact h.fu
  .rintro rfl;have:=h.fu;grind
 .intro a f;simp only[List.mem_append,aZU,List.not_mem_nil,or_false] at f;rcases f with f | rfl
  .exact h.sn a f
  omega
def lI.names{T:Nat}{s:Ws}(h:lI ρ n tr wb pb so T cs (.map V) w s)(hx:xD tr wb pb so T cs)(d:s.seen=[])
  (e:tv = aq V\/tv=pp wb) (f:w.heap[wb]?=aM #[tv,buf,pq pb so,.map V] 103) (g:w.ownsRow (wb+1) 5 1 buf s.out.length (tX s.out))
 (a:w'=bO (w.alloc (.map #[] 0)) wb (ae #[tv,buf,pq pb so,.map (O w.heap.size)] 103)) :
  lI ρ n tr wb pb so T cs (.map (O w.heap.size)) w' s/\mD wb pb w w'/\wb<w.heap.size/\w'.heap[w.heap.size]?=O (.map #[] 0):=by
 subst a;have lb:=bg f;have i:=bg h.fu;have j:=hx.ne;have b:mD wb pb w (bO (w.alloc (.map #[] 0)) wb (ae #[tv,buf,pq pb so,.map (O w.heap.size)] 103)):=((bB.refl _ _).alloc _).bO (.inl fun _=>.inl J);have c:(bO (w.alloc (.map #[] 0)) wb (ae #[tv,buf,pq pb so,.map (O w.heap.size)] 103)).heap[w.heap.size]?=O (.map #[] 0):=by
  exact yH
 refine⟨⟨h.st.bH (h.kv hx b),?_,?_,?_,h.Xe hx b,h.sn⟩,b,lb,c⟩
 .exact⟨tv,buf,e,yH,(by grind [JC,World.ownsRow.alloc])⟩
 .exact .inr ⟨_,_,_,J,lb,c,by rw[d];rfl⟩
 grind [iY,LQ,fu]
def aIM(ih:CW f){T:Nat}{s:Ws}{least:Nat}{r:Option Ws}(hx:xD tr wb pb so T cs)(hs:GC ρ n tr wb pb so T cs w s)(hv:dM ρ n w v t)(dx:er t)
  (hB:s.cU<=900000100) (Am:s.seen.length<=s.out.length) (hr:lE tr (f+1) t least s=O r):Calls a9B 31 #[pp wb,v,zi least] w (Ba ρ n tr wb pb so T cs w s.cU r):=by
 obtain⟨nm,h⟩:=hs;obtain⟨ad,buf,Gz,hb,dR⟩:=id h.bu;have lb:=bg hb;have Cd:s.cU=s.out.length+60*s.fuel:=rfl;rw[lE] at hr;refine aIm ?_;refine cH hb ?_;refine(am9 h.fu hx.sz zg).mono ?_;rintro e w1 ⟨he,y⟩;by_cases M:s.fuel=0
 .rw[zip M] at hr;cases hr;rw[zip zo] at he;subst he;simp only[ends,PC];have o:mD wb pb w w1:=by rw[y];exact(bB.refl _ _).bO (.inl fun _=>.inr (.inl J))
  refine⟨o,J,?_,nm,s.out,?_,zo⟩
  .rw[y,pS J (bg h.fu),M];rfl
  .rw[y];exact h.bu.other hx.ne h.fu hx.T1 _
 .rw[bZ M] at hr;rw[bZ zo] at he;subst he;have g:=h.fuel hx (s.fuel-1);rw[show((s.fuel-1:Nat):Int)=(s.fuel:Int)-1 by omega,<- y] at g;have o:mD wb pb w w1:=by rw[y];exact(bB.refl _ _).bO (.inl fun _=>.inr (.inl J))
  clear y;refine bE ?_;cases hw:fG tr f t with
  | none=>rw[hw] at hr;cases hr
  | some t'=>
  rw[hw] at hr;refine(GB g.st (hv.bH (h.kv hx o).toT) hw).mono ?_;rintro e w2 ⟨rfl,u,rfl,hu⟩;have p:=vR hx.tok dx hw;obtain⟨ad1,aUP,N,B,xh⟩:=id g.bu;cases t' with
  | atom a=>
   unfold dI at hu;subst hu;unfold er at p;refine bE ?_;refine(GD g hx a zg).mono ?_;rintro e w3 ⟨⟨v3,rfl⟩,C,dU⟩;refine bE ?_;cases hr;exact⟨o.trans dU,J,_,C⟩
  | int a=>
   unfold dI at hu;subst hu;unfold er at p;refine bE ?_;refine⟨fun _=>True,trivial,?_⟩;refine bE ?_;refine cO (pp wb) (fun w' _=>eR) ?_;refine(ane a p.1 p.2 _ (g.ext yF).Xc).mono ?_;rintro e w3 ⟨rfl,D⟩;have C:=g.ext (((bB.refl _ _).drew).trans D);refine⟨trivial,?_⟩;have hl:=anf a p.1 p.2;refine(GD C hx _ zg).mono ?_;rintro e w4 ⟨⟨v3,rfl⟩,E,P⟩;refine bE ?_;cases hr;exact⟨(o.trans (bB.toM (((bB.refl _ _).drew).trans D))).trans P,J,_,E⟩
  | var i=>
   unfold dI at hu;obtain⟨K,rfl⟩:=hu;refine cH B ?_;obtain⟨s1,dX⟩:∃ s1:Ws,s1={ s with fuel:=s.fuel-1 }:=⟨_,J⟩;have F:s1.out=s.out:=zg;have fI:s1.seen=s.seen:=zg;rw[<- dX] at g hr;have S1:∀ (k:Nat) (z:Y) (s2:Ws) (w':Z) (x:Y),x=zi (k:Int)->k<=1000000000->lI ρ n tr wb pb so T cs z w' s2->mD wb pb w2 w'->s2.out=s.out->r=O (s2.add (95::ff k)) ->
     Pr (HD fun q=>q w'.drew/\NC (pp wb) fun Q=>uy a9B (Instr.fieldAt 103 Q 0) q (fun R=>
      CA a9B 64 #[x] w'.drew (fun S2 S=>q S/\RD a9B (bo .add 9 (.const (aT [95])) (.tmp 75) (aT [95]) S2) S (fun U=>
       CA a9B 44 #[R,U] S (fun x77 MZ=>Ba ρ n tr wb pb so T cs w s.cU r (ah (ak #[])) MZ) (Lv (Ba ρ n tr wb pb so T cs w s.cU r))) NX) (Lv (Ba ρ n tr wb pb so T cs w s.cU r)))):=by
    intro k z s2 w' x W hk L X ho2 iz;subst W;refine⟨fun _=>True,trivial,?_⟩;refine toPr ?_;refine bE ?_;refine cO (pp wb) (fun w' _=>eR) ?_;refine(Ko k zo zo _ (L.ext yF).Xc).mono ?_;rintro e w3 ⟨rfl,D⟩;have C:=L.ext (((bB.refl _ _).drew).trans D);refine⟨trivial,?_⟩;have e1:kO (k:Int)=ff k:=by
     unfold kO;grind
    have hl:=anf k zo zo;rw[e1] at hl ⊢;have Kt:s2.out.length=s.out.length:=zg;rw[ya _ _ zg];refine(GD C hx _ zg).mono ?_;rintro e w4 ⟨⟨v3,rfl⟩,E,P⟩;rw[iz];exact⟨((o.trans X).trans (bB.toM (((bB.refl _ _).drew).trans D))).trans P,J,_,E⟩
   rw[aIK g.st g.na g.sn K,fI];have hlen:s.out.length<=900000100:=zo;cases hk:s.seen.idxOf? i with
   | some k=>
    have sJ:k<s.seen.length:=(List.idxOf?_eq_some_iff.1 hk).1;refine bE ?_;refine⟨fun x w'=>w'=w2/\x 9=zi ((k+1:Nat):Int),eR,?_⟩;rintro x w' ⟨rfl,wi⟩ d;refine S1 (k+1) nm s1 w' _ wi zo g (bB.refl _ _) F ?_;grind [Wr,aZG]
   | none=>
    refine bE ?_;refine⟨fun x w'=>x 9=zi ((s.seen.length+1:Nat):Int)/\(∃ z,lI ρ n tr wb pb so T cs z w' { s1 with seen:=s1.seen++[i] })/\mD wb pb w2 w',?_,?_⟩
    .refine bE ?_;refine⟨fun _ w'=>∃ r c es,lI ρ n tr wb pb so T cs (.map (O r)) w' s1/\wb<r/\w'.heap[r]?=O (.map es c)/\Er (Al ρ s1.seen 0) es.toList/\mD wb pb w2 w',?_,?_⟩
     .rcases id g.na with⟨g0,rfl⟩| ⟨r',c,es,rfl,g1,g2,g3⟩
      .have Xi:=bg B;refine cH B ?_;obtain⟨m,k2,H,I⟩:=g.names hx g0 N B zg J;exact⟨_,_,_,m,H,I,by rw[g0];rfl,k2⟩
      .refine cH B ?_;grind [bB.refl]
     .rintro _ w' ⟨r',c,es,m,k2,H,I,k5⟩ d;obtain⟨ad2,aUT,aUU,fh,rQ⟩:=id m.bu;have hes:es.size=s.seen.length:=by
       have:=ani I;grind [anh]
      have iH:s.seen.length<=1000000000:=zo;refine cH fh ?_;rw[aIq (k:=87) (e:=3) zk H,hes];refine cH fh ?_;obtain⟨ref,hbi,-⟩:=m.st.var i K;have lM:Hn (ρ i) (Al ρ s1.seen 0) 0=none:=by
       rw[adr m.st.inj K s1.seen 0 0 m.sn,fI,hk];rfl
      rw[awi (k:=87) (e:=3) zk zk H I (fun c v hc=>?_) hbi lM]
      .obtain⟨m1,m2⟩:=m.name hx k2 H I K (e:={ key:=pp (ρ i),val:=zi ((s.seen.length:Int)+1),born:=c }) J zg;refine⟨?_,⟨_,m1⟩,k5.trans m2⟩;simp only[jd,if_true];grind [Ov]
      .obtain⟨j,E,rfl⟩:=adq hc;obtain⟨ref,h5,-⟩:=m.st.var j (m.sn j E);exact yH
    .rintro x w' ⟨wi,⟨z,L⟩,X⟩ d;refine S1 (s.seen.length+1) z _ w' _ wi zo L X F ?_;grind [Wr,aZG,Ws.add]
  | comp name l=>
   have hu':=hu;unfold dI at hu;obtain⟨b,av,vs,rfl,-⟩:=hu;refine bE ?_;refine(ih.comp (s:={ s with fuel:=s.fuel-1 }) (least:=least) hx ⟨_,g⟩ hu' p (by grind [Ws.cU]) Am hr).mono ?_;rintro e w3 hp;have Hq:=hp.of (B':=s.cU) o (by simp only[Ws.cU];omega);cases r with
   | none=>
    obtain⟨g1,rfl,g2⟩:=Hq;refine bE ?_;exact⟨g1,J,g2⟩
   | some s'=>
    obtain⟨g1,rfl,g2⟩:=Hq;refine bE ?_;exact⟨g1,J,g2⟩
def E3{name:Bs}{args:List Tm}(h:dM ρ n w (aj 175 (pp b)) (.comp name args)) :
  ∃ a cap,w.heap[b]?=aM #[aT name,.slice a args.length cap] 180 /\
   ∀ (j:Nat) (c:j<args.length),∃ ab cs v,a=O ⟨ab,0,V⟩/\w.heap[ab]?=aM cs 89/\cs[j]?=O v/\dM ρ n w v args[j]:=by
 unfold dM dI at h;obtain⟨g,av,vs,e,-,i,f,d⟩:=h;cases e;have k:=d.length;rcases f with⟨rfl,rfl⟩| ⟨ab,cs,rfl,-,g2,g3,g4⟩
 .exact yH
 .refine⟨O ⟨ab,0,V⟩,cs.size,yH,fun j c=>?_⟩;obtain⟨v,l,m⟩:=iE.at j c d;exact yH
theorem IB:∀ {l:List Tm} {j:Nat},jr l->(a:j<l.length)->er l[j]
 | t::b,0,h,_=>by unfold jr at h;exact h.1
 | t::b,j+1,h,a=>by unfold jr at h;exact IB h.2 zg
abbrev adE(wb:Nat):Deferred:={ target:=.fn (.func 95) #[],args:=#[pp wb,.int .u8 41] }
def aIS(h:sd w wb S nm out)(a:out.length+1<=1000000000)
  (hk:∀ w',sd w' wb S nm (out++[41])->jE wb w w'->res w'):LV a9B res R [adE wb] .returning w:=by
 refine BD zk zs (Sx.CallsD.mono (am3 h 41 a) ?_);rintro e d w' ⟨rfl,⟨v,rfl⟩,b,c⟩;exact hk w' b c
def aIT(h:sd w wb S nm out)(a:out.length+1<=1000000000)
  (hk:∀ w',sd w' wb S nm (out++[41])->jE wb w w'->R MR w'):LV a9B res R [adE wb] (.panicking [{ v:=aj 134 (.agg #[]),recovered:=false }]) w:=by
 refine BD zk zs (Sx.CallsD.mono (am3 h 41 a) ?_);rintro e d w' ⟨rfl,⟨v,rfl⟩,b,c⟩;exact hk w' b c
def anp{T:Nat}(hx:xD tr wb pb so T cs)(h:Ba ρ n tr wb pb so T cs w B V MR w3)(d:B+1<=B')(b:B'<=1000000000) :
  LV a9B res (Ba ρ n tr wb pb so T cs w B' V) [adE wb] (.panicking [{ v:=aj 134 (.agg #[]),recovered:=false }]) w3:=by
 obtain⟨g1,-,g2,nm,out,g3,g4⟩:=h;refine aIT g3 zo fun w' c a=>?_;refine⟨g1.trans (a.toW pb),J,?_,nm,_,c,zg⟩;refine a.block _ _ g2 ?_;rintro (h | ⟨_,_,_,h⟩)
 .exact hx.ne h
 .injection h with _ h _;exact hx.T1 h
def aIU(ih:∀ g,g<=f->CW g){T:Nat}{s:Ws}{name:Bs}{args:List Tm}{least:Nat}{r:Option Ws}(hx:xD tr wb pb so T cs)(hs:GC ρ n tr wb pb so T cs w s)
  (hu:dM ρ n w (aj 175 (pp b)) (.comp name args)) (dx:er (.comp name args))
  (hB:s.cU<=900000100-60) (E:s.seen.length<=s.out.length) (hr:B8 tr (f+1) name args least s=O r) :
  Calls a9B 65 #[pp wb,pp b,zi least] w (Ba ρ n tr wb pb so T cs w (s.cU+30) r):=by
 obtain⟨nm,h⟩:=hs;obtain⟨ad,buf,Gz,hb,dR⟩:=id h.bu;have lb:=bg hb;have Cd:s.cU=s.out.length+60*s.fuel:=rfl;obtain⟨ao,cap,F,IC⟩:=E3 hu;have uU:=dx;unfold er at uU;obtain⟨aUV,Gm,R⟩:=uU;rw[B8.eq_def] at hr;dsimp only at hr;have C:Ext w w.drew:=yF;have hd:=h.ext C;refine aIo ?_;refine cH F ?_;refine(ana name args.length _).mono ?_;rintro e w1 ⟨rfl,rfl⟩;by_cases hp:kP name args.length=0
 .have Hq:¬ (0:Int)<((kP name args.length:Nat):Int):=zo;refine bE ?_;refine⟨fun x w'=>w'=w.drew/\x 101 = .bool (decide (name=[46]/\args.length=2)),?_,?_⟩
  .by_cases hn:name=[46]
   .refine du F hn ?_;simp [jd];omega
   .refine du F hn ?_;grind
  .rintro x w' ⟨rfl,aIV⟩ d;rw[aIV];by_cases hl:name=[46]/\args.length=2
   .rw[FL _ _ hl];obtain⟨x0,p,rfl⟩:∃ x0 p,args=[x0,p]:=by
     match args,hl.2 with
     | [x0,p],_=>grind
    have fc:kP name 2=0:=hp;simp only[fc,ne_eq,not_true_eq_false,if_false,zip hl.1] at hr;refine aZJ ((ih f (aZK _)).list hx ⟨_,hd⟩ (hu.bH (qL.dZ C)) dx hB E hr) ?_;rintro e w2 gH;have jP:=gH.of (B':=s.cU+30) (bB.toM (M:=MW wb pb) C) (aZK _);cases r with
    | none=>
     obtain⟨g1,rfl,g2⟩:=jP;exact⟨g1,J,g2⟩
    | some s'=>
     obtain⟨g1,rfl,g2⟩:=jP;exact⟨g1,J,g2⟩
   .rw[FM _ _ hl];have lL:Wb (uN tr f 40 args (s.add name)) (fun s=>O (O (s.add [41])))=O r:=by
     grind
    have DS:Ext w w.drew.drew:=C.drew;have xe:=h.ext DS;refine cH F ?_;refine(GD xe hx name zo).mono ?_;rintro e w2 ⟨⟨v2,rfl⟩,H,eV⟩;have S:mD wb pb w w2:=(bB.toM (M:=MW wb pb) DS).trans eV;have Ku:=(h.kv hx S) _ _ _ (.inl J) F;refine cH Ku ?_;refine⟨fun m x w'=>∃ j o DR,x 32=zi (j:Nat)/\j<=args.length/\m=args.length-j/\lI ρ n tr wb pb so T cs DR w' o/\mD wb pb w w' /\
     (∃ g,g<=f/\Wb (uN tr g (if j=0 then 40 else 44) (args.drop j) o) (fun s=>O (O (s.add [41])))=O r)/\o.cU<=s.cU+20/\o.seen.length<=o.out.length,
     ⟨_,0,_,nm,J,aZY _,J,H,S,zg,by grind [Ws.oM],ow E⟩,?_⟩
    intro m x3 d3 w3 hI;refine toPr ?_;obtain⟨j,o,DR,Ck,hj,rfl,q,t,⟨g,hg,l⟩,ans,Kv⟩:=hI;have ant:o.cU=o.out.length+60*o.fuel:=rfl;obtain⟨ad3,aIX,aIY,eK,Mb⟩:=id q.bu;have M0:=hu.bH (h.kv hx t).toT;by_cases hlt:j<args.length
    .obtain⟨ao3,U,Kw,aIZ⟩:=E3 M0;have aI0:=(h.kv hx t) _ _ _ (.inl J) F;rw[aI0] at Kw;simp only[aZG,Obj.cells.injEq,and_true,Array.mk.injEq,List.cons.injEq,Value.slice.injEq,true_and] at Kw;obtain⟨rfl,rfl⟩:=Kw;obtain⟨ab,S5,v3,rfl,mM,ID,DT⟩:=aIZ j hlt;rw[aZP hlt] at l;cases g with
     | zero=>simp [uN,Wb] at l
     | succ g=>
     rw[uN] at l;have DQ:((j:Nat):Int).toNat=j:=zo;have aI1:(if (1:Int)<((j:Nat):Int) then(1:Int) else((j:Nat):Int))=if j=0 then 0 else 1:=by
      omega
     refine dH @aiz Ck mM (zA ID aI1) ?_;obtain⟨sep,aI2⟩:∃ sep:UInt8,sep=if j=0 then 40 else 44:=⟨_,J⟩
     rw[<- aI2] at l;have M1:((List.getD [(40:UInt8),44] (Int.toNat (if j=0 then 0 else 1)) 0).toNat:Int)=sep.toNat:=by
      grind
     refine aZJ (MT (q.ext yF) hx sep zo M1) ?_;rintro e u ⟨⟨v4,rfl⟩,i,c⟩;have Xj:mD wb pb w u:=(t.trans (bB.drew (bB.refl _ _))).trans c;have vf:=DT.bH (q.kv hx ((bB.drew (bB.refl _ _)).trans c)).toT;have IE:er args[j]:=IB R hlt;have W:(o.add [sep]).cU=o.cU+1:=Ws.oM ..;cases a:lE tr g args[j] 0 (o.add [sep]) with
     | none=>simp [a,Wb] at l
     | some X=>
     refine bE ?_;refine aZJ ((ih g zo).tm (least:=0) hx ⟨_,i⟩ vf IE zo (ow Kv) a) ?_;rintro e w5 I;cases X with
     | none=>
      simp only[a,Wb,aZG] at l;subst l;have B:=I.of (B':=s.cU+30) Xj zo;obtain⟨g1,rfl,g2⟩:=B;exact⟨g1,J,g2⟩
     | some K=>
      obtain⟨g1,rfl,M3,g2⟩:=I;obtain⟨l1,L⟩:=(J8 hx.tok g).tm _ _ _ _ IE zo (ow Kv) a;simp only[a] at l;refine cH Ck ?_;refine⟨_,zo,j+1,K,M3,zg,zo,J,g2,Xj.trans g1,⟨g,zo,?_⟩,zo,L⟩;rw[bZ zo];exact l
    .have hdj:args.drop j=[]:=zg;rw[hdj] at l;cases g with
     | zero=>simp [uN,Wb] at l
     | succ g=>
     simp only[uN,Wb,aZG] at l;subst l;refine cH Ck ?_;refine(MT q hx 41 zo J).mono ?_;rintro e u ⟨⟨v4,rfl⟩,i,c⟩;exact⟨t.trans c,J,_,i⟩
 .have Hq:(0:Int)<((kP name args.length:Nat):Int):=zo;obtain⟨x0,p,rfl⟩:∃ x0 p,args=[x0,p]:=by
   have H:args.length=2:=by
    by_cases H:args.length=2
    .omega
    .exact absurd (by unfold kP;grind) hp
   match args,H with
   | [x0,p],_=>grind
  have fc:kP name [x0,p].length=kP name 2:=rfl;rw[fc] at hp Hq ⊢;have gH:kP name 2<=2:=by
   grind [kP]
  obtain⟨oH,IF⟩:=MF R;dsimp only at hr;rw[zip hp] at hr;obtain⟨op,wT⟩:∃ op:Bs,op=if name=[109,111,100] then [32,109,111,100,32] else name:=⟨_,J⟩
  have Xk:op.length<=20:=zg;rw[<- wT] at hr;have N:∀ w',mD wb pb w w'->∃ ab cap yN u0 u1,w'.heap[b]?=aM #[aT name,cR ab 2 cap] 180/\w'.heap[ab]?=aM yN 89/\yN[0]?=O u0/\yN[1]?=O u1/\dM ρ n w' u0 x0/\dM ρ n w' u1 p:=by
   intro w' hf;obtain⟨ao,cap,k1,P⟩:=E3 (hu.bH (h.kv hx hf).toT);obtain⟨ab,yN,u0,rfl,k3,k4,k5⟩:=P 0 zs;obtain⟨Kx,yO,u1,e,k6,k7,k8⟩:=P 1 zs;exact yH
  by_cases jS:kP name 2<least
  .rw[zip jS] at hr;refine bE ?_;refine(MT hd hx 40 zo J).mono ?_;rintro e w2 ⟨⟨v2,rfl⟩,H,eV⟩;have S:mD wb pb w w2:=(bB.toM (M:=MW wb pb) C).trans eV;obtain⟨ab,F5,E5,u0,u1,k1,P,k3,k4,k5,k6⟩:=N w2 S;refine iZ @k1 @P @k3 ?_;cases a:lE tr f x0 (kP name 2) (s.add [40]) with
   | none=>simp [a,Wb] at hr
   | some X=>
   have aUY:(s.add [40]).cU=s.cU+1:=Ws.oM ..;refine aZJ ((ih f (aZK _)).tm hx ⟨_,H⟩ k5 oH zo (ow E) a) ?_;rintro e w3 I;have B:=I.of (B':=s.cU+1) S zo;cases X with
   | none=>
    simp only[a,Wb,aZG] at hr;subst hr;obtain rfl:=B.2.1;exact anp hx B zo zo
   | some k=>
    obtain⟨t,rfl,D,q⟩:=B;obtain⟨l1,L⟩:=(J8 hx.tok f).tm _ _ _ _ oH zo (ow E) a;simp only[a] at hr;obtain⟨ab3,U,S5,u03,vI,q1,q2,q3,q4,q5,q6⟩:=N w3 t;have aI6:k.cU=k.out.length+60*k.fuel:=rfl;refine bE ?_;refine⟨fun _ w'=>lI ρ n tr wb pb so T cs D w' (k.add op)/\mD wb pb w3 w',?_,?_⟩
    .by_cases y:name=[109,111,100]
     .refine du @q1 y ?_;rw[wT,zip y] at Xk ⊢;refine(GD q hx _ zo).mono ?_;rintro e u ⟨⟨v4,rfl⟩,i,c⟩;exact⟨i,c⟩
     .refine du @q1 y ?_;rw[wT,bZ y] at Xk ⊢;have S6:Ext w3 w3.drew:=yF;refine(GD (q.ext S6) hx _ zo).mono ?_;rintro e u ⟨⟨v4,rfl⟩,i,c⟩;exact⟨i,(bB.toM S6).trans c⟩
    .rintro _ u ⟨i,c⟩ d4;have S7:=t.trans c;obtain⟨ab4,aI8,cs4,u04,vJ,q1,q2,q3,q4,q5,q6⟩:=N u S7;have yP:((kP name 2:Nat):Int)+1=((kP name 2+1:Nat):Int):=zo;refine dH @q1 @q2 @q4 yP ?_;have W:(k.add op).cU=k.cU+op.length:=Ws.oM ..;cases z:lE tr f p (kP name 2+1) (k.add op) with
     | none=>simp [z,Wb] at hr
     | some r2=>
     refine aZJ ((ih f (aZK _)).tm hx ⟨_,i⟩ q6 IF zo (ow L) z) ?_;rintro e w5 lD;have Q:=lD.of (B':=s.cU+1) S7 zo;cases r2 with
     | none=>
      simp only[z,Wb,aZG] at hr;subst hr;obtain rfl:=Q.2.1;exact anp hx Q zo zo
     | some K=>
      obtain⟨iP,rfl,M3,h5⟩:=Q;obtain⟨l3,l4⟩:=(J8 hx.tok f).tm _ _ _ _ IF zo (ow L) z;simp only[z,Wb,aZG] at hr;subst hr;have aJa:K.cU=K.out.length+60*K.fuel:=rfl;refine aIS h5.bu zo fun w6 hb6 Cm=>?_;exact⟨iP.trans (Cm.toW pb),J,M3,(by grind [lI.wr])⟩
  .rw[bZ jS] at hr;obtain⟨ab,F5,E5,u0,u1,k1,P,k3,k4,k5,k6⟩:=N w.drew (bB.toM C);refine iZ @k1 @P @k3 ?_;cases a:lE tr f x0 (kP name 2) s with
   | none=>simp [a,Wb] at hr
   | some X=>
   refine aZJ ((ih f (aZK _)).tm hx ⟨_,hd⟩ k5 oH zo E a) ?_;rintro e w3 I;have B:=I.of (B':=s.cU+1) (bB.toM (M:=MW wb pb) C) zo;cases X with
   | none=>
    simp only[a,Wb,aZG] at hr;subst hr;have lD:=B.of (B':=s.cU+30) (bB.refl _ _) zo;obtain⟨g1,rfl,g2⟩:=lD;exact⟨g1,J,g2⟩
   | some k=>
    obtain⟨t,rfl,D,q⟩:=B;obtain⟨l1,L⟩:=(J8 hx.tok f).tm _ _ _ _ oH zo E a;simp only[a] at hr;obtain⟨ab3,U,S5,u03,vI,q1,q2,q3,q4,q5,q6⟩:=N w3 t;have aI6:k.cU=k.out.length+60*k.fuel:=rfl;refine bE ?_;refine⟨fun _ w'=>lI ρ n tr wb pb so T cs D w' (k.add op)/\mD wb pb w3 w',?_,?_⟩
    .by_cases y:name=[109,111,100]
     .refine du @q1 y ?_;rw[wT,zip y] at Xk ⊢;refine(GD q hx _ zo).mono ?_;rintro e u ⟨⟨v4,rfl⟩,i,c⟩;exact⟨i,c⟩
     .refine du @q1 y ?_;rw[wT,bZ y] at Xk ⊢;have S6:Ext w3 w3.drew:=yF;refine(GD (q.ext S6) hx _ zo).mono ?_;rintro e u ⟨⟨v4,rfl⟩,i,c⟩;exact⟨i,(bB.toM S6).trans c⟩
    .rintro _ u ⟨i,c⟩ d4;have S7:=t.trans c;obtain⟨ab4,aI8,cs4,u04,vJ,q1,q2,q3,q4,q5,q6⟩:=N u S7;have yP:((kP name 2:Nat):Int)+1=((kP name 2+1:Nat):Int):=zo;refine dH @q1 @q2 @q4 yP ?_;have W:(k.add op).cU=k.cU+op.length:=Ws.oM ..;cases z:lE tr f p (kP name 2+1) (k.add op) with
     | none=>simp [z,Wb] at hr
     | some r2=>
     simp only[z,Wb,aZG] at hr;refine aZJ ((ih f (aZK _)).tm hx ⟨_,i⟩ q6 IF zo (ow L) z) ?_;rintro e w5 lD;have Q:=lD.of (B':=s.cU+30) S7 zo;subst hr;cases r2 with
     | none=>
      obtain⟨g1,rfl,g2⟩:=Q;exact⟨g1,J,g2⟩
     | some K=>
      obtain⟨g1,rfl,g2⟩:=Q;exact⟨g1,J,g2⟩
section
variable{D:Nat->Prop}{ρ:Nat->Nat}{n sb so T:Nat}{cs:Array Y}
def aJb(Q:uZ so T cs)(F:i<n):∀ (f:Nat) {tv v:Y} {w:Z} {s:Sr} {t:Tm} {r:Except jB (Bool×Sr)},gQ D ρ n sb so T cs tv w s->dM ρ n w v t->er t->s.fuel<=1000000000->yA f i t s=O r ->
  Calls a9B 221 #[pq sb so,pp (ρ i),v] w (EPost D w (wh D ρ n sb so T cs) r):=by
 intro f;induction f using Nat.strongRecOn with
 | _ f ih=>
 intro tv v w s t r h hv R H hr;cases f with
 | zero=>simp [yA] at hr
 | succ f=>
 rw[yA] at hr;refine aIu ?_;refine(MU h Q H).mono ?_;rintro e w1 ⟨l,c⟩;by_cases I:s.fuel=0
 .rw[zip I] at hr c;injection hr with hr;subst hr c;simp only[ends,PC];exact⟨l,J⟩
 rw[bZ I] at hr c;obtain⟨rfl,c⟩:=c;have S:=hv.bH l.toT;refine bE ?_;cases hw:fG s.tr f t with
 | none=>rw[hw] at hr;cases hr
 | some U=>
 rw[hw] at hr;refine aZJ (GB c.sv S (f:=f) (by exact hw)) ?_;rintro e w2 ⟨rfl,u,rfl,hu⟩;have W:=vR h.ok R hw;cases U with
 | atom a=>
  unfold dI at hu;subst hu;cases hr;refine bE ?_;exact⟨l,J,_,c⟩
 | int a=>
  unfold dI at hu;subst hu;cases hr;refine bE ?_;exact⟨l,J,_,c⟩
 | var j=>
  unfold dI at hu;obtain⟨z,rfl⟩:=hu;cases hr;obtain⟨ref,g1,-⟩:=c.sv.var j z;obtain⟨Xh,g2,-⟩:=c.sv.var i F;refine bE ?_;rw[awe zk g1 g2];refine⟨l,?_,_,c⟩;simp only[Ending.returned.injEq,Value.bool.injEq,decide_eq_decide];exact⟨fun e=>c.sv.inj _ _ z F e,zg⟩
 | comp name args=>
  obtain⟨b,av,vs,rfl,-,-⟩:=by unfold dI at hu;exact hu
  obtain⟨ao,cap,X,IC⟩:=E3 hu;unfold er at W;refine cH X ?_;refine⟨fun m x w'=>∃ j o K,x 29=zi (j:Nat)/\j<=args.length/\m=args.length-j/\gQ D ρ n sb so T cs K w' o/\dc D w2 w'/\o.fuel<=1000000000/\(∃ g,g<=f/\Ad g i (args.drop j) o=O r),
   ⟨_,0,_,_,J,aZY _,J,c,yF,aZL (Nat.sub_le _ _) H,f,aZK _,hr⟩,?_⟩
  intro m x d w3 hI;refine toPr ?_;obtain⟨j,o,K,hx,z,rfl,L,M,EA,g,hg,k⟩:=hI;cases g with
  | zero=>simp [Ad] at k
  | succ g=>
  by_cases hlt:j<args.length
  .rw[aZP hlt,Ad] at k;obtain⟨ab,S5,v3,rfl,mM,ID,DT⟩:=IC j hlt;have B:=M.bH (by unfold kT;decide) mM;have C:=DT.bH M.toT;have ej:((j:Nat):Int).toNat=j:=zo;refine dH hx @ej B ID ?_;cases q:yA g i args[j] o with
   | none=>rw[q] at k;cases k
   | some r1=>
   refine aZJ (ih g zo L C (by grind [IB]) EA q) ?_;rintro e w4 ⟨gW,y⟩;rw[q] at k;cases r1 with
   | error t=>
    cases k;have y:e=gR t:=y;subst y;cases t<;>exact⟨yF,J⟩
   | ok p=>
    obtain⟨b1,s4⟩:=p;obtain⟨rfl,E,N⟩:=y;simp only[P.Out.ee] at k;have hfu:=((Ip g).tm q).2;cases b1 with
    | true=>
     cases k;refine bE ?_;exact⟨yF,J,_,N⟩
    | false=>
     refine cH hx ?_;refine⟨_,zo,j+1,s4,E,zs,zo,J,N,yF,?_,g,zo,zg⟩;grind
  .have DQ:j=args.length:=zo;subst DQ;rw[a0y,Ad] at k;cases k;refine cH hx ?_;exact⟨yF,J,_,L⟩
def aJf(g:uZ so T cs)(j:i<n){s:Sr}{r:Except jB (Bool×Sr)}(h:gQ D ρ n sb so T cs tv w s)(hD:∀ b,w.heap.size<=b->D b)(hv:dM ρ n w v t)(k:er t)(o:s.fuel<=1000000000)
  (y:i ∉ s.tr.map (·.1)) (z:s.tr.length<=900000000) (hr:sU f i t s=O r) :
  Calls a9B 216 #[pq sb so,pp (ρ i),v] w (EPost D w (wh D ρ n sb so T cs) r):=by
 refine aIv ?_;unfold sU at hr;cases a:yA f i t s with
 | none=>rw[a] at hr;cases hr
 | some q=>
 rw[a] at hr;refine aZJ (aJb g j f h hv k o a) ?_;rintro e w1 ⟨c,d⟩;cases q with
 | error t=>
  cases hr;have d:e=gR t:=d;subst d;cases t<;>exact⟨c,J⟩
 | ok p=>
  obtain⟨b1,s1⟩:=p;obtain⟨rfl,B,l⟩:=d;have m:=((Ip f).tm a).1;have m:s1.tr=s.tr:=m;simp only[P.Out.ee] at hr;cases b1 with
  | true=>
   cases hr;refine bE ?_;exact⟨c,J,_,l⟩
  | false=>
   cases hr;refine bE ?_;refine aZJ (anm l g (fun b u=>hD b (aZL c.size u)) j (by grind [P.Ps]) zg (hv.bH c.toT) k zg) ?_;rintro e w2 ⟨rfl,C,E,x⟩;refine bE ?_;exact⟨yF,J,_,x⟩
end
section
variable{D:Nat->Prop}{ρ:Nat->Nat}{n sb so T:Nat}{cs:Array Y}
def adK{a b:Tm}(g:DO ρ n tr w)(f:dM ρ n w u a)(c:dM ρ n w v b)(p:¬ (A6 a=A/\A6 b=A)){x:Operand} :
  RD a9B (bo .eql 89 x y u v) w K X=K (.bool (P.flat a b)):=by
 have d:yd a9B 89=true:=zk;cases a with
 | atom a=>
  unfold dM dI at f;subst f;cases b with
  | atom b=>
   unfold dM dI at c;subst c;rw[awb d zk zk];grind [decide,P.flat]
  | int b=>unfold dM dI at c;subst c;exact C2 d zg _ _
  | var b=>unfold dM dI at c;obtain⟨_,rfl⟩:=c;exact C2 d zg _ _
  | comp m l=>unfold dM dI at c;obtain⟨_,_,_,rfl,-⟩:=c;exact C2 d zg _ _
 | int a=>
  unfold dM dI at f;subst f;cases b with
  | atom b=>unfold dM dI at c;subst c;exact C2 d zg _ _
  | int b=>
   unfold dM dI at c;subst c;rw[awc d zk zk];grind [decide,P.flat]
  | var b=>unfold dM dI at c;obtain⟨_,rfl⟩:=c;exact C2 d zg _ _
  | comp m l=>unfold dM dI at c;obtain⟨_,_,_,rfl,-⟩:=c;exact C2 d zg _ _
 | var i=>
  unfold dM dI at f;obtain⟨k,rfl⟩:=f;cases b with
  | atom b=>unfold dM dI at c;subst c;exact C2 d zg _ _
  | int b=>unfold dM dI at c;subst c;exact C2 d zg _ _
  | var j=>
   unfold dM dI at c;obtain⟨o,rfl⟩:=c;obtain⟨r,g1,-⟩:=g.var i k;obtain⟨s,g2,-⟩:=g.var j o;rw[awd d zk zk g1 g2];have:decide (ρ i=ρ j)=P.flat (.var i) (.var j):=by
    rw[P.flat];by_cases h:i=j
    .subst h;simp
    .have q:ρ i≠ρ j:=fun e=>h (g.inj i j k o e);simp [h,q]
   rw[this]
  | comp m l=>unfold dM dI at c;obtain⟨_,_,_,rfl,-⟩:=c;exact C2 d zg _ _
 | comp m l=>
  unfold dM dI at f;obtain⟨_,_,_,rfl,-⟩:=f;cases b with
  | atom b=>unfold dM dI at c;subst c;exact C2 d zg _ _
  | int b=>unfold dM dI at c;subst c;exact C2 d zg _ _
  | var j=>unfold dM dI at c;obtain⟨_,rfl⟩:=c;exact C2 d zg _ _
  | comp m' l'=>exact absurd ⟨J,J⟩ p
theorem dI.other{a:Tm}(b:dM ρ n w u a)(c:P.isVar a=G)(d:A6 a=G):∃ ut x,u = aj ut x/\¬ ut=87/\¬ ut=175:=by
 cases a with
 | atom a=>unfold dM dI at b;grind
 | int a=>unfold dM dI at b;grind
 | var a=>cases c
 | comp a l=>cases d
def Pw(hf:uZ so T cs):∀ (f:Nat) {tv v u:Y} {w:Z} {s:Sr} {a b:Tm} {r:Except jB (Bool×Sr)},gQ D ρ n sb so T cs tv w s->(∀ b,w.heap.size<=b->D b)->dM ρ n w u a->er a->dM ρ n w v b->er b ->
  s.cU<=900000000->lz f a b s=O r ->
  Calls a9B 210 #[pq sb so,u,v] w (EPost D w (wh D ρ n sb so T cs) r):=by
 intro f;induction f using Nat.strongRecOn with
 | _ f ih=>
 intro tv v u w s a b r h hD ha IE N Px hz hr;have JF:s.tr.length+s.fuel<=900000000:=hz;cases f with
 | zero=>simp [lz] at hr
 | succ f=>
 rw[lz] at hr;refine aIw ?_;refine(MU h hf zo).mono ?_;rintro e w1 ⟨K,q⟩;by_cases h0:s.fuel=0
 .rw[zip h0] at hr q;injection hr with hr;subst hr q;simp only[ends,PC];exact⟨K,J⟩
 rw[bZ h0] at hr q;obtain⟨rfl,q⟩:=q;have AD:=ha.bH K.toT;have iS:=N.bH K.toT;have S8:∀ b,w1.heap.size<=b->D b:=fun b N=>hD b (aZL K.size N);have hdt:s.dec.tr=s.tr:=rfl;refine bE ?_;cases Q:fG s.tr f a with
 | none=>rw[Q] at hr;simp at hr
 | some a'=>
 cases W:fG s.tr f b with
 | none=>rw[Q,W] at hr;cases a'<;>simp at hr
 | some o=>
 rw[Q,W] at hr;refine aZJ (GB q.sv AD (f:=f) (by exact Q)) ?_;rintro e w2 ⟨rfl,ua,rfl,C⟩;refine bE ?_;refine aZJ (GB q.sv iS (f:=f) (by exact W)) ?_;rintro e w3 ⟨rfl,ub,rfl,E⟩;have Xm:=vR h.ok IE Q;have S9:=vR h.ok Px W;have Cc:∀ {i:Nat} {t:Tm} {x:Y} {w':Z},P.look i s.tr=V->i<n->dM ρ n w' x t->er t->gQ D ρ n sb so T cs tv w' s.dec->dc D w w'->sU f i t s.dec=O r ->
   Calls a9B 216 #[pq sb so,pp (ρ i),x] w' (EPost D w (wh D ρ n sb so T cs) r):=fun{i t x w'} hl hi hx dx hs hE F=>
  (aJf hf hi hs (fun b N=>hD b (aZL hE.size N)) hx dx (aZL (Nat.sub_le _ _) zo) (acC hl) zg F).mono fun e w' H=>H.of hE
 by_cases M:P.isVar a'=A
 .cases a' with
  | atom a=>cases M
  | int a=>cases M
  | comp a l=>cases M
  | var i=>
  have vZ:=Iq Q;unfold dM dI at C;obtain⟨hi,rfl⟩:=C;refine bE ?_;have Ks:dM ρ n w3 (aj 87 (pp (ρ i))) (.var i):=by unfold dM dI;grind
  rw[adK q.sv Ks E (by rintro ⟨h,_⟩;cases h)];by_cases z:P.isVar o=A
  .cases o with
   | atom a=>cases z
   | int a=>cases z
   | comp a l=>cases z
   | var j=>
   simp only[P.flat] at hr ⊢;by_cases nA:i=j
   .rw[zip nA] at hr;cases hr;have:(i == j)=true:=zg;refine cH @this ?_;exact⟨K,J,_,q⟩
   .rw[bZ nA] at hr;have:(i == j)=false:=zg;refine cH @this ?_;refine aZJ (Cc vZ hi E S9 q K hr) ?_;exact fun e I H=>H.SW
  .have ja:P.flat (.var i) o=false:=by cases o<;>first | rfl | exact absurd J z
   rw[ja];have hr:sU f i o s.dec=O r:=by
    grind
   refine bE ?_;refine aZJ (Cc vZ hi E S9 q K hr) ?_;exact fun e I H=>H.SW
 .have M:P.isVar a'=false:=zg;have aJg:∃ ut x,ua = aj ut x/\¬ ut=87:=by
   cases a' with
   | atom a=>unfold dM dI at C;grind
   | int a=>unfold dM dI at C;grind
   | var a=>cases M
   | comp a l=>unfold dM dI at C;grind
  obtain⟨ut,ux,rfl,X⟩:=aJg;by_cases z:P.isVar o=A
  .cases o with
   | atom a=>cases z
   | int a=>cases z
   | comp a l=>cases z
   | var j=>
   have vZ:=Iq W;unfold dM dI at E;obtain⟨hj,rfl⟩:=E;have hr:sU f j a' s.dec=O r:=by
    cases a' with
    | var j=>cases M
    | atom x=>omega
    | int x=>omega
    | comp x l=>omega
   refine cH X ?_;refine aZJ (Cc vZ hj C Xm q K hr) ?_;exact fun e I H=>H.SW
  have z:P.isVar o=false:=zg;have aJh:∃ vt x,ub = aj vt x/\¬ vt=87:=by
   cases o with
   | atom a=>unfold dM dI at E;grind
   | int a=>unfold dM dI at E;grind
   | var a=>cases z
   | comp a l=>unfold dM dI at E;grind
  obtain⟨vt,vx,rfl,Xo⟩:=aJh;by_cases qd:A6 a'=A/\A6 o=A
  .obtain⟨B,L⟩:=qd;cases a' with
   | atom a=>cases B
   | int a=>cases B
   | var a=>cases B
   | comp name l=>
   cases o with
   | atom a=>cases L
   | int a=>cases L
   | var a=>cases L
   | comp Cp l'=>
   simp only at hr;obtain⟨ba,ava,vsa,M4,-,-⟩:=by unfold dM dI at C;exact C
   obtain⟨bb,avb,vsb,KA,-,-⟩:=by unfold dM dI at E;exact E
   injection M4 with e1 e2;injection KA with e3 e4;subst e1 e2 e3 e4;obtain⟨ao,cap,B,adN⟩:=E3 C;obtain⟨bo',aJl,L,adO⟩:=E3 E;refine dH X Xo B L ?_;refine⟨fun x w'=>w'=w3,?_,?_⟩
   .refine⟨fun x w'=>w'=w3/\x 63 = .bool G,?_,?_⟩
    .exact eR
    .rintro x w' ⟨rfl,hx⟩ d;exact fa hx
   .rintro x w' rfl d;have Ta:=(bB.drew (bB.refl (fun _ _=>False) w')).block _ _ B (fun h=>h);have II:=(bB.drew (bB.refl (fun _ _=>False) w')).block _ _ L (fun h=>h);refine⟨fun x R=>Ext w' R/\name=Cp/\l.length=l'.length,?_,?_⟩
    .refine⟨fun x R=>Ext w' R/\x 88 = .bool (decide (¬ (name=Cp/\l.length=l'.length))),?_,?_⟩
     .by_cases hn:name=Cp
      .subst hn;refine du Ta II ?_;grind [bB.refl,Int.ofNat_inj,bB.drew]
      .refine du Ta II ?_;exact yF
     .rintro x R ⟨S,hx⟩ d2;by_cases xn:name=Cp/\l.length=l'.length
      .refine dH hx xn @not_true_eq_false @decide_false ?_;exact yF
      .rw[bZ xn] at hr;cases hr;refine dH hx xn @not_false_eq_true @decide_true ?_;exact⟨yF,J,_,q.ext S⟩
    .rintro x R ⟨S,rfl,tS⟩ d2;rw[zip ⟨J,tS⟩] at hr;have adP:=S.ext _ _ B;refine cH adP ?_;unfold er at Xm S9;refine⟨fun m x I=>∃ j sj E7,x 94=zi (j:Nat)/\j<=l.length/\m=l.length-j/\gQ D ρ n sb so T cs E7 I sj/\dc D R I/\sj.cU<=900000000/\(∃ g,g<=f/\mZ g (l.drop j) (l'.drop j) sj=O r),
      ⟨_,0,_,_,J,aZY _,J,q.ext S,yF,by grind [Sr.cU,Sr.dec],f,aZK _,hr⟩,?_⟩
     intro m x d I hI;refine toPr ?_;obtain⟨j,sj,E7,hx,hj,rfl,h4,gW,AM,g,hg,F⟩:=hI;have GG:dc D w I:=K.trans ((dc.dZ S).trans gW);cases g with
     | zero=>simp [mZ] at F
     | succ g=>
     by_cases hlt:j<l.length
     .have ql:j<l'.length:=zo;rw[aZP hlt,aZP ql,mZ] at F;obtain⟨ab,S5,v3,rfl,mM,ID,DT⟩:=adN j hlt;obtain⟨Kx,cs4,v4,rfl,adQ,adR,vf⟩:=adO j ql;have Tb:dc D w' I:=(dc.dZ S).trans gW;have si:dc D w' I.drew:=yF;have kt:∀ (b:Nat) (c:Array Y) (U:Nat),¬ kT U->w'.heap[b]?=aM c U->I.drew.heap[b]?=aM c U:=(by grind [dc.bH]);have q1:=kt _ _ _ (by grind [kT]) B;have q2:=kt _ _ _ (by grind [kT]) L;have q3:=kt _ _ _ (by grind [kT]) mM;have q4:=kt _ _ _ (by grind [kT]) adQ;have ej:((j:Nat):Int).toNat=j:=zo;refine dH hx @ej @q1 (zA @q2 (zA @q3 (zA @q4 (zA ID adR)))) ?_;cases fI:lz g l[j] l'[j] sj with
      | none=>rw[fI] at F;cases F
      | some r1=>
      have KB:dc D I I.drew:=dc.dZ (bB.drew yF);refine aZJ (ih g zo (h4.ext (bB.drew yF)) (fun b N=>hD b (aZL GG.size N)) (DT.bH si.toT) (by grind [IB]) (vf.bH si.toT) (by grind [IB]) AM fI) ?_;rintro e w5 ⟨ud,H⟩;rw[fI] at F;cases r1 with
      | error t=>
       cases F;have H:e=gR t:=H;subst H;cases t<;>exact⟨GG.trans yF,J⟩
      | ok p=>
       obtain⟨b1,s5⟩:=p;obtain⟨rfl,tv5,h5⟩:=H;simp only[P.Out.ee] at F;have Xp:=((EN g).tm fI).1;cases b1 with
       | false=>
        cases F;refine bE ?_;exact⟨GG.trans yF,J,_,h5⟩
       | true=>
        refine cH hx ?_;exact⟨_,zo,j+1,s5,tv5,zs,zo,J,h5,gW.trans yF,zg,g,zo,zg⟩
     .have DQ:j=l.length:=zo;subst DQ;rw[a0y,tS,a0y,mZ] at F
      .cases F;refine cH hx ?_;exact⟨GG,J,_,h4⟩
      grind
  .have hr:r = .ok (P.flat a' o,s.dec):=by
    cases a' with
    | var i=>cases M
    | atom x=>cases o with
     | var j=>cases z
     | atom y=>grind
     | int y=>grind
     | comp y l=>grind
    | int x=>cases o with
     | var j=>cases z
     | atom y=>grind
     | int y=>grind
     | comp y l=>grind
    | comp x k=>cases o with
     | var j=>cases z
     | atom y=>grind
     | int y=>grind
     | comp y l=>exact absurd ⟨J,J⟩ qd
   subst hr;have kK:∀ {x y:Operand},RD a9B (bo .eql 89 x y (aj ut ux) (aj vt vx)) w3 (fun v=>EPost D w (wh D ρ n sb so T cs) (.ok (P.flat a' o,s.dec)) (ah v) w3) (PX (EPost D w (wh D ρ n sb so T cs) (.ok (P.flat a' o,s.dec)))):=fun{x y}=>by
    rw[adK q.sv C E qd];exact⟨K,J,_,q⟩
   by_cases B:A6 a'=A
   .have L:A6 o=false:=by
     grind
    obtain⟨_,_,e0,-,IJ⟩:=E.other z L;cases e0;cases a' with
    | atom a=>cases B
    | int a=>cases B
    | var a=>cases B
    | comp name l=>
    obtain⟨ba,ava,vsa,M4,-,-⟩:=by unfold dM dI at C;exact C
    cases M4;refine iZ X Xo IJ ?_;refine⟨fun _ _=>False,?_,by rintro _ _ h;exact h.elim⟩;refine⟨fun x w'=>w'=w3/\x 63 = .bool A,?_,?_⟩
    .exact eR
    .rintro x w' ⟨rfl,hx⟩ d;refine cH hx ?_;exact kK
   .have B:A6 a'=false:=zg;obtain⟨_,_,e0,-,Tc⟩:=C.other M B;cases e0;by_cases IJ:vt=175
    .subst IJ;refine iZ X Xo Tc ?_;refine⟨fun _ _=>False,?_,by rintro _ _ h;exact h.elim⟩;refine⟨fun x w'=>w'=w3/\x 63 = .bool A,?_,?_⟩
     .exact eR
     .rintro x w' ⟨rfl,hx⟩ d;refine cH hx ?_;exact kK
    .refine dH X Xo Tc IJ ?_;refine⟨fun _ _=>False,?_,by rintro _ _ h;exact h.elim⟩;refine⟨fun x w'=>w'=w3/\x 63 = .bool A,?_,?_⟩
     .exact eR
     .rintro x w' ⟨rfl,hx⟩ d;refine cH hx ?_;exact kK
end
