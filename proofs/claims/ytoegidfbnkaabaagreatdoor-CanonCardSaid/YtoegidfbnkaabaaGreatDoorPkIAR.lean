/- A part of one proof (PW5, PW6, KS4, KS5, KS6, KS7). -/
import Derived.Test.YtoegidfbnkaabaaGreatDoorPkIAQ
set_option linter.all false
set_option maxRecDepth 100000
set_option maxHeartbeats 8000000
open Option renaming some → O, none → V
open Go renaming Value → Y, World → Z
open Bool renaming true → A, false → G
open Go.Obj renaming cells → ae
open Go.Ending renaming returned → ah
open Go.Value renaming iface → aj, tuple → ak, pointer → aq
open Option.some renaming injEq → a07
open Go.Calls renaming mono → a1a
open Nat renaming le_refl → a1c, le_trans → a1d, zero_le → a1q, strongRecOn → a2J
open List renaming drop_eq_getElem_cons → a1h, drop_length → a17
open Go.Proofs.Tryz renaming prog → bbl
namespace Go.Proofs.YtoegidfbnkaabaaGreatDoor
open P
open Go.RowKit Sx
variable{B B' b c f i n pb so wb:Nat}{K:Y->Prop}{R:Ending->Z->Prop}{S buf nm tv u v:Y}{X:Y->Z->Prop}{cs:Array Y}{es:Array MapEntry}{out:Bs}{res:Z->Prop}{tr:Tr}{w' w1 w3:Z}{y:Operand}{ρ:Nat->Nat}
structure CW(f:Nat):Prop where
 tm:∀ {ρ:Nat->Nat} {n:Nat} {tr:Tr} {wb sb so T:Nat} {cs:Array Y} {w:Z} {s:Ws} {t:Tm} {v:Y} {least:Nat} {r:Option Ws},xE tr wb sb so T cs->Ht ρ n tr wb sb so T cs w s->dR ρ n w v t->eu t ->
  s.cW<=900000100->s.seen.length<=s.out.length->ix tr f t least s=O r->Calls bbl 31 #[pp wb,v,zi least] w (BV ρ n tr wb sb so T cs w s.cW r)
 comp:∀ {ρ:Nat->Nat} {n:Nat} {tr:Tr} {wb sb so T:Nat} {cs:Array Y} {w:Z} {s:Ws} {name:Bs} {args:List Tm} {b:Nat} {least:Nat} {r:Option Ws},xE tr wb sb so T cs->Ht ρ n tr wb sb so T cs w s ->
  dR ρ n w (aj 175 (pp b)) (.comp name args)->eu (.comp name args) ->
  s.cW<=900000100-60->s.seen.length<=s.out.length->rB tr f name args least s=O r->Calls bbl 65 #[pp wb,pp b,zi least] w (BV ρ n tr wb sb so T cs w (s.cW+30) r)
 list:∀ {ρ:Nat->Nat} {n:Nat} {tr:Tr} {wb sb so T:Nat} {cs:Array Y} {w:Z} {s:Ws} {name:Bs} {x y:Tm} {b:Nat} {r:Option Ws},xE tr wb sb so T cs->Ht ρ n tr wb sb so T cs w s ->
  dR ρ n w (aj 175 (pp b)) (.comp name [x,y])->eu (.comp name [x,y]) ->
  s.cW<=900000100-60->s.seen.length<=s.out.length->oZ tr f 91 x y s=O r->Calls bbl 96 #[pp wb,pp b] w (BV ρ n tr wb sb so T cs w (s.cW+30) r)
theorem BV.of{T:Nat}{w:Z}{r:Option Ws}{e:Ending}(h:BV ρ n tr wb pb so T cs w1 B r e w')(a:mL wb pb w w1)(c:B<=B'):BV ρ n tr wb pb so T cs w B' r e w':=by
 obtain⟨b,d⟩:=h;refine⟨a.trans b,?_⟩;exact yH
def aJ6{ρ:Nat->Nat}{n:Nat}{tr:Tr}{wb:Nat}{nm:Y}{w:Z}{seen:List Nat}(a:C7 ρ n tr w)(g:NmA ρ w wb nm seen)(b:∀ i∈seen,i<n){i:Nat}(d:i<n){K:Y->Prop}{X:Y->Z->Prop} :
  RD bbl (Instr.lookup 101 nm (pp (ρ i)) A) w K X =
   match seen.idxOf? i with
   | some k=>K (ak #[.int .i64 ((k+1:Nat)),.bool A])
   | none=>K (ak #[.int .i64 0,.bool G]):=by
 have hm:Bp bbl 101=O (87,3):=zk;have e:Ao bbl 3=O (zi 0):=zk;have f:Ar bbl 87=true:=zk;obtain⟨ref,h,-⟩:=a.var i d;rcases g with⟨rfl,rfl⟩| ⟨r,c,es,rfl,s,l,m⟩
 .rw[axu hm (abR f) e];rfl
 .rw[axv hm f e l m (fun c v o=>?_) h]
  .rw[aeB a.inj d seen 0 0 b];cases seen.idxOf? i with
   | none=>rfl
   | some k=>simp
  .obtain⟨j,p,rfl⟩:=aeA o;obtain⟨ref,q,-⟩:=a.var j (b j p);exact⟨_,_,q⟩
def lU.name{T:Nat}{w:Z}{s:Ws}{r:Nat}(h:lU ρ n tr wb pb so T cs (.map (O r)) w s)(hx:xE tr wb pb so T cs)(hr:wb<r)
  (m:w.heap[r]?=O (.map es c)) (y:Fg (AZ ρ s.seen 0) es.toList) (z:i<n) {e:MapEntry} (hk:e.key=pp (ρ i)) (hv:e.val=zi ((s.seen.length+1:Nat))) :
  lU ρ n tr wb pb so T cs (.map (O r)) (bS w r (.map (es.push e) (c+1))) { s with seen:=s.seen++[i] }/\mL wb pb w (bS w r (.map (es.push e) (c+1))):=by
 have j:mL wb pb w (bS w r (.map (es.push e) (c+1))):=⟨J,J,J,yH,fun b o d hm=>by
  by_cases k:b=r
  .subst k;rw[m] at d;injection d with d;exact absurd (.inr (.inr ⟨hr,.inr ⟨_,_,d.symm⟩⟩)) hm
  exact yH⟩
 have p:=bh m;refine⟨⟨h.st.bK (h.kv hx j),?_,?_,?_,h.Yg hx j,?_⟩,j⟩
 .obtain⟨q,buf,b1,b2,l⟩:=h.bu;refine⟨q,buf,b1,yH,l.1,?_⟩;rcases l.2 with l | ⟨g,cap,cur,t,u,B,x⟩
  .exact yH
  .refine .inr ⟨g,cap,cur,t,u,?_,x⟩;exact yH
 .refine .inr ⟨r,c+1,_,J,hr,qJ J p,?_⟩;grind [Array.toList_push,aox,aow]
 .rw[jr]
  .exact h.fu
  .rintro rfl;have:=h.fu;grind
 .intro a f;simp only[List.mem_append,List.mem_cons,List.not_mem_nil,or_false] at f;rcases f with f | rfl
  .exact h.sn a f
  omega
def lU.names{T:Nat}{w:Z}{s:Ws}(h:lU ρ n tr wb pb so T cs (.map V) w s)(hx:xE tr wb pb so T cs)(c:s.seen=[])
  (d:tv = aq V\/tv=pp wb) (e:w.heap[wb]?=aN #[tv,buf,pq pb so,.map V] 103) (g:w.ownsRow (wb+1) 5 1 buf s.out.length (uP s.out))
 (f:w'=bS (w.alloc (.map #[] 0)) wb (ae #[tv,buf,pq pb so,.map (O w.heap.size)] 103)) :
  lU ρ n tr wb pb so T cs (.map (O w.heap.size)) w' s/\mL wb pb w w'/\wb<w.heap.size/\w'.heap[w.heap.size]?=O (.map #[] 0):=by
 subst f;have lb:=bh e;have i:=bh h.fu;have j:=hx.ne;have a:mL wb pb w (bS (w.alloc (.map #[] 0)) wb (ae #[tv,buf,pq pb so,.map (O w.heap.size)] 103)):=((bB.refl _ _).alloc _).bS (.inl fun _=>.inl J);have b:(bS (w.alloc (.map #[] 0)) wb (ae #[tv,buf,pq pb so,.map (O w.heap.size)] 103)).heap[w.heap.size]?=O (.map #[] 0):=by
  exact yH
 refine⟨⟨h.st.bK (h.kv hx a),?_,?_,?_,h.Yg hx a,h.sn⟩,a,lb,b⟩
 .exact⟨tv,buf,d,yH,(by grind [Kz,World.ownsRow.alloc])⟩
 .exact .inr ⟨_,_,_,J,lb,b,by rw[c];rfl⟩
 grind [jr,M9,fu]
def aJ8(ih:CW f){T:Nat}{w:Z}{s:Ws}{t:Tm}{least:Nat}{r:Option Ws}(hx:xE tr wb pb so T cs)(hs:Ht ρ n tr wb pb so T cs w s)(hv:dR ρ n w v t)(dj:eu t)
  (hB:s.cW<=900000100) (A2:s.seen.length<=s.out.length) (hr:ix tr (f+1) t least s=O r):Calls bbl 31 #[pp wb,v,zi least] w (BV ρ n tr wb pb so T cs w s.cW r):=by
 obtain⟨nm,h⟩:=hs;obtain⟨ad,buf,Hq,hb,dY⟩:=id h.bu;have lb:=bh hb;have CU:s.cW=s.out.length+60*s.fuel:=rfl;rw[ix] at hr;refine aJI ?_;refine cO hb ?_;refine(aon h.fu hx.sz zg).mono ?_;rintro e w1 ⟨he,y⟩;by_cases M:s.fuel=0
 .rw[zip M] at hr;cases hr;rw[zip zo] at he;subst he;simp only[ends,PC];have o:mL wb pb w w1:=by rw[y];exact(bB.refl _ _).bS (.inl fun _=>.inr (.inl J))
  refine⟨o,J,?_,nm,s.out,?_,zo⟩
  .rw[y,qJ J (bh h.fu),M];rfl
  .rw[y];exact h.bu.other hx.ne h.fu hx.T1 _
 .rw[bI M] at hr;rw[bI zo] at he;subst he;have g:=h.fuel hx (s.fuel-1);rw[show((s.fuel-1:Nat):Int)=(s.fuel:Int)-1 by omega,<- y] at g;have o:mL wb pb w w1:=by rw[y];exact(bB.refl _ _).bS (.inl fun _=>.inr (.inl J))
  clear y;refine bG ?_;cases hw:fE tr f t with
  | none=>rw[hw] at hr;cases hr
  | some t'=>
  rw[hw] at hr;refine(Hs g.st (hv.bK (h.kv hx o).toT) hw).mono ?_;rintro e w2 ⟨rfl,u,rfl,hu⟩;have p:=tY hx.tok dj hw;obtain⟨ad1,aWh,N,B,xZ⟩:=id g.bu;cases t' with
  | atom a=>
   unfold dL at hu;subst hu;unfold eu at p;refine bG ?_;refine(Hu g hx a zg).mono ?_;rintro e w3 ⟨⟨v3,rfl⟩,C,ea⟩;refine bG ?_;cases hr;exact⟨o.trans ea,J,_,C⟩
  | int a=>
   unfold dL at hu;subst hu;unfold eu at p;refine bG ?_;refine⟨fun _=>True,trivial,?_⟩;refine bG ?_;refine cS (pp wb) (fun w' _=>eV) ?_;refine(aor a p.1 p.2 _ (g.ext yF).Ye).mono ?_;rintro e w3 ⟨rfl,D⟩;have C:=g.ext (((bB.refl _ _).drew).trans D);refine⟨trivial,?_⟩;have hl:=aos a p.1 p.2;refine(Hu C hx _ zg).mono ?_;rintro e w4 ⟨⟨v3,rfl⟩,E,P⟩;refine bG ?_;cases hr;exact⟨(o.trans (bB.toM (((bB.refl _ _).drew).trans D))).trans P,J,_,E⟩
  | var i=>
   unfold dL at hu;obtain⟨K,rfl⟩:=hu;refine cO B ?_;obtain⟨s1,eg⟩:∃ s1:Ws,s1={ s with fuel:=s.fuel-1 }:=⟨_,J⟩;have F:s1.out=s.out:=zg;have gj:s1.seen=s.seen:=zg;rw[<- eg] at g hr;have T5:∀ (k:Nat) (z:Y) (s2:Ws) (w':Z) (x:Y),x=zi (k:Int)->k<=1000000000->lU ρ n tr wb pb so T cs z w' s2->mL wb pb w2 w'->s2.out=s.out->r=O (s2.add (95::fc k)) ->
     Pr (HD fun q=>q w'.drew/\NC (pp wb) fun Q=>vi bbl (Instr.fieldAt 103 Q 0) q (fun R=>
      CA bbl 64 #[x] w'.drew (fun T6 S=>q S/\RD bbl (bo .add 9 (.const (aT [95])) (.tmp 75) (aT [95]) T6) S (fun U=>
       CA bbl 44 #[R,U] S (fun x77 Oj=>BV ρ n tr wb pb so T cs w s.cW r (ah (ak #[])) Oj) (MN (BV ρ n tr wb pb so T cs w s.cW r))) NX) (MN (BV ρ n tr wb pb so T cs w s.cW r)))):=by
    intro k z s2 w' x W hk L X ho2 iJ;subst W;refine⟨fun _=>True,trivial,?_⟩;refine toPr ?_;refine bG ?_;refine cS (pp wb) (fun w' _=>eV) ?_;refine(Ls k zo zo _ (L.ext yF).Ye).mono ?_;rintro e w3 ⟨rfl,D⟩;have C:=L.ext (((bB.refl _ _).drew).trans D);refine⟨trivial,?_⟩;have e1:kN (k:Int)=fc k:=by
     unfold kN;grind
    have hl:=aos k zo zo;rw[e1] at hl ⊢;have Lx:s2.out.length=s.out.length:=zg;rw[M8 _ _ zg];refine(Hu C hx _ zg).mono ?_;rintro e w4 ⟨⟨v3,rfl⟩,E,P⟩;rw[iJ];exact⟨((o.trans X).trans (bB.toM (((bB.refl _ _).drew).trans D))).trans P,J,_,E⟩
   rw[aJ6 g.st g.na g.sn K,gj];have hlen:s.out.length<=900000100:=zo;cases hk:s.seen.idxOf? i with
   | some k=>
    have tQ:k<s.seen.length:=(List.idxOf?_eq_some_iff.1 hk).1;refine bG ?_;refine⟨fun x w'=>w'=w2/\x 9=zi ((k+1:Nat):Int),eV,?_⟩;rintro x w' ⟨rfl,xH⟩ d;refine T5 (k+1) nm s1 w' _ xH zo g (bB.refl _ _) F ?_;grind [AO,a07]
   | none=>
    refine bG ?_;refine⟨fun x w'=>x 9=zi ((s.seen.length+1:Nat):Int)/\(∃ z,lU ρ n tr wb pb so T cs z w' { s1 with seen:=s1.seen++[i] })/\mL wb pb w2 w',?_,?_⟩
    .refine bG ?_;refine⟨fun _ w'=>∃ r c es,lU ρ n tr wb pb so T cs (.map (O r)) w' s1/\wb<r/\w'.heap[r]?=O (.map es c)/\Fg (AZ ρ s1.seen 0) es.toList/\mL wb pb w2 w',?_,?_⟩
     .rcases id g.na with⟨g0,rfl⟩| ⟨r',c,es,rfl,g1,g2,g3⟩
      .have Yk:=bh B;refine cO B ?_;obtain⟨m,k2,H,I⟩:=g.names hx g0 N B zg J;exact⟨_,_,_,m,H,I,by rw[g0];rfl,k2⟩
      .refine cO B ?_;grind [bB.refl]
     .rintro _ w' ⟨r',c,es,m,k2,H,I,k5⟩ d;obtain⟨ad2,aWl,aWm,fk,tg⟩:=id m.bu;have hes:es.size=s.seen.length:=by
       have:=aov I;grind [aou]
      have jd:s.seen.length<=1000000000:=zo;refine cO fk ?_;rw[aJM (k:=87) (e:=3) zk H,hes];refine cO fk ?_;obtain⟨ref,hbi,-⟩:=m.st.var i K;have mi:IF (ρ i) (AZ ρ s1.seen 0) 0=none:=by
       rw[aeB m.st.inj K s1.seen 0 0 m.sn,gj,hk];rfl
      rw[axw (k:=87) (e:=3) zk zk H I (fun c v hc=>?_) hbi mi]
      .obtain⟨m1,m2⟩:=m.name hx k2 H I K (e:={ key:=pp (ρ i),val:=zi ((s.seen.length:Int)+1),born:=c }) J zg;refine⟨?_,⟨_,m1⟩,k5.trans m2⟩;simp only[jv,if_true];grind [Wz]
      .obtain⟨j,E,rfl⟩:=aeA hc;obtain⟨ref,h5,-⟩:=m.st.var j (m.sn j E);exact yH
    .rintro x w' ⟨xH,⟨z,L⟩,X⟩ d;refine T5 (s.seen.length+1) z _ w' _ xH zo L X F ?_;grind [AO,a07,Ws.add]
  | comp name l=>
   have hu':=hu;unfold dL at hu;obtain⟨b,av,vs,rfl,-⟩:=hu;refine bG ?_;refine(ih.comp (s:={ s with fuel:=s.fuel-1 }) (least:=least) hx ⟨_,g⟩ hu' p (by grind [Ws.cW]) A2 hr).mono ?_;rintro e w3 hp;have Bu:=hp.of (B':=s.cW) o (by simp only[Ws.cW];omega);cases r with
   | none=>
    obtain⟨g1,rfl,g2⟩:=Bu;refine bG ?_;exact⟨g1,J,g2⟩
   | some s'=>
    obtain⟨g1,rfl,g2⟩:=Bu;refine bG ?_;exact⟨g1,J,g2⟩
def FO{w:Z}{name:Bs}{args:List Tm}(h:dR ρ n w (aj 175 (pp b)) (.comp name args)) :
  ∃ a cap,w.heap[b]?=aN #[aT name,.slice a args.length cap] 180 /\
   ∀ (j:Nat) (c:j<args.length),∃ ab cs v,a=O ⟨ab,0,V⟩/\w.heap[ab]?=aN cs 89/\cs[j]?=O v/\dR ρ n w v args[j]:=by
 unfold dR dL at h;obtain⟨g,av,vs,e,-,i,f,d⟩:=h;cases e;have k:=d.length;rcases f with⟨rfl,rfl⟩| ⟨ab,cs,rfl,-,g2,g3,g4⟩
 .exact yH
 .refine⟨O ⟨ab,0,V⟩,cs.size,yH,fun j c=>?_⟩;obtain⟨v,l,m⟩:=iT.at j c d;exact yH
theorem Ju:∀ {l:List Tm} {j:Nat},jy l->(a:j<l.length)->eu l[j]
 | t::ts,0,h,_=>by unfold jy at h;exact h.1
 | t::ts,j+1,h,a=>by unfold jy at h;exact Ju h.2 zg
abbrev aeM(wb:Nat):Deferred:={ target:=.fn (.func 95) #[],args:=#[pp wb,.int .u8 41] }
def aKe{w:Z}(h:tJ w wb S nm out)(a:out.length+1<=1000000000)
  (hk:∀ w',tJ w' wb S nm (out++[41])->jT wb w w'->res w'):LV bbl res R [aeM wb] .returning w:=by
 refine Cj zk zs (Sx.CallsD.mono (aoi h 41 a) ?_);rintro e d w' ⟨rfl,⟨v,rfl⟩,b,c⟩;exact hk w' b c
def aKf{w:Z}(h:tJ w wb S nm out)(a:out.length+1<=1000000000)
  (hk:∀ w',tJ w' wb S nm (out++[41])->jT wb w w'->R Od w'):LV bbl res R [aeM wb] (.panicking [{ v:=aj 134 (.agg #[]),recovered:=false }]) w:=by
 refine Cj zk zs (Sx.CallsD.mono (aoi h 41 a) ?_);rintro e d w' ⟨rfl,⟨v,rfl⟩,b,c⟩;exact hk w' b c
def aoD{T:Nat}{w:Z}(hx:xE tr wb pb so T cs)(h:BV ρ n tr wb pb so T cs w B V Od w3)(d:B+1<=B')(b:B'<=1000000000) :
  LV bbl res (BV ρ n tr wb pb so T cs w B' V) [aeM wb] (.panicking [{ v:=aj 134 (.agg #[]),recovered:=false }]) w3:=by
 obtain⟨g1,-,g2,nm,out,g3,g4⟩:=h;refine aKf g3 zo fun w' c a=>?_;refine⟨g1.trans (a.toW pb),J,?_,nm,_,c,zg⟩;refine a.block _ _ g2 ?_;rintro (h | ⟨_,_,_,h⟩)
 .exact hx.ne h
 .injection h with _ h _;exact hx.T1 h
def aKg(ih:∀ g,g<=f->CW g){T:Nat}{w:Z}{s:Ws}{name:Bs}{args:List Tm}{least:Nat}{r:Option Ws}(hx:xE tr wb pb so T cs)(hs:Ht ρ n tr wb pb so T cs w s)
  (hu:dR ρ n w (aj 175 (pp b)) (.comp name args)) (dj:eu (.comp name args))
  (hB:s.cW<=900000100-60) (E:s.seen.length<=s.out.length) (hr:rB tr (f+1) name args least s=O r) :
  Calls bbl 65 #[pp wb,pp b,zi least] w (BV ρ n tr wb pb so T cs w (s.cW+30) r):=by
 obtain⟨nm,h⟩:=hs;obtain⟨ad,buf,Hq,hb,dY⟩:=id h.bu;have lb:=bh hb;have CU:s.cW=s.out.length+60*s.fuel:=rfl;obtain⟨ao,cap,F,Jv⟩:=FO hu;have vM:=dj;unfold eu at vM;obtain⟨aWo,Hf,R⟩:=vM;rw[rB.eq_def] at hr;dsimp only at hr;have C:Ext w w.drew:=yF;have hd:=h.ext C;refine aJK ?_;refine cO F ?_;refine(aoo name args.length _).mono ?_;rintro e w1 ⟨rfl,rfl⟩;by_cases hp:iK name args.length=0
 .have Bu:¬ (0:Int)<((iK name args.length:Nat):Int):=zo;refine bG ?_;refine⟨fun x w'=>w'=w.drew/\x 101 = .bool (decide (name=[46]/\args.length=2)),?_,?_⟩
  .by_cases hn:name=[46]
   .refine dF F hn ?_;simp [jv];omega
   .refine dF F hn ?_;grind
  .rintro x w' ⟨rfl,aKh⟩ d;rw[aKh];by_cases hl:name=[46]/\args.length=2
   .rw[GB _ _ hl];obtain⟨x0,p,rfl⟩:∃ x0 p,args=[x0,p]:=by
     match args,hl.2 with
     | [x0,p],_=>grind
    have eY:iK name 2=0:=hp;simp only[eY,ne_eq,not_true_eq_false,if_false,zip hl.1] at hr;refine a1a ((ih f (a1c _)).list hx ⟨_,hd⟩ (hu.bK (rH.eo C)) dj hB E hr) ?_;rintro e w2 gQ;have im:=gQ.of (B':=s.cW+30) (bB.toM (M:=MW wb pb) C) (a1c _);cases r with
    | none=>
     obtain⟨g1,rfl,g2⟩:=im;exact⟨g1,J,g2⟩
    | some s'=>
     obtain⟨g1,rfl,g2⟩:=im;exact⟨g1,J,g2⟩
   .rw[GC _ _ hl];have mh:Wb (kX tr f 40 args (s.add name)) (fun s=>O (O (s.add [41])))=O r:=by
     grind
    have ED:Ext w w.drew.drew:=C.drew;have xW:=h.ext ED;refine cO F ?_;refine(Hu xW hx name zo).mono ?_;rintro e w2 ⟨⟨v2,rfl⟩,H,eZ⟩;have S:mL wb pb w w2:=(bB.toM (M:=MW wb pb) ED).trans eZ;have FP:=(h.kv hx S) _ _ _ (.inl J) F;refine cO FP ?_;refine⟨fun m x w'=>∃ j o EC,x 32=zi (j:Nat)/\j<=args.length/\m=args.length-j/\lU ρ n tr wb pb so T cs EC w' o/\mL wb pb w w' /\
     (∃ g,g<=f/\Wb (kX tr g (if j=0 then 40 else 44) (args.drop j) o) (fun s=>O (O (s.add [41])))=O r)/\o.cW<=s.cW+20/\o.seen.length<=o.out.length,
     ⟨_,0,_,nm,J,a1q _,J,H,S,zg,by grind [Ws.pO],o9 E⟩,?_⟩
    intro m x3 d3 w3 hI;refine toPr ?_;obtain⟨j,o,EC,C9,hj,rfl,q,t,⟨g,hg,l⟩,aoF,Ly⟩:=hI;have aoG:o.cW=o.out.length+60*o.fuel:=rfl;obtain⟨ad3,aKj,aKk,eP,Nt⟩:=id q.bu;have Ol:=hu.bK (h.kv hx t).toT;by_cases hlt:j<args.length
    .obtain⟨ao3,U,Lz,aKl⟩:=FO Ol;have aKm:=(h.kv hx t) _ _ _ (.inl J) F;rw[aKm] at Lz;simp only[a07,Obj.cells.injEq,and_true,Array.mk.injEq,List.cons.injEq,Value.slice.injEq,true_and] at Lz;obtain⟨rfl,rfl⟩:=Lz;obtain⟨ab,T8,v3,rfl,nz,Jw,EE⟩:=aKl j hlt;rw[a1h hlt] at l;cases g with
     | zero=>simp [kX,Wb] at l
     | succ g=>
     rw[kX] at l;have BW:((j:Nat):Int).toNat=j:=zo;have aKn:(if (1:Int)<((j:Nat):Int) then(1:Int) else((j:Nat):Int))=if j=0 then 0 else 1:=by
      omega
     refine dM @ajG C9 nz (zA Jw aKn) ?_;obtain⟨sep,aKo⟩:∃ sep:UInt8,sep=if j=0 then 40 else 44:=⟨_,J⟩
     rw[<- aKo] at l;have Om:((List.getD [(40:UInt8),44] (Int.toNat (if j=0 then 0 else 1)) 0).toNat:Int)=sep.toNat:=by
      grind
     refine a1a (Oe (q.ext yF) hx sep zo Om) ?_;rintro e u ⟨⟨v4,rfl⟩,i,c⟩;have Yl:mL wb pb w u:=(t.trans (bB.drew (bB.refl _ _))).trans c;have vU:=EE.bK (q.kv hx ((bB.drew (bB.refl _ _)).trans c)).toT;have Jy:eu args[j]:=Ju R hlt;have W:(o.add [sep]).cW=o.cW+1:=Ws.pO ..;cases a:ix tr g args[j] 0 (o.add [sep]) with
     | none=>simp [a,Wb] at l
     | some X=>
     refine bG ?_;refine a1a ((ih g zo).tm (least:=0) hx ⟨_,i⟩ vU Jy zo (o9 Ly) a) ?_;rintro e w5 I;cases X with
     | none=>
      simp only[a,Wb,a07] at l;subst l;have B:=I.of (B':=s.cW+30) Yl zo;obtain⟨g1,rfl,g2⟩:=B;exact⟨g1,J,g2⟩
     | some K=>
      obtain⟨g1,rfl,On,g2⟩:=I;obtain⟨l1,L⟩:=(K5 hx.tok g).tm _ _ _ _ Jy zo (o9 Ly) a;simp only[a] at l;refine cO C9 ?_;refine⟨_,zo,j+1,K,On,zg,zo,J,g2,Yl.trans g1,⟨g,zo,?_⟩,zo,L⟩;rw[bI zo];exact l
    .have hdj:args.drop j=[]:=zg;rw[hdj] at l;cases g with
     | zero=>simp [kX,Wb] at l
     | succ g=>
     simp only[kX,Wb,a07] at l;subst l;refine cO C9 ?_;refine(Oe q hx 41 zo J).mono ?_;rintro e u ⟨⟨v4,rfl⟩,i,c⟩;exact⟨t.trans c,J,_,i⟩
 .have Bu:(0:Int)<((iK name args.length:Nat):Int):=zo;obtain⟨x0,p,rfl⟩:∃ x0 p,args=[x0,p]:=by
   have H:args.length=2:=by
    by_cases H:args.length=2
    .omega
    .exact absurd (by unfold iK;grind) hp
   match args,H with
   | [x0,p],_=>grind
  have eY:iK name [x0,p].length=iK name 2:=rfl;rw[eY] at hp Bu ⊢;have gQ:iK name 2<=2:=by
   grind [iK]
  obtain⟨pF,Jz⟩:=Jb R;dsimp only at hr;rw[zip hp] at hr;obtain⟨op,xQ⟩:∃ op:Bs,op=if name=[109,111,100] then [32,109,111,100,32] else name:=⟨_,J⟩
  have Ym:op.length<=20:=zg;rw[<- xQ] at hr;have N:∀ w',mL wb pb w w'->∃ ab cap zI u0 u1,w'.heap[b]?=aN #[aT name,cV ab 2 cap] 180/\w'.heap[ab]?=aN zI 89/\zI[0]?=O u0/\zI[1]?=O u1/\dR ρ n w' u0 x0/\dR ρ n w' u1 p:=by
   intro w' hf;obtain⟨ao,cap,k1,P⟩:=FO (hu.bK (h.kv hx hf).toT);obtain⟨ab,zI,u0,rfl,k3,k4,k5⟩:=P 0 zs;obtain⟨LA,zJ,u1,e,k6,k7,k8⟩:=P 1 zs;exact yH
  by_cases kg:iK name 2<least
  .rw[zip kg] at hr;refine bG ?_;refine(Oe hd hx 40 zo J).mono ?_;rintro e w2 ⟨⟨v2,rfl⟩,H,eZ⟩;have S:mL wb pb w w2:=(bB.toM (M:=MW wb pb) C).trans eZ;obtain⟨ab,GY,FQ,u0,u1,k1,P,k3,k4,k5,k6⟩:=N w2 S;refine jk @k1 @P @k3 ?_;cases a:ix tr f x0 (iK name 2) (s.add [40]) with
   | none=>simp [a,Wb] at hr
   | some X=>
   have aWr:(s.add [40]).cW=s.cW+1:=Ws.pO ..;refine a1a ((ih f (a1c _)).tm hx ⟨_,H⟩ k5 pF zo (o9 E) a) ?_;rintro e w3 I;have B:=I.of (B':=s.cW+1) S zo;cases X with
   | none=>
    simp only[a,Wb,a07] at hr;subst hr;obtain rfl:=B.2.1;exact aoD hx B zo zo
   | some k=>
    obtain⟨t,rfl,D,q⟩:=B;obtain⟨l1,L⟩:=(K5 hx.tok f).tm _ _ _ _ pF zo (o9 E) a;simp only[a] at hr;obtain⟨ab3,U,T8,u03,xg,q1,q2,q3,q4,q5,q6⟩:=N w3 t;have aKs:k.cW=k.out.length+60*k.fuel:=rfl;refine bG ?_;refine⟨fun _ w'=>lU ρ n tr wb pb so T cs D w' (k.add op)/\mL wb pb w3 w',?_,?_⟩
    .by_cases y:name=[109,111,100]
     .refine dF @q1 y ?_;rw[xQ,zip y] at Ym ⊢;refine(Hu q hx _ zo).mono ?_;rintro e u ⟨⟨v4,rfl⟩,i,c⟩;exact⟨i,c⟩
     .refine dF @q1 y ?_;rw[xQ,bI y] at Ym ⊢;have T9:Ext w3 w3.drew:=yF;refine(Hu (q.ext T9) hx _ zo).mono ?_;rintro e u ⟨⟨v4,rfl⟩,i,c⟩;exact⟨i,(bB.toM T9).trans c⟩
    .rintro _ u ⟨i,c⟩ d4;have Ua:=t.trans c;obtain⟨ab4,aKu,cs4,u04,xh,q1,q2,q3,q4,q5,q6⟩:=N u Ua;have zK:((iK name 2:Nat):Int)+1=((iK name 2+1:Nat):Int):=zo;refine dM @q1 @q2 @q4 zK ?_;have W:(k.add op).cW=k.cW+op.length:=Ws.pO ..;cases z:ix tr f p (iK name 2+1) (k.add op) with
     | none=>simp [z,Wb] at hr
     | some r2=>
     refine a1a ((ih f (a1c _)).tm hx ⟨_,i⟩ q6 Jz zo (o9 L) z) ?_;rintro e w5 mX;have Q:=mX.of (B':=s.cW+1) Ua zo;cases r2 with
     | none=>
      simp only[z,Wb,a07] at hr;subst hr;obtain rfl:=Q.2.1;exact aoD hx Q zo zo
     | some K=>
      obtain⟨jc,rfl,On,h5⟩:=Q;obtain⟨l3,l4⟩:=(K5 hx.tok f).tm _ _ _ _ Jz zo (o9 L) z;simp only[z,Wb,a07] at hr;subst hr;have aKw:K.cW=K.out.length+60*K.fuel:=rfl;refine aKe h5.bu zo fun w6 hb6 A4=>?_;exact⟨jc.trans (A4.toW pb),J,On,(by grind [lU.wr])⟩
  .rw[bI kg] at hr;obtain⟨ab,GY,FQ,u0,u1,k1,P,k3,k4,k5,k6⟩:=N w.drew (bB.toM C);refine jk @k1 @P @k3 ?_;cases a:ix tr f x0 (iK name 2) s with
   | none=>simp [a,Wb] at hr
   | some X=>
   refine a1a ((ih f (a1c _)).tm hx ⟨_,hd⟩ k5 pF zo E a) ?_;rintro e w3 I;have B:=I.of (B':=s.cW+1) (bB.toM (M:=MW wb pb) C) zo;cases X with
   | none=>
    simp only[a,Wb,a07] at hr;subst hr;have mX:=B.of (B':=s.cW+30) (bB.refl _ _) zo;obtain⟨g1,rfl,g2⟩:=mX;exact⟨g1,J,g2⟩
   | some k=>
    obtain⟨t,rfl,D,q⟩:=B;obtain⟨l1,L⟩:=(K5 hx.tok f).tm _ _ _ _ pF zo E a;simp only[a] at hr;obtain⟨ab3,U,T8,u03,xg,q1,q2,q3,q4,q5,q6⟩:=N w3 t;have aKs:k.cW=k.out.length+60*k.fuel:=rfl;refine bG ?_;refine⟨fun _ w'=>lU ρ n tr wb pb so T cs D w' (k.add op)/\mL wb pb w3 w',?_,?_⟩
    .by_cases y:name=[109,111,100]
     .refine dF @q1 y ?_;rw[xQ,zip y] at Ym ⊢;refine(Hu q hx _ zo).mono ?_;rintro e u ⟨⟨v4,rfl⟩,i,c⟩;exact⟨i,c⟩
     .refine dF @q1 y ?_;rw[xQ,bI y] at Ym ⊢;have T9:Ext w3 w3.drew:=yF;refine(Hu (q.ext T9) hx _ zo).mono ?_;rintro e u ⟨⟨v4,rfl⟩,i,c⟩;exact⟨i,(bB.toM T9).trans c⟩
    .rintro _ u ⟨i,c⟩ d4;have Ua:=t.trans c;obtain⟨ab4,aKu,cs4,u04,xh,q1,q2,q3,q4,q5,q6⟩:=N u Ua;have zK:((iK name 2:Nat):Int)+1=((iK name 2+1:Nat):Int):=zo;refine dM @q1 @q2 @q4 zK ?_;have W:(k.add op).cW=k.cW+op.length:=Ws.pO ..;cases z:ix tr f p (iK name 2+1) (k.add op) with
     | none=>simp [z,Wb] at hr
     | some r2=>
     simp only[z,Wb,a07] at hr;refine a1a ((ih f (a1c _)).tm hx ⟨_,i⟩ q6 Jz zo (o9 L) z) ?_;rintro e w5 mX;have Q:=mX.of (B':=s.cW+30) Ua zo;subst hr;cases r2 with
     | none=>
      obtain⟨g1,rfl,g2⟩:=Q;exact⟨g1,J,g2⟩
     | some K=>
      obtain⟨g1,rfl,g2⟩:=Q;exact⟨g1,J,g2⟩
section
variable{D:Nat->Prop}{ρ:Nat->Nat}{n sb so T:Nat}{cs:Array Y}
def aKx(Q:vS so T cs)(F:i<n):∀ (f:Nat) {tv v:Y} {w:Z} {s:Sr} {t:Tm} {r:Except jQ (Bool×Sr)},ie D ρ n sb so T cs tv w s->dR ρ n w v t->eu t->s.fuel<=1000000000->zu f i t s=O r ->
  Calls bbl 221 #[pq sb so,pp (ρ i),v] w (EPost D w (xG D ρ n sb so T cs) r):=by
 intro f;induction f using a2J with
 | _ f ih=>
 intro tv v w s t r h hv R H hr;cases f with
 | zero=>simp [zu] at hr
 | succ f=>
 rw[zu] at hr;refine aJQ ?_;refine(Of h Q H).mono ?_;rintro e w1 ⟨l,c⟩;by_cases I:s.fuel=0
 .rw[zip I] at hr c;injection hr with hr;subst hr c;simp only[ends,PC];exact⟨l,J⟩
 rw[bI I] at hr c;obtain⟨rfl,c⟩:=c;have S:=hv.bK l.toT;refine bG ?_;cases hw:fE s.tr f t with
 | none=>rw[hw] at hr;cases hr
 | some U=>
 rw[hw] at hr;refine a1a (Hs c.sv S (f:=f) (by exact hw)) ?_;rintro e w2 ⟨rfl,u,rfl,hu⟩;have W:=tY h.ok R hw;cases U with
 | atom a=>
  unfold dL at hu;subst hu;cases hr;refine bG ?_;exact⟨l,J,_,c⟩
 | int a=>
  unfold dL at hu;subst hu;cases hr;refine bG ?_;exact⟨l,J,_,c⟩
 | var j=>
  unfold dL at hu;obtain⟨z,rfl⟩:=hu;cases hr;obtain⟨ref,g1,-⟩:=c.sv.var j z;obtain⟨Yj,g2,-⟩:=c.sv.var i F;refine bG ?_;rw[axq zk g1 g2];refine⟨l,?_,_,c⟩;simp only[Ending.returned.injEq,Value.bool.injEq,decide_eq_decide];exact⟨fun e=>c.sv.inj _ _ z F e,zg⟩
 | comp name args=>
  obtain⟨b,av,vs,rfl,-,-⟩:=by unfold dL at hu;exact hu
  obtain⟨ao,cap,X,Jv⟩:=FO hu;unfold eu at W;refine cO X ?_;refine⟨fun m x w'=>∃ j o K,x 29=zi (j:Nat)/\j<=args.length/\m=args.length-j/\ie D ρ n sb so T cs K w' o/\di D w2 w'/\o.fuel<=1000000000/\(∃ g,g<=f/\AQ g i (args.drop j) o=O r),
   ⟨_,0,_,_,J,a1q _,J,c,yF,a1d (Nat.sub_le _ _) H,f,a1c _,hr⟩,?_⟩
  intro m x d w3 hI;refine toPr ?_;obtain⟨j,o,K,hx,z,rfl,L,M,Fo,g,hg,k⟩:=hI;cases g with
  | zero=>simp [AQ] at k
  | succ g=>
  by_cases hlt:j<args.length
  .rw[a1h hlt,AQ] at k;obtain⟨ab,T8,v3,rfl,nz,Jw,EE⟩:=Jv j hlt;have B:=M.bK (by unfold lN;decide) nz;have C:=EE.bK M.toT;have ej:((j:Nat):Int).toNat=j:=zo;refine dM hx @ej B Jw ?_;cases q:zu g i args[j] o with
   | none=>rw[q] at k;cases k
   | some r1=>
   refine a1a (ih g zo L C (by grind [Ju]) Fo q) ?_;rintro e w4 ⟨gJ,y⟩;rw[q] at k;cases r1 with
   | error t=>
    cases k;have y:e=ig t:=y;subst y;cases t<;>exact⟨yF,J⟩
   | ok p=>
    obtain⟨b1,s4⟩:=p;obtain⟨rfl,E,N⟩:=y;simp only[P.Out.ee] at k;have hfu:=((Jd g).tm q).2;cases b1 with
    | true=>
     cases k;refine bG ?_;exact⟨yF,J,_,N⟩
    | false=>
     refine cO hx ?_;refine⟨_,zo,j+1,s4,E,zs,zo,J,N,yF,?_,g,zo,zg⟩;grind
  .have BW:j=args.length:=zo;subst BW;rw[a17,AQ] at k;cases k;refine cO hx ?_;exact⟨yF,J,_,L⟩
def aKB(g:vS so T cs)(j:i<n){w:Z}{s:Sr}{t:Tm}{r:Except jQ (Bool×Sr)}(h:ie D ρ n sb so T cs tv w s)(hD:∀ b,w.heap.size<=b->D b)(hv:dR ρ n w v t)(k:eu t)(o:s.fuel<=1000000000)
  (y:i ∉ s.tr.map (·.1)) (z:s.tr.length<=900000000) (hr:ud f i t s=O r) :
  Calls bbl 216 #[pq sb so,pp (ρ i),v] w (EPost D w (xG D ρ n sb so T cs) r):=by
 refine aJR ?_;unfold ud at hr;cases a:zu f i t s with
 | none=>rw[a] at hr;cases hr
 | some q=>
 rw[a] at hr;refine a1a (aKx g j f h hv k o a) ?_;rintro e w1 ⟨c,d⟩;cases q with
 | error t=>
  cases hr;have d:e=ig t:=d;subst d;cases t<;>exact⟨c,J⟩
 | ok p=>
  obtain⟨b1,s1⟩:=p;obtain⟨rfl,B,l⟩:=d;have m:=((Jd f).tm a).1;have m:s1.tr=s.tr:=m;simp only[P.Out.ee] at hr;cases b1 with
  | true=>
   cases hr;refine bG ?_;exact⟨c,J,_,l⟩
  | false=>
   cases hr;refine bG ?_;refine a1a (aoA l g (fun b u=>hD b (a1d c.size u)) j (by grind [P.QA]) zg (hv.bK c.toT) k zg) ?_;rintro e w2 ⟨rfl,C,E,x⟩;refine bG ?_;exact⟨yF,J,_,x⟩
end
section
variable{D:Nat->Prop}{ρ:Nat->Nat}{n sb so T:Nat}{cs:Array Y}
def aeS{w:Z}{a b:Tm}(g:C7 ρ n tr w)(f:dR ρ n w u a)(c:dR ρ n w v b)(p:¬ (BP a=A/\BP b=A)){x:Operand} :
  RD bbl (bo .eql 89 x y u v) w K X=K (.bool (P.flat a b)):=by
 have d:yT bbl 89=true:=zk;cases a with
 | atom a=>
  unfold dR dL at f;subst f;cases b with
  | atom b=>
   unfold dR dL at c;subst c;rw[axn d zk zk];grind [decide,P.flat]
  | int b=>unfold dR dL at c;subst c;exact DO d zg _ _
  | var b=>unfold dR dL at c;obtain⟨_,rfl⟩:=c;exact DO d zg _ _
  | comp m l=>unfold dR dL at c;obtain⟨_,_,_,rfl,-⟩:=c;exact DO d zg _ _
 | int a=>
  unfold dR dL at f;subst f;cases b with
  | atom b=>unfold dR dL at c;subst c;exact DO d zg _ _
  | int b=>
   unfold dR dL at c;subst c;rw[axo d zk zk];grind [decide,P.flat]
  | var b=>unfold dR dL at c;obtain⟨_,rfl⟩:=c;exact DO d zg _ _
  | comp m l=>unfold dR dL at c;obtain⟨_,_,_,rfl,-⟩:=c;exact DO d zg _ _
 | var i=>
  unfold dR dL at f;obtain⟨k,rfl⟩:=f;cases b with
  | atom b=>unfold dR dL at c;subst c;exact DO d zg _ _
  | int b=>unfold dR dL at c;subst c;exact DO d zg _ _
  | var j=>
   unfold dR dL at c;obtain⟨o,rfl⟩:=c;obtain⟨r,g1,-⟩:=g.var i k;obtain⟨s,g2,-⟩:=g.var j o;rw[axp d zk zk g1 g2];have:decide (ρ i=ρ j)=P.flat (.var i) (.var j):=by
    rw[P.flat];by_cases h:i=j
    .subst h;simp
    .have q:ρ i≠ρ j:=fun e=>h (g.inj i j k o e);simp [h,q]
   rw[this]
  | comp m l=>unfold dR dL at c;obtain⟨_,_,_,rfl,-⟩:=c;exact DO d zg _ _
 | comp m l=>
  unfold dR dL at f;obtain⟨_,_,_,rfl,-⟩:=f;cases b with
  | atom b=>unfold dR dL at c;subst c;exact DO d zg _ _
  | int b=>unfold dR dL at c;subst c;exact DO d zg _ _
  | var j=>unfold dR dL at c;obtain⟨_,rfl⟩:=c;exact DO d zg _ _
  | comp m' l'=>exact absurd ⟨J,J⟩ p
theorem dL.other{w:Z}{a:Tm}(b:dR ρ n w u a)(c:P.isVar a=G)(d:BP a=G):∃ ut x,u = aj ut x/\¬ ut=87/\¬ ut=175:=by
 cases a with
 | atom a=>unfold dR dL at b;grind
 | int a=>unfold dR dL at b;grind
 | var a=>cases c
 | comp a l=>cases d
def QD(hf:vS so T cs):∀ (f:Nat) {tv v u:Y} {w:Z} {s:Sr} {a b:Tm} {r:Except jQ (Bool×Sr)},ie D ρ n sb so T cs tv w s->(∀ b,w.heap.size<=b->D b)->dR ρ n w u a->eu a->dR ρ n w v b->eu b ->
  s.cW<=900000000->lS f a b s=O r ->
  Calls bbl 210 #[pq sb so,u,v] w (EPost D w (xG D ρ n sb so T cs) r):=by
 intro f;induction f using a2J with
 | _ f ih=>
 intro tv v u w s a b r h hD ha Jy N QE hz hr;have KC:s.tr.length+s.fuel<=900000000:=hz;cases f with
 | zero=>simp [lS] at hr
 | succ f=>
 rw[lS] at hr;refine aJS ?_;refine(Of h hf zo).mono ?_;rintro e w1 ⟨K,q⟩;by_cases h0:s.fuel=0
 .rw[zip h0] at hr q;injection hr with hr;subst hr q;simp only[ends,PC];exact⟨K,J⟩
 rw[bI h0] at hr q;obtain⟨rfl,q⟩:=q;have vn:=ha.bK K.toT;have jf:=N.bK K.toT;have hD1:∀ b,w1.heap.size<=b->D b:=fun b N=>hD b (a1d K.size N);have hdt:s.dec.tr=s.tr:=rfl;refine bG ?_;cases Q:fE s.tr f a with
 | none=>rw[Q] at hr;simp at hr
 | some a'=>
 cases W:fE s.tr f b with
 | none=>rw[Q,W] at hr;cases a'<;>simp at hr
 | some o=>
 rw[Q,W] at hr;refine a1a (Hs q.sv vn (f:=f) (by exact Q)) ?_;rintro e w2 ⟨rfl,ua,rfl,C⟩;refine bG ?_;refine a1a (Hs q.sv jf (f:=f) (by exact W)) ?_;rintro e w3 ⟨rfl,ub,rfl,E⟩;have Yo:=tY h.ok Jy Q;have Ub:=tY h.ok QE W;have CT:∀ {i:Nat} {t:Tm} {x:Y} {w':Z},P.look i s.tr=V->i<n->dR ρ n w' x t->eu t->ie D ρ n sb so T cs tv w' s.dec->di D w w'->ud f i t s.dec=O r ->
   Calls bbl 216 #[pq sb so,pp (ρ i),x] w' (EPost D w (xG D ρ n sb so T cs) r):=fun{i t x w'} hl hi hx dj hs hE F=>
  (aKB hf hi hs (fun b N=>hD b (a1d hE.size N)) hx dj (a1d (Nat.sub_le _ _) zo) (adC hl) zg F).mono fun e w' H=>H.of hE
 by_cases M:P.isVar a'=A
 .cases a' with
  | atom a=>cases M
  | int a=>cases M
  | comp a l=>cases M
  | var i=>
  have xB:=Je Q;unfold dR dL at C;obtain⟨hi,rfl⟩:=C;refine bG ?_;have Lw:dR ρ n w3 (aj 87 (pp (ρ i))) (.var i):=by unfold dR dL;grind
  rw[aeS q.sv Lw E (by rintro ⟨h,_⟩;cases h)];by_cases z:P.isVar o=A
  .cases o with
   | atom a=>cases z
   | int a=>cases z
   | comp a l=>cases z
   | var j=>
   simp only[P.flat] at hr ⊢;by_cases n9:i=j
   .rw[zip n9] at hr;cases hr;have:(i == j)=true:=zg;refine cO @this ?_;exact⟨K,J,_,q⟩
   .rw[bI n9] at hr;have:(i == j)=false:=zg;refine cO @this ?_;refine a1a (CT xB hi E Ub q K hr) ?_;exact fun e I H=>H.TV
  .have iV:P.flat (.var i) o=false:=by cases o<;>first | rfl | exact absurd J z
   rw[iV];have hr:ud f i o s.dec=O r:=by
    grind
   refine bG ?_;refine a1a (CT xB hi E Ub q K hr) ?_;exact fun e I H=>H.TV
 .have M:P.isVar a'=false:=zg;have aKC:∃ ut x,ua = aj ut x/\¬ ut=87:=by
   cases a' with
   | atom a=>unfold dR dL at C;grind
   | int a=>unfold dR dL at C;grind
   | var a=>cases M
   | comp a l=>unfold dR dL at C;grind
  obtain⟨ut,ux,rfl,X⟩:=aKC;by_cases z:P.isVar o=A
  .cases o with
   | atom a=>cases z
   | int a=>cases z
   | comp a l=>cases z
   | var j=>
   have xB:=Je W;unfold dR dL at E;obtain⟨hj,rfl⟩:=E;have hr:ud f j a' s.dec=O r:=by
    cases a' with
    | var j=>cases M
    | atom x=>omega
    | int x=>omega
    | comp x l=>omega
   refine cO X ?_;refine a1a (CT xB hj C Yo q K hr) ?_;exact fun e I H=>H.TV
  have z:P.isVar o=false:=zg;have aKD:∃ vt x,ub = aj vt x/\¬ vt=87:=by
   cases o with
   | atom a=>unfold dR dL at E;grind
   | int a=>unfold dR dL at E;grind
   | var a=>cases z
   | comp a l=>unfold dR dL at E;grind
  obtain⟨vt,vx,rfl,Yq⟩:=aKD;by_cases qQ:BP a'=A/\BP o=A
  .obtain⟨B,L⟩:=qQ;cases a' with
   | atom a=>cases B
   | int a=>cases B
   | var a=>cases B
   | comp name l=>
   cases o with
   | atom a=>cases L
   | int a=>cases L
   | var a=>cases L
   | comp Db l'=>
   simp only at hr;obtain⟨ba,ava,vsa,Oo,-,-⟩:=by unfold dR dL at C;exact C
   obtain⟨bb,avb,vsb,LD,-,-⟩:=by unfold dR dL at E;exact E
   injection Oo with e1 e2;injection LD with e3 e4;subst e1 e2 e3 e4;obtain⟨ao,cap,B,aeW⟩:=FO C;obtain⟨bo',aKH,L,aeX⟩:=FO E;refine dM X Yq B L ?_;refine⟨fun x w'=>w'=w3,?_,?_⟩
   .refine⟨fun x w'=>w'=w3/\x 63 = .bool G,?_,?_⟩
    .exact eV
    .rintro x w' ⟨rfl,hx⟩ d;exact fm hx
   .rintro x w' rfl d;have Uc:=(bB.drew (bB.refl (fun _ _=>False) w')).block _ _ B (fun h=>h);have JC:=(bB.drew (bB.refl (fun _ _=>False) w')).block _ _ L (fun h=>h);refine⟨fun x R=>Ext w' R/\name=Db/\l.length=l'.length,?_,?_⟩
    .refine⟨fun x R=>Ext w' R/\x 88 = .bool (decide (¬ (name=Db/\l.length=l'.length))),?_,?_⟩
     .by_cases hn:name=Db
      .subst hn;refine dF Uc JC ?_;grind [bB.refl,Int.ofNat_inj,bB.drew]
      .refine dF Uc JC ?_;exact yF
     .rintro x R ⟨S,hx⟩ d2;by_cases yg:name=Db/\l.length=l'.length
      .refine dM hx yg @not_true_eq_false @decide_false ?_;exact yF
      .rw[bI yg] at hr;cases hr;refine dM hx yg @not_false_eq_true @decide_true ?_;exact⟨yF,J,_,q.ext S⟩
    .rintro x R ⟨S,rfl,uJ⟩ d2;rw[zip ⟨J,uJ⟩] at hr;have aeY:=S.ext _ _ B;refine cO aeY ?_;unfold eu at Yo Ub;refine⟨fun m x I=>∃ j sj FT,x 94=zi (j:Nat)/\j<=l.length/\m=l.length-j/\ie D ρ n sb so T cs FT I sj/\di D R I/\sj.cW<=900000000/\(∃ g,g<=f/\nJ g (l.drop j) (l'.drop j) sj=O r),
      ⟨_,0,_,_,J,a1q _,J,q.ext S,yF,by grind [Sr.cW,Sr.dec],f,a1c _,hr⟩,?_⟩
     intro m x d I hI;refine toPr ?_;obtain⟨j,sj,FT,hx,hj,rfl,h4,gJ,zb,g,hg,F⟩:=hI;have Hw:di D w I:=K.trans ((di.eo S).trans gJ);cases g with
     | zero=>simp [nJ] at F
     | succ g=>
     by_cases hlt:j<l.length
     .have qY:j<l'.length:=zo;rw[a1h hlt,a1h qY,nJ] at F;obtain⟨ab,T8,v3,rfl,nz,Jw,EE⟩:=aeW j hlt;obtain⟨LA,cs4,v4,rfl,aeZ,ae0,vU⟩:=aeX j qY;have Ud:di D w' I:=(di.eo S).trans gJ;have tK:di D w' I.drew:=yF;have kt:∀ (b:Nat) (c:Array Y) (U:Nat),¬ lN U->w'.heap[b]?=aN c U->I.drew.heap[b]?=aN c U:=(by grind [di.bK]);have q1:=kt _ _ _ (by grind [lN]) B;have q2:=kt _ _ _ (by grind [lN]) L;have q3:=kt _ _ _ (by grind [lN]) nz;have q4:=kt _ _ _ (by grind [lN]) aeZ;have ej:((j:Nat):Int).toNat=j:=zo;refine dM hx @ej @q1 (zA @q2 (zA @q3 (zA @q4 (zA Jw ae0)))) ?_;cases gj:lS g l[j] l'[j] sj with
      | none=>rw[gj] at F;cases F
      | some r1=>
      have LF:di D I I.drew:=di.eo (bB.drew yF);refine a1a (ih g zo (h4.ext (bB.drew yF)) (fun b N=>hD b (a1d Hw.size N)) (EE.bK tK.toT) (by grind [Ju]) (vU.bK tK.toT) (by grind [Ju]) zb gj) ?_;rintro e w5 ⟨uf,H⟩;rw[gj] at F;cases r1 with
      | error t=>
       cases F;have H:e=ig t:=H;subst H;cases t<;>exact⟨Hw.trans yF,J⟩
      | ok p=>
       obtain⟨b1,s5⟩:=p;obtain⟨rfl,tv5,h5⟩:=H;simp only[P.Out.ee] at F;have Yr:=((FB g).tm gj).1;cases b1 with
       | false=>
        cases F;refine bG ?_;exact⟨Hw.trans yF,J,_,h5⟩
       | true=>
        refine cO hx ?_;exact⟨_,zo,j+1,s5,tv5,zs,zo,J,h5,gJ.trans yF,zg,g,zo,zg⟩
     .have BW:j=l.length:=zo;subst BW;rw[a17,uJ,a17,nJ] at F
      .cases F;refine cO hx ?_;exact⟨Hw,J,_,h4⟩
      grind
  .have hr:r = .ok (P.flat a' o,s.dec):=by
    cases a' with
    | var i=>cases M
    | atom x=>cases o with
     | var j=>cases z
     | atom y=>grind
     | int y=>grind
     | comp y l=>grind
    | int x=>cases o with
     | var j=>cases z
     | atom y=>grind
     | int y=>grind
     | comp y l=>grind
    | comp x k=>cases o with
     | var j=>cases z
     | atom y=>grind
     | int y=>grind
     | comp y l=>exact absurd ⟨J,J⟩ qQ
   subst hr;have ll:∀ {x y:Operand},RD bbl (bo .eql 89 x y (aj ut ux) (aj vt vx)) w3 (fun v=>EPost D w (xG D ρ n sb so T cs) (.ok (P.flat a' o,s.dec)) (ah v) w3) (PX (EPost D w (xG D ρ n sb so T cs) (.ok (P.flat a' o,s.dec)))):=fun{x y}=>by
    rw[aeS q.sv C E qQ];exact⟨K,J,_,q⟩
   by_cases B:BP a'=A
   .have L:BP o=false:=by
     grind
    obtain⟨_,_,e0,-,JD⟩:=E.other z L;cases e0;cases a' with
    | atom a=>cases B
    | int a=>cases B
    | var a=>cases B
    | comp name l=>
    obtain⟨ba,ava,vsa,Oo,-,-⟩:=by unfold dR dL at C;exact C
    cases Oo;refine jk X Yq JD ?_;refine⟨fun _ _=>False,?_,by rintro _ _ h;exact h.elim⟩;refine⟨fun x w'=>w'=w3/\x 63 = .bool A,?_,?_⟩
    .exact eV
    .rintro x w' ⟨rfl,hx⟩ d;refine cO hx ?_;exact ll
   .have B:BP a'=false:=zg;obtain⟨_,_,e0,-,Ue⟩:=C.other M B;cases e0;by_cases JD:vt=175
    .subst JD;refine jk X Yq Ue ?_;refine⟨fun _ _=>False,?_,by rintro _ _ h;exact h.elim⟩;refine⟨fun x w'=>w'=w3/\x 63 = .bool A,?_,?_⟩
     .exact eV
     .rintro x w' ⟨rfl,hx⟩ d;refine cO hx ?_;exact ll
    .refine dM X Yq Ue JD ?_;refine⟨fun _ _=>False,?_,by rintro _ _ h;exact h.elim⟩;refine⟨fun x w'=>w'=w3/\x 63 = .bool A,?_,?_⟩
     .exact eV
     .rintro x w' ⟨rfl,hx⟩ d;refine cO hx ?_;exact ll
end
section
variable{D:Nat->Prop}{ρ:Nat->Nat}{n sb so T:Nat}{cs:Array Y}
def aKI(hf:vS so T cs):∀ (f:Nat) {tv v u:Y} {w:Z} {s:Sr} {a b:Tm} {r:Except jQ (Bool×Sr)},ie D ρ n sb so T cs tv w s->dR ρ n w u a->eu a->dR ρ n w v b->eu b ->
  s.fuel<=900000000->CS f a b s=O r ->
  Calls bbl 218 #[pq sb so,u,v] w (EPost D w (xG D ρ n sb so T cs) r):=by
 intro f;induction f using a2J with
 | _ f ih=>
 intro tv v u w s a b r h ha Jy hb QE hz hr;cases f with
 | zero=>simp [CS] at hr
 | succ f=>
 rw[CS] at hr;refine aJT ?_;refine(Of h hf zo).mono ?_;rintro e w1 ⟨L,z⟩;by_cases h0:s.fuel=0
 .rw[zip h0] at hr z;injection hr with hr;subst hr z;simp only[ends,PC];exact⟨L,J⟩
 rw[bI h0] at hr z;obtain⟨rfl,z⟩:=z;have vn:=ha.bK L.toT;have jf:=hb.bK L.toT;have hdt:s.dec.tr=s.tr:=rfl;refine bG ?_;cases M:fE s.tr f a with
 | none=>rw[M] at hr;simp at hr
 | some a'=>
 cases R:fE s.tr f b with
 | none=>rw[M,R] at hr;cases a'<;>simp at hr
 | some F=>
 rw[M,R] at hr;refine a1a (Hs z.sv vn (f:=f) (by exact M)) ?_;rintro e w2 ⟨rfl,ua,rfl,H⟩;refine bG ?_;refine a1a (Hs z.sv jf (f:=f) (by exact R)) ?_;rintro e w3 ⟨rfl,ub,rfl,B⟩;have Yo:=tY h.ok Jy M;have Ub:=tY h.ok QE R;obtain⟨ut,ux,rfl⟩:=H.iface;obtain⟨vt,vx,rfl⟩:=B.iface;by_cases qQ:BP a'=A/\BP F=A
 .obtain⟨i,C⟩:=qQ;cases a' with
  | atom a=>cases i
  | int a=>cases i
  | var a=>cases i
  | comp name l=>
  cases F with
  | atom a=>cases C
  | int a=>cases C
  | var a=>cases C
  | comp S l'=>
  simp only at hr;obtain⟨ba,ava,vsa,Oo,-,-⟩:=by unfold dR dL at H;exact H
  obtain⟨bb,avb,vsb,LD,-,-⟩:=by unfold dR dL at B;exact B
  injection Oo with e1 e2;injection LD with e3 e4;subst e1 e2 e3 e4;obtain⟨ao,cap,i,aeW⟩:=FO H;obtain⟨bo',aKH,C,aeX⟩:=FO B;refine dF i C ?_;refine⟨fun x w'=>w'=w3,?_,?_⟩
  .refine⟨fun x w'=>w'=w3/\x 33 = .bool G,?_,?_⟩
   .exact eV
   .rintro x w' ⟨rfl,hx⟩ d;exact fm hx
  .rintro x w' rfl d;have Uc:=(bB.drew (bB.refl (fun _ _=>False) w')).block _ _ i (fun h=>h);have JC:=(bB.drew (bB.refl (fun _ _=>False) w')).block _ _ C (fun h=>h);refine⟨fun x I=>Ext w' I/\name=S/\l.length=l'.length,?_,?_⟩
   .refine⟨fun x I=>Ext w' I/\x 58 = .bool (decide (¬ (name=S/\l.length=l'.length))),?_,?_⟩
    .by_cases hn:name=S
     .subst hn;refine dF Uc JC ?_;grind [bB.refl,Int.ofNat_inj,bB.drew]
     .refine dF Uc JC ?_;exact yF
    .rintro x I ⟨K,hx⟩ d2;by_cases yg:name=S/\l.length=l'.length
     .refine dM hx yg @not_true_eq_false @decide_false ?_;exact yF
     .rw[bI yg] at hr;injection hr with hr;refine dM hx yg @not_false_eq_true @decide_true ?_;rw[<- hr];exact⟨yF,J,_,z.ext K⟩
   .rintro x I ⟨K,rfl,uJ⟩ d2;rw[zip ⟨J,uJ⟩] at hr;have aeY:=K.ext _ _ i;refine cO aeY ?_;unfold eu at Yo Ub;refine⟨fun m x E=>∃ j N FT,x 64=zi (j:Nat)/\j<=l.length/\m=l.length-j/\ie D ρ n sb so T cs FT E N/\di D I E/\N.fuel<=900000000/\(∃ g,g<=f/\BO g (l.drop j) (l'.drop j) N=O r),
     ⟨_,0,_,_,J,a1q _,J,z.ext K,yF,by grind [Sr.dec],f,a1c _,hr⟩,?_⟩
    intro m x d E hI;refine toPr ?_;obtain⟨j,N,FT,hx,hj,rfl,h4,gJ,zb,g,hg,o⟩:=hI;have Hw:di D w E:=L.trans ((di.eo K).trans gJ);cases g with
    | zero=>simp [BO] at o
    | succ g=>
    by_cases hlt:j<l.length
    .have qY:j<l'.length:=zo;rw[a1h hlt,a1h qY,BO] at o;obtain⟨ab,T8,v3,rfl,nz,Jw,EE⟩:=aeW j hlt;obtain⟨LA,cs4,v4,rfl,aeZ,ae0,vU⟩:=aeX j qY;have Ud:di D w' E:=(di.eo K).trans gJ;have tK:di D w' E.drew:=yF;have kt:∀ (b:Nat) (c:Array Y) (U:Nat),¬ lN U->w'.heap[b]?=aN c U->E.drew.heap[b]?=aN c U:=(by grind [di.bK]);have q1:=kt _ _ _ (by grind [lN]) i;have q2:=kt _ _ _ (by grind [lN]) C;have q3:=kt _ _ _ (by grind [lN]) nz;have q4:=kt _ _ _ (by grind [lN]) aeZ;have ej:((j:Nat):Int).toNat=j:=zo;refine dM hx @ej @q1 (zA @q2 (zA @q3 (zA @q4 (zA Jw ae0)))) ?_;cases W:CS g l[j] l'[j] N with
     | none=>rw[W] at o;cases o
     | some r1=>
     have LF:di D E E.drew:=di.eo (bB.drew yF);refine a1a (ih g zo (h4.ext (bB.drew yF)) (EE.bK tK.toT) (by grind [Ju]) (vU.bK tK.toT) (by grind [Ju]) zb W) ?_;rintro e w5 ⟨uf,X⟩;rw[W] at o;cases r1 with
     | error t=>
      cases o;have X:e=ig t:=X;subst X;cases t<;>exact⟨Hw.trans yF,J⟩
     | ok p=>
      obtain⟨b1,s5⟩:=p;obtain⟨rfl,tv5,h5⟩:=X;simp only[P.Out.ee] at o;have Yr:=((TD g).tm W).2;cases b1 with
      | false=>
       cases o;refine bG ?_;exact⟨Hw.trans yF,J,_,h5⟩
      | true=>
       refine cO hx ?_;exact⟨_,zo,j+1,s5,tv5,zs,zo,J,h5,gJ.trans yF,zg,g,zo,zg⟩
    .have BW:j=l.length:=zo;subst BW;rw[a17,uJ,a17,BO] at o
     .cases o;refine cO hx ?_;exact⟨Hw,J,_,h4⟩
     grind
 .have hr:r = .ok (P.flat a' F,s.dec):=by
   cases a' with
   | comp x k=>cases F with
    | comp y l=>exact absurd ⟨J,J⟩ qQ
    | _=>exact zg
   | _=>exact zg
  subst hr;have ll:∀ {x y:Operand},RD bbl (bo .eql 89 x y (aj ut ux) (aj vt vx)) w3 (fun v=>EPost D w (xG D ρ n sb so T cs) (.ok (P.flat a' F,s.dec)) (ah v) w3) (PX (EPost D w (xG D ρ n sb so T cs) (.ok (P.flat a' F,s.dec)))):=fun{x y}=>by
   rw[aeS z.sv H B qQ];exact⟨L,J,_,z⟩
  have Q:∀ {u:Nat} {x:Y} {t:Tm},dR ρ n w3 (aj u x) t->BP t=G->¬ u=175:=fun{u x t} h hc=>by
   cases t with
   | atom a=>unfold dR dL at h;grind
   | int a=>unfold dR dL at h;grind
   | var a=>unfold dR dL at h;grind
   | comp a l=>cases hc
  by_cases i:BP a'=A
  .have C:BP F=false:=by
    grind
   have JD:=Q B C;cases a' with
   | atom a=>cases i
   | int a=>cases i
   | var a=>cases i
   | comp name l=>
   obtain⟨ba,ava,vsa,Oo,-,-⟩:=by unfold dR dL at H;exact H
   cases Oo;refine cO JD ?_;refine⟨fun _ _=>False,?_,by rintro _ _ h;exact h.elim⟩;refine⟨fun x w'=>w'=w3/\x 33 = .bool A,?_,?_⟩
   .exact eV
   .rintro x w' ⟨rfl,hx⟩ d;refine cO hx ?_;exact ll
  .have i:BP a'=false:=zg;have Ue:=Q H i;by_cases JD:vt=175
   .subst JD;obtain⟨q,o⟩:∃ q,vx = .pointer q:=by
     cases F with
     | atom a=>unfold dR dL at B;grind
     | int a=>unfold dR dL at B;grind
     | var a=>unfold dR dL at B;grind
     | comp a l=>unfold dR dL at B;grind
    subst o;refine cO Ue ?_;refine⟨fun _ _=>False,?_,by rintro _ _ h;exact h.elim⟩;refine⟨fun x w'=>w'=w3/\x 33 = .bool A,?_,?_⟩
    .exact eV
    .rintro x w' ⟨rfl,hx⟩ d;refine cO hx ?_;exact ll
   .refine dF Ue JD ?_;refine⟨fun _ _=>False,?_,by rintro _ _ h;exact h.elim⟩;refine⟨fun x w'=>w'=w3/\x 33 = .bool A,?_,?_⟩
    .exact eV
    .rintro x w' ⟨rfl,hx⟩ d;refine cO hx ?_;exact ll
end
def Uf(z:Int):IntKind.i64.wrap z=P.wrap64 z:=by
 grind [IntKind.wrap,IntKind.bits,IntKind.signed,P.wrap64]
def Tryz.aKJ(a b:Bool)(w:Z):(Op.equalIn Op.maxDepth 4 (.bool a) (.bool b)).run bbl w = .ok (a == b) w:=by
 cases a<;>cases b<;>kernel_rfl
def aKK{w:Z}{x:Operand}(a b:Bool):RD bbl (bo .neq 4 x y (.bool a) (.bool b)) w K X=K (.bool (decide (a≠b))):=
 ij (by
  simp [bo,eqGuard,binOp,Op.equal,Sem.run_bind,Tryz.aKJ];grind)
def aKL(name:Bs)(a b:Int)(w:Z):Calls bbl 222 #[.string (bs name),zi a,zi b] w fun e w'=>Ext w w'/\e=(match P.reckon name a b with | .ok z=>ah (zi z) | .error t=>ig t):=by
 refine aJU ?_;unfold P.reckon;by_cases i:name=[43]
 .subst i;refine bG ?_;rw[Uf];exact yF
 rw[bI i];by_cases j:name=[45]
 .subst j;refine bG ?_;rw[Uf];exact yF
 rw[bI j];by_cases k:name=[42]
 .subst k;refine bG ?_;rw[Uf];exact yF
 rw[bI k];refine jk i j k ?_;by_cases c:b=0
 .rw[zip c];refine⟨fun _ _=>False,?_,by rintro _ _ h;exact h.elim⟩;refine cO c ?_;exact⟨yF,J⟩
 rw[bI c];refine⟨fun _ w'=>w'=w,?_,?_⟩
 .exact fm c
 .rintro s w' rfl d;by_cases l:name=[47,47]
  .subst l;refine bG ?_;rw[axt _ _ _ c,Uf];exact yF
  rw[bI l];refine cO l ?_;rw[axs _ _ _ c];obtain⟨m,hm⟩:=cg (a.tmod b);rw[<- hm];refine⟨fun s w1=>w1=w'/\s 7=zi (if m≠0/\(decide (m<0)≠decide (b<0)) then P.wrap64 (m+b) else m),?_,?_⟩
  .refine⟨fun s w1=>w1=w'/\s 43 = .bool (decide (m≠0/\(decide (m<0)≠decide (b<0)))),?_,?_⟩
   .by_cases n:m=0
    .refine cO n ?_;simp
    .refine cO n ?_;rw[aKK];grind [jv]
   .rintro s w1 ⟨rfl,f⟩ d;by_cases g:m≠0/\(decide (m<0)≠decide (b<0))
    .rw[zip g];rw[decide_eq_true g] at f;exact mn f @Uf
    .rw[bI g];rw[decide_eq_false g] at f;exact fm f
  exact yF
