/- A part of one proof (PW1, ShP1, ShP2, PW2, PW3, PW4, ShX1, KS1, GBase3, KS2, KS3). -/
import Derived.Test.YtoegidfbnkaabaaGreatDoorPkIAP
import Derived.Shelf.Strings.BuilderF
import Derived.Shelf.Strconv.Itoa4
import Derived.Lib.ItoaLen
set_option linter.all false
set_option maxRecDepth 100000
set_option maxHeartbeats 8000000
open Option renaming some → O, none → V
open Go renaming Value → Y, World → Z
open Bool renaming true → A, false → G
open Go.Obj renaming cells → ae
open Go.Ending renaming returned → ah
open Go.Value renaming nilIface → ai, iface → aj, tuple → ak, pointer → aq
open Option.some renaming injEq → a07, inj → a1b
open List renaming mem_cons → a1g, nil_append → a2f, take_append_drop → a3c
open Prod.mk renaming injEq → a1z
open Option renaming map_eq_some_iff → a1C
open Go.Value renaming ownBlock → a1R
open Go.Result renaming andThen → a16
open Go.Oper renaming upon_value → a3B
open Go.Lib renaming decDigits → a6i
open Go.Proofs.Tryz renaming prog → bbk
open Go.Proofs.Tryz
namespace Go.Proofs.YtoegidfbnkaabaaGreatDoor
open P
open Go.RowKit Sx
variable{D F:Nat->Prop}{K:Y->Prop}{S buf nm u v z:Y}{X:Y->Z->Prop}{b base c cap e f g i k n pb so wb:Nat}{cs iL:Array Y}{es:Array MapEntry}{out:Bs}{tr:Tr}{w' w1 w2:Z}{xs:List Y}{ρ:Nat->Nat}
abbrev uP(l:Bs):List Y:=l.map fun c=>.int .u8 c.toNat
def tJ(w:Z)(wb:Nat)(S nm:Y)(out:Bs):Prop:=
 ∃ a buf,(a = aq V\/a=pp wb)/\w.heap[wb]?=aN #[a,buf,S,nm] 103/\w.ownsRow (wb+1) 5 1 buf out.length (uP out)
def MB(wb b:Nat)(o:Obj):Prop:=b=wb\/(wb<b/\∃ cs z,o = ae cs 5 z)
abbrev jT(wb:Nat)(w w':Z):Prop:=bB (MB wb) w w'
def Ya:(Tryz.prog.info? 100).map (·.size)=O 2:=zk
def aJt:liesAt bbk Tryz.prog.depth 103 (4 / Tryz.prog.cellsOf 103) 0 100 1=true:=zk
def aJu{w:Z}(h:w.heap[b]?=aN #[pp b,buf,S,nm] 103) :
  Calls bbk 82 #[pp b] w fun e w'=>e = ah (ak #[])/\w'=w:=by
 obtain⟨j,hj,_⟩:=a1C.1 Ya;have h0:w.cell? ⟨b,0,V⟩=O (pp b):=by grind [World.cell?]
 go_enter func82,ntmps82
 go_wp2
 rw[Lib.run_neq_ptr_same w _ underlying97 hj]
 go_wp2
 go_end0
 grind
def aJv{w:Z}(h:w.heap[b]?=aN #[aq V,buf,S,nm] 103) :
  Calls bbk 82 #[pp b] w fun e w'=>e = ah (ak #[])/\w'=w.setCell ⟨b,0,V⟩ (pp b):=by
 obtain⟨j,hj,Qu⟩:=a1C.1 Ya;have h0:w.cell? ⟨b,0,V⟩=O (aq V):=by grind [World.cell?]
 have IS:w.frozen? ⟨b,0,V⟩=false:=jX h 0;have tG:w.shape? b=O (103,4):=by grind [World.shape?]
 go_enter func82,ntmps82
 go_wp2
 rw[Lib.run_to_unsafe w ⟨b,0,V⟩ underlying97 underlying155 hj zo tG (Nat.zero_lt_succ 3)];simp only[a16];rw[a3B]
 go_wp2
 rw[run_callFunc_extern func110 zk zk zk (e:=Extern.AbiNoEscape.same) zk];rw[Lib.run_noEscape];simp only[a16];rw[a3B]
 go_wp2
 rw[Lib.run_from_unsafe w ⟨b,0,V⟩ underlying155 underlying97 hj tG aJt];simp only[a16];rw[a3B]
 go_wp2
 go_end0
 grind
def aof{w:Z}(h:tJ w wb S nm out) :
  Calls bbk 82 #[pp wb] w fun e w'=>e = ah (ak #[])/\jT wb w w'/\w'.heap.size=w.heap.size/\∃ buf,
   w'.heap[wb]?=aN #[pp wb,buf,S,nm] 103/\w'.ownsRow (wb+1) 5 1 buf out.length (uP out):=by
 obtain⟨d,buf,b,a,c⟩:=h;rcases b with rfl | rfl
 .refine(aJv a).mono ?_;rintro e w' ⟨rfl,rfl⟩;rw[vq a];refine⟨J,(bB.refl _ _).bS (.inl fun _=>.inl J),yH,buf,yH,(by grind [Kz])⟩
 .refine(aJu a).mono ?_;rintro e w' ⟨rfl,rfl⟩;exact⟨J,bB.refl _ _,J,buf,a,c⟩
def jT.Yb(d:w1.ownsRow (wb+1) 5 1 buf n xs)(a:w1.grownBy w2 buf.ownBlock):jT wb w1 w2:=⟨a.os,a.tape,a.output,a.size,fun b o c hm=>by
 rw[a.block b (bh c) (fun e=>?_)]
 .exact yH
 .rcases d.2 with⟨rfl,_⟩| ⟨g,cap,cur,rfl,h,f,_⟩
  .cases e
  .simp only[a1R,a07] at e;subst e;rw[f] at c;injection c with c;exact hm (.inr zg)⟩
def aJw{w:Z}(h:tJ w wb S nm out)(s:Bs)(f:out.length+s.length<=1000000000) :
  Calls bbk 44 #[pp wb,aT s] w fun e w'=>(∃ v,e = ah v)/\tJ w' wb S nm (out++s)/\jT wb w w':=by
 refine aoc ?_;refine(aof h).mono ?_;rintro e w1 ⟨rfl,g,s1,buf,b,a⟩;have i:=bh b;refine cO b ?_;refine ajK (e:=5) zk a s f zo ?_;intro v' w2 o2 c hv;have d:w2.heap[wb]?=aN #[pp wb,buf,S,nm] 103:=by
  rw[c.block wb i (fun e=>by have:=(a.lt wb e.symm).1;omega)];omega
 have j:=bh d;obtain⟨l,rc,rfl⟩:=il o2;refine cO d ?_;have k:jT wb w1 w2:=jT.Yb a c;refine⟨⟨_,J⟩,⟨_,_,.inr J,qJ J j,Kz ?_ zo⟩,(g.trans k).bS (.inl fun _=>.inl J)⟩;grind
def aog:(Tryz.prog.info? 5).map (fun i=>(i.zero,i.size,i.bytes))=O (O (.int .u8 0),1,1):=zk
def aoh{w:Z}(h:tJ w wb S nm out)(c:UInt8)(j:out.length+1<=1000000000) :
  Ho (pp wb) (.int .u8 c.toNat) w fun e w'=>(∃ v,e = ah v)/\tJ w' wb S nm (out++[c])/\jT wb w w':=by
 obtain⟨i,k,d⟩:=a1C.1 aog;simp only[a1z] at d;obtain⟨l,n,o⟩:=d;unfold Ho;refine Calls.mono (aof h) ?_;rintro e w1 ⟨rfl,p,s1,buf,f,a⟩;have s:=bh f;refine dF @Ho.eq_1 f ?_;refine Sx.DP (m:=1) (t:=98) (e:=5) zk k l n o J zd (a.alloc _) (blk_alloc_new _ _) J (fun u hu=>?_) j zd (by rw[size_alloc];omega) ?_
 .simp only[a1g,List.not_mem_nil,or_false] at hu;subst hu;rfl
 intro v' w2 o2 b hv;have s2:=b.size;rw[size_alloc] at s2;have g:w2.heap[wb]?=aN #[pp wb,buf,S,nm] 103:=by
  rw[b.block wb (yH) (fun e=>by have:=(a.lt wb e.symm).1;omega)];exact yH
 have q:=bh g;obtain⟨x,rc,rfl⟩:=il o2;refine dF @Ho.eq_1 g ?_;have r:jT wb w1 w2:=((bB.refl _ _).alloc _).trans (jT.Yb (a.alloc _) b);refine⟨⟨_,J⟩,⟨_,_,.inr J,qJ J q,Kz ?_ zo⟩,(p.trans r).bS (.inl fun _=>.inl J)⟩;grind
def aJx{w:Z}(h:tJ w wb S nm out)(c:UInt8)(a:out.length+1<=1000000000) :
  Calls bbk 95 #[pp wb,.int .u8 c.toNat] w fun e w'=>(∃ v,e = ah v)/\tJ w' wb S nm (out++[c])/\jT wb w w':=
 aod (aoh h c a)
def aoi{w:Z}(h:tJ w wb S nm out)(c:UInt8)(a:out.length+1<=1000000000){u:FrameMode} :
  CallsD bbk 95 #[pp wb,.int .u8 c.toNat] u w fun e b w'=>b=u/\(∃ v,e = ah v)/\tJ w' wb S nm (out++[c])/\jT wb w w':=
 aJq (aoh h c a)
def aoj:Tryz.prog.cellsOf 5=1:=zk
def aok{w:Z}{z:Nat×Nat}(d:wb<g)(c:w.heap[g]?=O (ae iL 5 z)):jT wb w (w.freeze ⟨g,0,V⟩ n):=by
 unfold World.freeze;split
 .grind [bB.refl]
 .exact⟨J,J,J,zs,fun b o a hm=>by
   simp only[Array.getElem?_modify];rw[bI]
   .omega
   .rintro rfl;rw[c] at a;injection a with a;exact hm (.inr zg)⟩
def aew{w:Z}(h:tJ w wb S nm out)(h0:out≠[]) :
  Calls bbk 33 #[pp wb] w fun e w'=>e = ah (aT out)/\jT wb w w':=by
 obtain⟨ad,buf,Hq,hb,ho⟩:=h;have rp:out.length≠0:=zg;obtain⟨g,cap,cur,rfl,hbg,hg,vk,DJ,jC,aat⟩:∃ g cap cur,buf = cV g out.length cap/\wb+1<=g/\w.heap[g]?=aN cur 5/\out.length<=cap/\cap<=maxLen/\cur.size=cap*1/\cur.toList.take (out.length*1)=uP out:=by
  rcases ho.2 with⟨_,hz⟩| ⟨g,cap,cur,hv,r⟩
  .exact yH
  .exact⟨g,cap,cur,hv,r⟩
 have nW:w.drew.heap[wb]?=aN #[ad,cV g out.length cap,S,nm] 103:=hb;have c1:w.drew.cell? ⟨wb,1,V⟩=O (cV g out.length cap):=by grind [World.cell?]
 have hSD:(Builtin.unsafeSliceData_ #[98] 181 #[cV g out.length cap]).run bbk w.drew = .ok (pp g) w.drew:=
  (by grind [Lib.run_unsafeSliceData_row])
 have hUS:(Builtin.unsafeString_ #[181,3] 9 #[pp g,zi out.length]).run bbk w.drew = .ok (aT out) (w.drew.freeze ⟨g,0,V⟩ out.length):=by
  refine Lib.run_unsafeString_row w.drew 181 3 9 5 underlying181 aoj g cur.size (by have jK:w.drew.heap[g]?=aN cur 5:=hg;grind [World.shape?]) out h0 zo (by grind [maxLen]) ?_;intro j x hx;have:=ho.cells (g:=g) J j (.int .u8 x.toNat) zg;exact this
 go_enter func33,ntmps33
 go_wp2
 go_region
 all_goals (go_wp2;go_ret;exact⟨J,(bB.drew (bB.refl _ _)).trans (aok zo hg)⟩)
open Go.Proofs.YtoegidfbnkaabaaGreatDoor.Sx
section
variable{p0 p1 p2 p3 p4 p5 p6 p7:Y}{w:Z}{R:Ending->Z->Prop}
def aJA:=cz w R [p0] (gc [] [] [13]) func61
def aJB:=cz w R [p0] (gc [(1,[0])] [(2000,[18]),(3001,[])] [4,9,10,17,18]) func62
def aJC:=cz w R [p0,p1] (gc [] [(3000,[8]),(5000,[15])] [5,7,8,13,14,15,24,25]) func94
def aJD:=cz w R [p0,p1] (gd [(10,[46])] [] [] [(12,[13,0,1,2,3,4,5,6,7,8,9,10,11,12])] [] [] [12,13,19,20,26,27,47]) func32
def aJE:=cz w R [p0] (gc [] [(3001,[])] [13]) func59
def aJF:=cz w R [p0] (gc [] [] []) func30
def aJG:=cz w R [p0] (gc [(6,[25])] [] [15,26]) func24
def aJH:=cz w R [p0] (gc [] [] []) func13
end
section
variable{p0 p1 p2 p3 p4 p5 p6 p7:Y}{w:Z}{R:Ending->Z->Prop}
def aJI:=cz w R [p0,p1,p2] (gd [] [(13001,[]),(15004,[9])] [] [(7,[6,0,1,2,3,4,5]),(16,[7,0,1,2,3,4,5,6])] [] [] [10,20,28,37,47,48,49,54,79]) func31
def aJJ:=cz w R [p0,p1] (gc [(1,[1,4])] [(7000,[42]),(12008,[1])] [28,41,42,45,48]) func96
def aJK:=cy w R [p0,p1,p2] (gd [(3,[32])] [(16002,[]),(18000,[101])] [(0,9),(1,7),(5,6),(16,7)] [] [] [] [33,52,54,57,78,101,113,114]) func65
end
mutual
def dL (F:Nat->Prop) (ρ:Nat->Nat) (n:Nat) (w:Z) (v:Y):Tm->Prop
 | .atom s=>v = aj 171 (.string (bs s))
 | .int k=>v = aj 172 (.int .i64 k)
 | .var i=>i<n/\v = aj 87 (aq (O ⟨ρ i,0,V⟩))
 | .comp name args=>∃ b av vs,v = aj 175 (aq (O ⟨b,0,V⟩))/\F b/\w.heap[b]?=O (ae #[.string (bs name),av] 180 (0,0)) /\
  fJ F w 89 av vs/\iT F ρ n w vs args
 termination_by structural t=>t
def iT (F:Nat->Prop) (ρ:Nat->Nat) (n:Nat) (w:Z) (vs:List Y):List Tm->Prop
 | []=>vs=[]
 | t::ts=>∃ v r,vs=v::r/\dL F ρ n w v t/\iT F ρ n w r ts
 termination_by structural t=>t
end
abbrev dR(ρ:Nat->Nat)(n:Nat)(w:Z)(v:Y)(t:Tm):Prop:=dL (fun _=>True) ρ n w v t
abbrev qp(ρ:Nat->Nat)(n:Nat)(w:Z)(vs:List Y)(ts:List Tm):Prop:=iT (fun _=>True) ρ n w vs ts
def rH(F:Nat->Prop)(w w':Z):Prop:=∀ b cs t,F b->t=180\/t=89->w.heap[b]?=aN cs t->w'.heap[b]?=aN cs t
abbrev Yc(w w':Z):Prop:=rH (fun _=>True) w w'
theorem rH.eo{w:Z}(h:Ext w w'):rH F w w':=fun b cs t _ _ a=>h.ext b _ a
mutual
theorem dL.mono {F F':Nat->Prop} {ρ eQ:Nat->Nat} {n c:Nat} {w w':Z} (a:∀ b,F b->F' b) (d:n<=c) (e:∀ i,i<n->eQ i=ρ i) (hw:rH F w w'):∀ (t:Tm) (v:Y),dL F ρ n w v t->dL F' eQ c w' v t
 | .atom s,v,h=>by grind [dL]
 | .int k,v,h=>by grind [dL]
 | .var i,v,h=>by
  grind [dL]
 | .comp name args,v,h=>by
  unfold dL at h ⊢;obtain⟨b,av,vs,g,f,j,l,m⟩:=h;exact⟨b,av,vs,g,a b f,hw b _ _ f (.inl J) j,l.mono a fun b cs o p=>hw b _ _ o (.inr J) p,iT.mono a d e hw args vs m⟩
 termination_by structural t=>t
theorem iT.mono {F F':Nat->Prop} {ρ eQ:Nat->Nat} {n c:Nat} {w w':Z} (a:∀ b,F b->F' b) (d:n<=c) (e:∀ i,i<n->eQ i=ρ i) (hw:rH F w w'):∀ (ts:List Tm) (vs:List Y),iT F ρ n w vs ts->iT F' eQ c w' vs ts
 | [],vs,h=>by grind [iT]
 | t::ts,vs,h=>by
  unfold iT at h ⊢;obtain⟨v,r,g,f,j⟩:=h;exact⟨v,r,g,dL.mono a d e hw t v f,iT.mono a d e hw ts r j⟩
 termination_by structural t=>t
end
theorem dL.bK{w:Z}{t:Tm}(h:dL F ρ n w v t)(hw:rH F w w'):dL F ρ n w' v t:=dL.mono zg zo zg hw t v h
theorem iT.bK{w:Z}{t:List Tm}{v:List Y}(h:iT F ρ n w v t)(hw:rH F w w'):iT F ρ n w' v t:=iT.mono zg zo zg hw t v h
theorem dL.toT{w:Z}{t:Tm}(h:dL F ρ n w v t):dR ρ n w v t:=dL.mono zg zo zg (fun _ _ _ _ _ h=>h) t v h
theorem iT.toT{w:Z}{t:List Tm}{v:List Y}(h:iT F ρ n w v t):qp ρ n w v t:=iT.mono zg zo zg (fun _ _ _ _ _ h=>h) t v h
def iT.snoc{F:Nat->Prop}{ρ:Nat->Nat}{n:Nat}{w:Z}{v:Y}{x:Tm}(hx:dL F ρ n w v x):∀ {xs:List Tm} {vs:List Y},iT F ρ n w vs xs->iT F ρ n w (vs++[v]) (xs++[x])
 | [],vs,h=>by
  unfold iT at h;subst h;show iT F ρ n w [v] [x];unfold iT;exact⟨v,[],J,hx,by unfold iT;rfl⟩
 | y::a,vs,h=>by
  unfold iT at h;obtain⟨u,r,rfl,b,c⟩:=h;show iT F ρ n w (u::(r++[v])) (y::(a++[x]));unfold iT;exact⟨u,r++[v],J,b,iT.snoc hx c⟩
def iT.length{F:Nat->Prop}{ρ:Nat->Nat}{n:Nat}{w:Z}:∀ {xs:List Tm} {vs:List Y},iT F ρ n w vs xs->vs.length=xs.length
 | [],vs,h=>by unfold iT at h;subst h;rfl
 | y::b,vs,h=>by
  unfold iT at h;obtain⟨u,r,rfl,c,a⟩:=h;simp [iT.length a]
theorem iT.at{F:Nat->Prop}{ρ:Nat->Nat}{n:Nat}{w:Z}:∀ {xs:List Tm} {vs:List Y} (j:Nat) (a:j<xs.length),iT F ρ n w vs xs->∃ v,vs[j]?=O v/\dL F ρ n w v xs[j]
 | x::xs,vs,0,_,h=>by
  unfold iT at h;grind
 | x::xs,vs,j+1,a,h=>by
  unfold iT at h;obtain⟨u,r,rfl,c,b⟩:=h;simpa using iT.at j zg b
def dL.iface{F:Nat->Prop}{ρ:Nat->Nat}{n:Nat}{w:Z}{v:Y}:∀ {t:Tm},dL F ρ n w v t->∃ u x,v = aj u x
 | .atom s,h=>by unfold dL at h;exact⟨_,_,h⟩
 | .int s,h=>by unfold dL at h;exact⟨_,_,h⟩
 | .var s,h=>by unfold dL at h;exact⟨_,_,h.2⟩
 | .comp s l,h=>by unfold dL at h;obtain⟨b,av,vs,h,-⟩:=h;exact⟨_,_,h⟩
structure C7(ρ:Nat->Nat)(n:Nat)(tr:Tr)(w:Z):Prop where
 inj:∀ i j,i<n->j<n->ρ i=ρ j->i=j
 var:∀ i,i<n->∃ ref,w.heap[ρ i]?=O (ae #[ref] 91)/\(match P.look i tr with | none=>ref = ai | some t=>dR ρ n w ref t)
def Hr(w w':Z):Prop:=∀ (b:Nat) (cs:Array Y) (t:Nat),t=180\/t=89\/t=91->w.heap[b]?=aN cs t->w'.heap[b]?=aN cs t
theorem Hr.toT{w:Z}(h:Hr w w'):Yc w w':=fun b cs t _ ht=>h b cs t zg
theorem Hr.eo{w:Z}(h:Ext w w'):Hr w w':=fun b cs t _ a=>h.ext b _ a
theorem C7.bK{ρ:Nat->Nat}{n:Nat}{tr:Tr}{w w':Z}(h:C7 ρ n tr w)(hk:Hr w w'):C7 ρ n tr w':=
 ⟨h.inj,fun i a=>by
  obtain⟨ref,b,c⟩:=h.var i a;refine⟨ref,hk _ _ _ zg b,?_⟩;grind [dL.bK,Hr.toT]⟩
def Hs{w:Z}{t j:Tm}(h:C7 ρ n tr w)(hv:dR ρ n w v t)(hw:fE tr f t=O j) :
  Calls bbk 62 #[v] w fun e w'=>w'=w/\∃ u,e = ah u/\dR ρ n w u j:=by
 refine aJB ?_;refine⟨fun m s w1=>w1=w/\∃ t1,dR ρ n w (s 0) t1/\fE tr m t1=O j,⟨f,J,t,hv,hw⟩,?_⟩;intro m s d w1 q;refine toPr ?_;obtain⟨rfl,t1,c,k⟩:=q;by_cases r:∃ i,t1 = .var i
 .obtain⟨i,rfl⟩:=r;unfold dL at c;obtain⟨y,g⟩:=c;obtain⟨ref,g1,g2⟩:=h.var i y;cases o:P.look i tr with
  | none=>
   rw[o] at g2;have g2:ref = ai:=g2;subst g2;have ht:j = .var i:=by
    grind [fE]
   refine cO g ?_;refine⟨fun _ _=>False,?_,by rintro _ _ h;exact h.elim⟩;refine⟨fun x w'=>w'=w1/\x 18 = .bool A,?_,?_⟩
   .simp (disch:=first|assumption|omega|simp only[zS]<;>omega|decide) only[zB,simprocAttr,lE,g1,jv]
   .rintro x w' ⟨rfl,hx⟩ d2;refine cO hx ?_;rw[ht];unfold dL;grind
  | some t2=>
   rw[o] at g2;have g2:dR ρ n w1 ref t2:=g2;obtain⟨u,x,p⟩:=g2.iface;cases m with
   | zero=>simp [fE,o] at k
   | succ m=>
   simp [fE,o] at k;subst p;refine cO g ?_;refine⟨fun _ w'=>w'=w1,?_,?_⟩
   .refine⟨fun x w'=>w'=w1/\x 18 = .bool G,?_,?_⟩
    .simp (disch:=first|assumption|omega|simp only[zS]<;>omega|decide) only[zB,simprocAttr,lE,g1,jv]
    .rintro x w' ⟨rfl,hx⟩ d2;exact fm hx
   .rintro x w' rfl d2;refine cO @g1 ?_;grind
 .have ht:t1=j:=by
   cases m<;>cases t1<;>simp [fE] at k<;>first | exact k | exact zg
  have g:∃ u x,s 0 = aj u x/\¬ u=87:=by
   cases t1 with
   | atom a=>unfold dL at c;exact⟨_,_,c,zd⟩
   | int a=>unfold dL at c;exact⟨_,_,c,zd⟩
   | var a=>grind
   | comp a l=>unfold dL at c;obtain⟨b,av,vs,c,-⟩:=c;exact⟨_,_,c,zd⟩
  obtain⟨u,x,g,hu⟩:=g;refine dF g hu ?_;refine⟨fun _ _=>False,?_,by rintro _ _ h;exact h.elim⟩;refine⟨fun x w'=>w'=w1/\x 18 = .bool A,?_,?_⟩
  .simp (disch:=first|assumption|omega|simp only[zS]<;>omega|decide) only[zB,simprocAttr,lE,jv]
  .rintro z w' ⟨rfl,hx⟩ d2;refine cO hx ?_;grind
def gsi{cs:Array Y}{i:Nat}{v:Y}(h:i<cs.size):(cs.setIfInBounds i v)[i]?=O v:=zg
def ssz:(cs.setIfInBounds i v).size=cs.size:=zs
def sss:(cs.setIfInBounds i v).setIfInBounds i u=cs.setIfInBounds i u:=zs
abbrev Od:Ending:=.panicked [{ v:=aj 134 (.agg #[]),recovered:=false }]
abbrev kJ(cs:Array Y)(so:Nat)(z:Int):Array Y:=cs.setIfInBounds (so+1) (zi z)
def aon{w:Z}{T:Nat}{z:Int}(a:w.heap[pb]?=aN (kJ cs so z) T)(d:so+2<=cs.size)(f:0<=z/\z<=1000000000) :
  Calls bbk 61 #[pq pb so] w fun e w'=>
   e=(if z=0 then Od else ah (ak #[]))/\w'=bS w pb (ae (kJ cs so (z-1)) T (0,0)):=by
 have l:=bh a;have b:(kJ cs so z)[so+1]?=O (zi z):=zg;have g:(kJ cs so z).size=cs.size:=ssz;refine aJA ?_;by_cases h:z=0
 .have c:z-1<0:=zo;refine dM a b @gsi (zA @ssz @sss) ?_;grind
 .have c:¬ z-1<0:=zo;refine dM a b @gsi (zA @ssz @sss) ?_;grind
def aoo(name:Bs)(n:Nat)(w:Z):Calls bbk 94 #[aT name,zi n] w fun e w'=>e = ah (zi (iK name n))/\w'=w:=by
 refine aJC ?_;unfold iK;by_cases h:n=2
 .subst h;have e0:((2:Nat):Int)=2:=rfl;refine cO @e0 ?_;refine⟨fun x w'=>w'=w/\x 8 = .bool (decide (name=[43]\/name=[45])),?_,?_⟩
  .by_cases b:name=[43]
   .refine cO b ?_;grind
   .refine cO b ?_;grind
  .rintro x w' ⟨rfl,hx⟩ d;rw[hx];by_cases b:name=[43]\/name=[45]
   .rw[GB _ _ b];grind
   .rw[GC _ _ b];refine⟨fun x c=>c=w'/\x 15 = .bool (decide (name=[42]\/name=[47,47]\/name=[109,111,100])),?_,?_⟩
    .by_cases a:name=[42]
     .refine cO a ?_;grind
     .by_cases f:name=[47,47]
      .refine dF a f ?_;grind
      .refine dF a f ?_;grind
    .rintro x c ⟨rfl,hx⟩ d;rw[hx];by_cases a:name=[42]\/name=[47,47]\/name=[109,111,100]
     .rw[GB _ _ a];grind
     .rw[GC _ _ a];grind
 .have g:¬ (n:Int)=2:=zo;refine bG ?_;grind
def kZ(w:Z):Prop:=Lib.TabIs bbk w "internal/strconv.uint64pow10" .u64 Lib.pow10Tab
def Yd:Tryz.prog.globalNamed "internal/strconv.uint64pow10" = O 4:=zk
theorem kZ.bK{w:Z}(h:kZ w)(hw:∀ o,w.heap[4]?=O o->w'.heap[4]?=O o):kZ w':=by
 unfold kZ Lib.TabIs World.var? at h ⊢;rw[Yd] at h ⊢;simp only[Option.bind_some] at h ⊢;cases a:w.heap[4]? with
 | none=>rw[a] at h;cases h
 | some o=>rw[hw o a];rw[a] at h;exact h
theorem kZ.ext{w w':Z}(h:kZ w)(a:Ext w w'):kZ w':=(by grind [bK,bB.ext])
def aop:∀ (f n:Nat),n<f->BM f n=a6i n
 | 0,n,h=>zo
 | f+1,n,h=>by
  rw[BM,a6i];split
  .rfl
  .rw[aop f (n / 10) zo]
theorem Lr(n:Nat):fc n=a6i n:=aop _ _ zo
theorem aey(n:Int):kN n=Lib.itoa n:=by
 grind [kN,Lib.itoa,Lr]
def aoq{w:Z}{os:Array Obj}(h:w'=Go.Sort.grow (w.drewN k) os):Ext w w':=by
 subst h;refine⟨J,J,J,?_,fun b o a _=>?_⟩
 .simp [Go.Sort.grow,World.drewN]
 .have:=bh a;show(w.heap++os)[b]?=O o;exact yH
def aor(n:Int)(a:-9223372036854775808<=n)(b:n<=9223372036854775807)(w:Z)(ht:kZ w) :
  Calls bbk 63 #[zi n,zi 10] w fun e w'=>e = ah (aT (kN n))/\Ext w w':=by
 refine(Tryz.strconv_FormatInt_10 n a b w ht).mono ?_;rintro e w' ⟨rfl,k,os,h⟩;rw[aey];exact⟨J,aoq h⟩
def Ls(n:Int)(a:-9223372036854775808<=n)(b:n<=9223372036854775807)(w:Z)(ht:kZ w) :
  Calls bbk 64 #[zi n] w fun e w'=>e = ah (aT (kN n))/\Ext w w':=by
 refine(Tryz.strconv_Itoa n a b w ht).mono ?_;rintro e w' ⟨rfl,k,os,h⟩;rw[aey];exact⟨J,aoq h⟩
def aos(n:Int)(a:-9223372036854775808<=n)(b:n<=9223372036854775807):(kN n).length<=21:=by
 grind [aey,Lib.itoa_length_le]
def AZ(ρ:Nat->Nat)(seen:List Nat)(k:Nat):List (Nat×Y):=match seen with
 | []=>[]
 | i::r=>(ρ i,.int .i64 ((k+1:Nat)))::AZ ρ r (k+1)
def NmA(ρ:Nat->Nat)(w:Z)(wb:Nat)(nm:Y)(seen:List Nat):Prop:=
 (seen=[]/\nm = .map V)\/∃ r c es,nm = .map (O r)/\wb<r/\w.heap[r]?=O (.map es c)/\Fg (AZ ρ seen 0) es.toList
structure lU(ρ:Nat->Nat)(n:Nat)(tr:Tr)(wb sb so T:Nat)(cs:Array Y)(nm:Y)(w:Z)(s:Ws):Prop where
 st:C7 ρ n tr w
 bu:tJ w wb (pq sb so) nm s.out
 na:NmA ρ w wb nm s.seen
 fu:w.heap[sb]?=aN (kJ cs so s.fuel) T
 Ye:kZ w
 sn:∀ i∈s.seen,i<n
def Ht(ρ:Nat->Nat)(n:Nat)(tr:Tr)(wb sb so T:Nat)(cs:Array Y)(w:Z)(s:Ws):Prop:=∃ nm,lU ρ n tr wb sb so T cs nm w s
structure xE(tr:Tr)(wb sb so T:Nat)(cs:Array Y):Prop where
 tok:ng tr
 sz:so+2<=cs.size
 ne:sb≠wb
 g1:4<wb
 g2:sb≠4
 T1:T≠5
 T2:T≠180/\T≠89/\T≠91
def MW(wb sb b:Nat)(o:Obj):Prop:=b=wb\/b=sb\/(wb<b/\((∃ cs z,o = ae cs 5 z)\/∃ es c,o = .map es c))
abbrev mL(wb sb:Nat)(w w':Z):Prop:=bB (MW wb sb) w w'
theorem jT.toW{w:Z}(h:jT wb w w')(sb:Nat):mL wb sb w w':=h.mono fun b o _ hm=>by
 rcases hm with h | ⟨h,a⟩
 .exact .inl h
 .exact .inr zg
section
variable{ρ:Nat->Nat}{n:Nat}{tr:Tr}{wb sb so T:Nat}{cs:Array Y}{nm:Y}{w w':Z}{s:Ws}
theorem lU.kv(h:lU ρ n tr wb sb so T cs nm w s)(hx:xE tr wb sb so T cs)(d:mL wb sb w w'):Hr w w':=fun b c t ht a=>by
 refine d.block b _ a ?_;obtain⟨e,buf,-,hw,-⟩:=h.bu;rintro (rfl | rfl | ⟨_,⟨_,_,h⟩| ⟨_,_,h⟩⟩)
 .grind
 .rw[h.fu] at a;cases a;rcases ht with ht | ht | ht
  .exact hx.T2.1 ht
  .exact hx.T2.2.1 ht
  .exact hx.T2.2.2 ht
 .grind
 grind
def lU.Yg(h:lU ρ n tr wb sb so T cs nm w s)(hx:xE tr wb sb so T cs)(a:mL wb sb w w'):kZ w':=h.Ye.bK fun o b=>by
 refine a.block _ _ b ?_;have:=hx.g1;rintro (h | h | ⟨h,_⟩)
 .omega
 .exact hx.g2 h.symm
 omega
theorem lU.wr(h:lU ρ n tr wb sb so T cs nm w s)(hx:xE tr wb sb so T cs){x:Bs}(b:tJ w' wb (pq sb so) nm (s.out++x))(a:jT wb w w'):lU ρ n tr wb sb so T cs nm w' (s.add x):=by
 refine⟨h.st.bK (by grind [kv,jT.toW]),b,?_,?_,h.Yg hx (a.toW sb),h.sn⟩
 .rcases h.na with h | ⟨r,c,es,d,e,f,g⟩
  .exact .inl h
  .exact .inr ⟨r,c,es,d,e,a.block _ _ f (by
    rintro (h | ⟨_,_,_,h⟩)<;>grind),g⟩
 .refine a.block _ _ h.fu ?_;rintro (h | ⟨_,_,_,h⟩)
  .exact hx.ne h
  .injection h with _ h _;exact hx.T1 h
def Hu(h:lU ρ n tr wb sb so T cs nm w s)(hx:xE tr wb sb so T cs)(x:Bs)(a:s.out.length+x.length<=1000000000) :
  Calls bbk 44 #[pp wb,aT x] w fun e w'=>(∃ v,e = ah v)/\lU ρ n tr wb sb so T cs nm w' (s.add x)/\mL wb sb w w':=by
 refine(aJw h.bu x a).mono ?_;grind [lU.wr,jT.toW]
def Oe(h:lU ρ n tr wb sb so T cs nm w s)(hx:xE tr wb sb so T cs)(c:UInt8)(a:s.out.length+1<=1000000000){z:Int}(b:z=c.toNat) :
  Calls bbk 95 #[pp wb,.int .u8 z] w fun e w'=>(∃ v,e = ah v)/\lU ρ n tr wb sb so T cs nm w' (s.add [c])/\mL wb sb w w':=by
 subst b;refine(aJx h.bu c a).mono ?_;grind [lU.wr,jT.toW]
theorem lU.ext(h:lU ρ n tr wb sb so T cs nm w s)(a:Ext w w'):lU ρ n tr wb sb so T cs nm w' s:=by
 refine⟨h.st.bK (Hr.eo a),?_,?_,a.ext _ _ h.fu,h.Ye.ext a,h.sn⟩
 .obtain⟨f,buf,b,d,e⟩:=h.bu;exact⟨f,buf,b,a.ext _ _ d,jY a.ext e⟩
 .rcases h.na with h | ⟨r,c,es,b,d,e,g⟩
  .exact .inl h
  .exact .inr ⟨r,c,es,b,d,a.ext _ _ e,g⟩
theorem tJ.other{c:Array Y}(h:tJ w wb S nm out)(j:sb≠wb)(k:w.heap[sb]?=aN c T)(l:T≠5)(o:Obj):tJ (bS w sb o) wb S nm out:=by
 obtain⟨b,buf,d,m,a⟩:=h;refine⟨b,buf,d,yH,a.1,?_⟩;rcases a.2 with a | ⟨g,cap,cur,e,f,n,i⟩
 .exact yH
 .refine .inr ⟨g,cap,cur,e,f,?_,i⟩;exact yH
def lU.fuel(h:lU ρ n tr wb sb so T cs nm w s)(hx:xE tr wb sb so T cs)(f:Nat):lU ρ n tr wb sb so T cs nm (bS w sb (ae (kJ cs so f) T (0,0))) { s with fuel:=f }:=by
 have b:mL wb sb w (bS w sb (ae (kJ cs so f) T (0,0))):=(bB.refl _ _).bS (.inl fun _=>.inr (.inl J));refine⟨h.st.bK (h.kv hx b),?_,?_,qJ J (bh h.fu),h.Yg hx b,h.sn⟩
 .exact h.bu.other hx.ne h.fu hx.T1 _
 .rcases h.na with a | ⟨r,c,es,a,d,e,g⟩
  .exact .inl a
  .refine .inr ⟨r,c,es,a,d,?_,g⟩;rw[jr]
   .omega
   .rintro rfl;rw[h.fu] at e;grind
def BV(ρ:Nat->Nat)(n:Nat)(tr:Tr)(wb sb so T:Nat)(cs:Array Y)(w:Z)(B:Nat)(r:Option Ws)(e:Ending)(w':Z):Prop:=
 mL wb sb w w'/\match r with
 | some s'=>e = ah (ak #[])/\Ht ρ n tr wb sb so T cs w' s'
 | none=>e=Od/\w'.heap[sb]?=O (ae (kJ cs so (-1)) T (0,0))/\∃ nm out,tJ w' wb (aq (O ⟨sb,so,V⟩)) nm out/\out.length<=B
theorem aou(ρ:Nat->Nat):∀ (l:List Nat) (k:Nat),(AZ ρ l k).length=l.length
 | [],_=>rfl
 | i::r,k=>by simp [AZ,aou ρ r]
def aov:∀ {es:List MapEntry} {l:List (Nat×Y)},Fg l es->es.length=l.length
 | [],l,h=>by have h:l=[]:=h;grind
 | e::r,l,h=>by
  obtain⟨b,v,l',rfl,c,d,a⟩:=h;simp [aov a]
theorem aow:∀ {es:List MapEntry} {l:List (Nat×Y)} {e:MapEntry} {b:Nat} {v:Y},Fg l es->e.key=pp b->e.val=v->Fg (l++[(b,v)]) (es++[e])
 | [],l,e,b,v,h,hk,hv=>by
  have h:l=[]:=h;subst h;exact⟨b,v,[],J,hk,hv,J⟩
 | e'::r,l,e,b,v,h,hk,hv=>by
  obtain⟨a,v',l',rfl,c,d,f⟩:=h;exact⟨a,v',l'++[(b,v)],J,c,d,aow f hk hv⟩
theorem aox(ρ:Nat->Nat)(i:Nat):∀ (l:List Nat) (k:Nat),AZ ρ (l++[i]) k=AZ ρ l k++[(ρ i,zi ((k+l.length+1:Nat)))]
 | [],k=>rfl
 | j::r,k=>by
  show(_,_)::AZ ρ (r++[i]) (k+1)=_;rw[aox ρ i r (k+1)];grind [AZ,List.length_cons]
def aeA{ρ:Nat->Nat}:∀ {l:List Nat} {k:Nat} {b:Nat} {v:Y},(b,v)∈AZ ρ l k->∃ i∈l,b=ρ i
 | [],_,_,_,h=>by cases h
 | j::r,k,b,v,h=>by
  simp only[AZ,a1g,a1z] at h;rcases h with⟨rfl,-⟩| h
  .grind
  .obtain⟨i,a,c⟩:=aeA h;grind
def aeB{ρ:Nat->Nat}{n i:Nat}(inj:∀ a b,a<n->b<n->ρ a=ρ b->a=b)(c:i<n):∀ (l:List Nat) (k j:Nat),(∀ a∈l,a<n) ->
  IF (ρ i) (AZ ρ l k) j=(l.idxOf? i).map fun m=>(j+m,zi ((k+m+1:Nat)))
 | [],_,_,_=>rfl
 | a::r,k,j,h=>by
  have o:=h a (List.mem_cons_self ..);unfold AZ IF;rw[List.idxOf?_cons];by_cases e:a=i
  .grind
  .have d:¬ ρ i=ρ a:=zg;rw[bI d,aeB inj c r (k+1) (j+1) fun a f=>h a (List.mem_cons_of_mem _ f)];have g:(a == i)=false:=zg;rw[g];cases r.idxOf? i with
   | none=>rfl
   | some m=>
    grind
end
def aJM{P:Program}{t T:TypeId}{k e:TypeId}(ht:Bp P t=O (k,e)){w:Z}{r:Nat}(a:w.heap[r]?=O (.map es c)) :
  RD P (Builtin.len_ #[t] T #[.map (O r)]) w K X=K (zi es.size):=by
 refine ij ?_;simp [Builtin.len_,run_underlying (GI ht),GJ a,goInt]
section
variable{p0 p1 p2 p3 p4 p5 p6 p7:Y}{w:Z}{R:Ending->Z->Prop}
def aJN:=cz w R [p0] (gc [] [] []) func214
def aJO:=cz w R [p0,p1] (gc [(1,[13])] [] [14]) func208
def aJP:=cz w R [p0,p1,p2] (gc [] [] []) func217
def aJQ:=cz w R [p0,p1,p2] (gc [(9,[29])] [] [6,16,20,22,30,36]) func221
def aJR:=cz w R [p0,p1,p2] (gc [] [] [6,10]) func216
def aJS:=cz w R [p0,p1,p2] (gd [(16,[94])] [(11000,[63]),(12001,[]),(13000,[88]),(14001,[])] [(13,22),(18,15)] [] [] [] [6,8,10,12,14,26,27,36,37,42,43,47,52,57,58,61,62,63,66,87,88,95,112,113]) func210
def aJT:=cz w R [p0,p1,p2] (gd [(10,[64])] [(5000,[33]),(6001,[]),(7000,[58]),(8001,[])] [(7,22),(12,15)] [] [] [] [6,8,10,22,27,28,31,32,33,36,57,58,65,82,83]) func218
def aJU:=cz w R [p0,p1,p2] (gc [] [(9001,[]),(13000,[43]),(14001,[7])] [9,10,14,15,19,20,25,28,39,41,42,43]) func222
def aJV:=cz w R [p0,p1] (gd [] [] [(11,9)] [(12,[21,0,1,2,3,4,5,6,7,8,9,10,12,13,14,15,16,17,18,11,19,20,21])] [] [] [13,17,21,33]) func219
def aJW:=cz w R [p0,p1] (gc [] [] [4,7,10,12,18,19,21,27,28,30]) func220
def aJX:=cz w R [p0,p1,p2] (gd [] [(18003,[64]),(21020,[])] [(5,7),(8,7),(12,7)] [(14,[11,0,1,2,3,4,5,6,7,8,9,10,11]),(22,[10,0,1,2,3,5,6,7,8,4,9,10,11])] [] [] [6,8,12,13,14,15,23,24,25,35,39,40,41,42,50,51,52,63,64,65,66,67,68,74,75,76,88,89,92,93,94,97,98,99,102,103,104,107,110]) func213
end
def lN(T:Nat):Prop:=T=91\/T=87\/T=130\/T=356\/T=116\/T=342\/T=20
def EM(D:Nat->Prop)(b:Nat)(o:Obj):Prop:=D b/\∃ cs T z,o = ae cs T z/\lN T
abbrev di(D:Nat->Prop)(w w':Z):Prop:=bB (EM D) w w'
theorem di.bK{w:Z}(h:di D w w'){T:Nat}(c:¬ lN T)(a:w.heap[b]?=aN cs T):w'.heap[b]?=aN cs T:=by
 refine h.block _ _ a ?_;rintro ⟨_,cs',d,z,e,f⟩;grind
theorem di.toT{w:Z}(h:di D w w'):Yc w w':=fun b cs t _ ht a=>h.bK (by rcases ht with rfl | rfl<;>(unfold lN;decide)) a
theorem di.eo{w:Z}(h:Ext w w'):di D w w':=yF
def rI(ρ:Nat->Nat)(tr:Tr):List Y:=tr.reverse.map fun p=>pp (ρ p.1)
def aJY(ρ:Nat->Nat)(i:Nat)(t:Tm)(tr:Tr):rI ρ ((i,t)::tr)=rI ρ tr++[pp (ρ i)]:=by simp [rI]
@[simp] theorem aJZ(ρ:Nat->Nat)(tr:Tr):(rI ρ tr).length=tr.length:=by simp [rI]
structure vS(so T:Nat)(cs:Array Y):Prop where
 sz:so+2<=cs.size
 ty:T=130\/T=116
structure ie(D:Nat->Prop)(ρ:Nat->Nat)(n sb so T:Nat)(cs:Array Y)(tv:Y)(w:Z)(s:Sr):Prop where
 sv:C7 ρ n s.tr w
 dv:∀ i,i<n->D (ρ i)
 cell:w.heap[sb]?=aN (kJ (cs.setIfInBounds so tv) so s.fuel) T
 row:w.ownsRow 0 87 1 tv s.tr.length (rI ρ s.tr)
 dr:∀ g,tv.ownBlock=O g->D g
 ds:D sb
 nd:(s.tr.map (·.1)).Nodup
 lt:∀ p∈s.tr,p.1<n
 ok:ng s.tr
section
variable{D:Nat->Prop}{ρ:Nat->Nat}{n sb so T:Nat}{cs:Array Y}{tv:Y}{w w':Z}{s:Sr}
theorem ie.ext(h:ie D ρ n sb so T cs tv w s)(a:Ext w w'):ie D ρ n sb so T cs tv w' s:=
 ⟨h.sv.bK (Hr.eo a),h.dv,a.ext _ _ h.cell,jY a.ext h.row,h.dr,h.ds,h.nd,h.lt,h.ok⟩
theorem ie.Yh(h:ie D ρ n sb so T cs tv w s){c:Array Y}{U:Nat}(b:w.heap[g]?=aN c U)(d:U≠87):tv.ownBlock≠O g:=by
 intro a;rcases h.row.2 with⟨rfl,-⟩| ⟨e,cap,cur,rfl,-,f,-⟩
 .cases a
 grind [a1R,a07]
def vS.mu(a:vS so T cs):lN T:=by grind [lN,ty]
theorem Js{size m:Nat}{o:Obj}(h:w.ownsRow base e size v m xs)(a:v.ownBlock≠O g):(bS w g o).ownsRow base e size v m xs:=by
 refine⟨h.1,?_⟩;rcases h.2 with f | ⟨b,cap,cur,rfl,c,i,d⟩
 .exact yH
 .exact .inr ⟨b,cap,cur,J,c,by rw[jr (fun e=>a (by subst e;rfl))];omega,d⟩
def ie.cells(h:ie D ρ n sb so T cs tv w s)(d:vS so T cs){cs':Array Y}{f:Nat} :
  ie D ρ n sb so T cs' tv (bS w sb (ae (kJ (cs'.setIfInBounds so tv) so f) T (0,0))) { s with fuel:=f }/\di D w (bS w sb (ae (kJ (cs'.setIfInBounds so tv) so f) T (0,0))):=by
 have l:=bh h.cell;have g:T≠87/\T≠91/\T≠180/\T≠89:=by rcases d.ty with h | h<;>subst h<;>decide
 have i:di D w (bS w sb (ae (kJ (cs'.setIfInBounds so tv) so f) T (0,0))):=⟨J,J,J,yH,fun b o a hm=>by
  by_cases e:b=sb
  .subst e;rw[h.cell] at a;exact absurd ⟨h.ds,_,_,_,(a1b a).symm,d.mu⟩ hm
  exact yH⟩
 have j:Hr w (bS w sb (ae (kJ (cs'.setIfInBounds so tv) so f) T (0,0))):=fun b c t ht a=>by
  rw[jr]
  .omega
  .rintro rfl;rw[h.cell] at a;grind
 exact⟨⟨h.sv.bK j,h.dv,yH,Js h.row (h.Yh h.cell g.1),h.dr,h.ds,h.nd,h.lt,h.ok⟩,i⟩
theorem ie.aJ0(h:ie D ρ n sb so T cs tv w s)(a:vS so T cs)(b:s.fuel≠0) :
  ie D ρ n sb so T cs tv (bS w sb (ae (kJ (cs.setIfInBounds so tv) so ((s.fuel:Int)-1)) T (0,0))) s.dec/\di D w (bS w sb (ae (kJ (cs.setIfInBounds so tv) so ((s.fuel:Int)-1)) T (0,0))):=by
 have:=h.cells a (cs':=cs) (f:=s.fuel-1);rw[show((s.fuel-1:Nat):Int)=(s.fuel:Int)-1 by omega] at this;exact this
def ig:jQ->Ending
 | .fault k=>.panicked [{ v:=aj 27 (.int .i64 k),recovered:=false }]
 | .Eg=>Od
def EPost(D:Nat->Prop)(w:Z){α:Type}(R:α->Ending->Z->Prop)(r:Except jQ α)(e:Ending)(w':Z):Prop:=
 di D w w'/\match r with
  | .ok a=>R a e w'
  | .error t=>e=ig t
abbrev xG(D:Nat->Prop)(ρ:Nat->Nat)(n sb so T:Nat)(cs:Array Y)(p:Bool×Sr)(e:Ending)(w':Z):Prop:=
 e = ah (.bool p.1)/\∃ tv,ie D ρ n sb so T cs tv w' p.2
theorem EPost.of{α:Type}{R:α->Ending->Z->Prop}{r:Except jQ α}{e:Ending}(h:EPost D w1 R r e w')(a:di D w w1):EPost D w R r e w':=⟨a.trans h.1,h.2⟩
def EPost.tail{α:Type}{R:α->Ending->Z->Prop}(b:∀ {a e w},R a e w->∃ v,e = ah v){r:Except jQ α}{e:Ending}(h:EPost D w R r e w') :
  ends (fun x w'=>EPost D w R r (ah x) w') (PC (EPost D w R r)) e w':=by
 cases e with
 | returned v=>exact h
 | panicked c=>exact h
 | outgrown=>
  obtain⟨-,h⟩:=h;cases r with
  | ok a=>obtain⟨v,h⟩:=b h;cases h
  | error t=>cases t<;>cases h
def EPost.TV{r:Except jQ (Bool×Sr)}{e:Ending}(h:EPost D w (xG D ρ n sb so T cs) r e w') :
 ends (fun x w'=>EPost D w (xG D ρ n sb so T cs) r (ah x) w') (PC (EPost D w (xG D ρ n sb so T cs) r)) e w':=h.tail zg
def EPost.aJ1{r:Except jQ (Bool×Sr)}{e:Ending}(h:EPost D w (xG D ρ n sb so T cs) r e w') :
  ends (fun x w'=>EPost D w (xG D ρ n sb so T cs) r (ah x) w') (MN (EPost D w (xG D ρ n sb so T cs) r)) e w':=by
 cases e with
 | returned v=>exact h
 | panicked c=>exact fun _=>h
 | outgrown=>
  obtain⟨-,h⟩:=h;cases r with
  | ok a=>obtain⟨h,-⟩:=h;cases h
  | error t=>cases t<;>cases h
def Of(h:ie D ρ n sb so T cs tv w s)(a:vS so T cs)(f:s.fuel<=1000000000) :
  Calls bbk 61 #[pq sb so] w fun e w'=>di D w w'/\(if s.fuel=0 then e=Od else e = ah (ak #[])/\ie D ρ n sb so T cs tv w' s.dec):=by
 refine(aon h.cell (by rw[Array.size_setIfInBounds];exact a.sz) zg).mono ?_;rintro e w1 ⟨he,rfl⟩;by_cases c:s.fuel=0
 .rw[zip zo] at he;rw[zip c];refine⟨?_,he⟩;exact⟨J,J,J,yH,fun b o d hm=>by
   by_cases e:b=sb
   .subst e;rw[h.cell] at d;exact absurd ⟨h.ds,_,_,_,(a1b d).symm,a.mu⟩ hm
   .rw[jr e];omega⟩
 .rw[bI zo] at he;rw[bI c];grind [ie.aJ0]
end
def aJ2{P:Program}{t bytes:Nat}(ht:P.underlying t=O (.slice e))(c:(P.info? e).map (fun i=>(i.zero,i.size,i.bytes))=O (O z,1,bytes))(f:z.cells.size=1)(g:bytes<=1000)
  {w:Z} (j:w.ownsRow base e 1 v n xs) {m:Nat} {a:Y} (l:w.heap[b]?=aN #[a] e) (s:a.oneCell'=A)
  (x:n<=900000000) (o:base<=w.heap.size) {K:Y->Z->Prop}
  (h:∀ v' w',w'.ownsRow base e 1 v' (n+1) (xs++[a])->w.grownBy w' v.ownBlock->(v'.ownBlock=v.ownBlock\/∀ k,v'.ownBlock=O k->w.heap.size<=k)->K v' w') :
  WR P (Builtin.append_ #[t,t] pb #[v,cV b 1 m]) w K X:=by
 obtain⟨i,c,d⟩:=a1C.1 c;simp only[a1z] at d;obtain⟨p,q,r⟩:=d;refine Sx.DP (m:=1) (t:=t) (e:=e) ht c p q r f zo j l J (fun u hu=>?_) zo g o h;grind
def TX{w:Z}(h:w.ownsRow base e 1 v n xs){t:Nat}(ht:t<n):∃ g c u,v = cV g n c/\w.heap[g]?=aN u e/\u[t]?=xs[t]?:=by
 rcases h.2 with⟨-,a⟩| ⟨g,cap,cur,rfl,b,d,f,i,j,k⟩<;>grind
theorem aJ3(h:¬ cap=0):sliced (O ⟨b,0,V⟩) 0 pb cap n = cV b pb cap:=by
 grind [sliced,Addr.add]
def aJ4:(Tryz.prog.info? 87).map (fun i=>(i.zero,i.size,i.bytes))=O (O (aq V),1,8):=zk
section
variable{D:Nat->Prop}{ρ:Nat->Nat}{n sb so T:Nat}{cs:Array Y}{tv:Y}{w w':Z}{s:Sr}
def Yi{z:Int}(h:so+2<=cs.size):(kJ (cs.setIfInBounds so tv) so z)[so]?=O tv:=by
 grind
def sf2{z:Int}{nv:Y}:(kJ (cs.setIfInBounds so tv) so z).setIfInBounds so nv=kJ (cs.setIfInBounds so nv) so z:=by
 unfold kJ;apply Array.ext_getElem?;grind
def Og{z:Int}:(kJ (cs.setIfInBounds so tv) so z).size=cs.size:=zs
def TY(h:ie D ρ n sb so T cs tv w s)(b:vS so T cs) :
  Calls bbk 214 #[pq sb so] w fun e w'=>e = ah (zi s.tr.length)/\w'=w:=by
 have d:=h.cell;have f:=b.sz;obtain⟨a,c,rfl⟩:=il h.row;refine aJN ?_;simp (disch:=first|assumption|omega|simp only[zS]<;>omega|decide) only[zB,simprocAttr,lE,d,Yi f,Og]
def aoA(h:ie D ρ n sb so T cs tv w s)(q:vS so T cs)(hD:∀ b,w.heap.size<=b->D b)(y:i<n)(hl:P.look i s.tr=V)(N:i ∉ s.tr.map (·.1)){t:Tm}(hv:dR ρ n w v t)(Q:eu t)(hlen:s.tr.length<=900000000) :
  Calls bbk 217 #[pq sb so,pp (ρ i),v] w fun e w'=>e = ah (ak #[])/\di D w w'/\∃ R,ie D ρ n sb so T cs R w' (s.bind i t):=by
 have a:=h.cell;have S:=q.sz;have lb:=bh a;obtain⟨ref,hr,-⟩:=h.sv.var i y;have lr:=bh hr;have W:ρ i≠sb:=by
  intro e;rw[<- e,hr] at a;injection a with a;injection a with _ a _;rcases q.ty with h | h<;>rw[h] at a<;>cases a
 obtain⟨u,x,rfl⟩:=hv.iface;refine aJP ?_;simp (disch:=first|assumption|omega|simp only[zS]<;>omega|decide) only[zB,simprocAttr,lE,a,hr,Yi S,Og];obtain⟨w1,z⟩:=cg ((bS w (ρ i) (ae #[aj u x] 91)).alloc (ae #[pp (ρ i)] 87));rw[<- z];have z1:w1.heap.size=w.heap.size+1:=yH;have d:w1.ownsRow 0 87 1 tv s.tr.length (rI ρ s.tr):=by
  rw[z];exact(Js h.row (h.Yh hr zd)).alloc _
 have X:w1.heap[w.heap.size]?=aN #[pp (ρ i)] 87:=yH;have jf:w1.heap[sb]?=aN (kJ (cs.setIfInBounds so tv) so s.fuel) T:=by
  exact yH
 have kS:∀ b o,b≠ρ i->w.heap[b]?=O o->w1.heap[b]?=O o:=yH;have qI:w1.heap[ρ i]?=aN #[aj u x] 91:=by
  exact yH
 have f0:di D w (bS w (ρ i) (ae #[aj u x] 91)):=⟨J,J,J,yH,fun b o fg hm=>by
  by_cases e:b=ρ i
  .subst e;rw[hr] at fg;exact absurd ⟨h.dv i y,_,_,_,(a1b fg).symm,.inl J⟩ hm
  exact yH⟩
 have f1:di D w w1:=by
  exact yF
 clear z;refine aJ2 zk aJ4 J zo d X J hlen zo ?_;intro v' w2 f l kl;have m:T≠87/\T≠91:=by rcases q.ty with h | h<;>subst h<;>decide
 have k:∀ (b:Nat) (c:Array Y) (U:Nat),w1.heap[b]?=aN c U->U≠87->w2.heap[b]?=aN c U:=fun b c U fg hU=>by
  rw[l.block b (bh fg) (fun e=>?_)]
  .exact yH
  .rcases d.2 with⟨rfl,-⟩| ⟨K,cap,cur,rfl,-,r,-⟩
   .cases e
   grind [a1R,a07]
 have f2:di D w1 w2:=⟨l.os,l.tape,l.output,l.size,fun b o fg hm=>by
  rw[l.block b (bh fg) (fun e=>?_)]
  .exact yH
  .rcases d.2 with⟨rfl,-⟩| ⟨K,cap,cur,rfl,-,r,-⟩
   .cases e
   .simp only[a1R,a07] at e;subst e;rw[fg] at r;exact hm ⟨h.dr _ J,_,_,_,a1b r,.inr (.inl J)⟩⟩
 have B:=k _ _ _ jf m.1;have iJ:=k _ _ _ qI zd;have C:=bh B;obtain⟨p2,d2,e2⟩:=il f;have pL:(kJ (cs.setIfInBounds so tv) so (s.fuel:Int)).size=cs.size:=Og;subst e2;refine jk B @sf2 @Og ?_;have E:∀ g,(Value.slice p2 (s.tr.length+1) d2).ownBlock=O g->D g:=(by grind [ie.dr]);have eK:di D w2 (bS w2 sb (ae (kJ (cs.setIfInBounds so (.slice p2 (s.tr.length+1) d2)) so s.fuel) T (0,0))):=⟨J,J,J,yH,fun b o fg hm=>by
  by_cases e:b=sb
  .subst e;rw[B] at fg;exact absurd ⟨h.ds,_,_,_,(a1b fg).symm,q.mu⟩ hm
  exact yH⟩
 have F:di D w (bS w2 sb (ae (kJ (cs.setIfInBounds so (.slice p2 (s.tr.length+1) d2)) so s.fuel) T (0,0))):=yF;refine⟨F,.slice p2 (s.tr.length+1) d2,?_⟩;refine⟨⟨h.sv.inj,fun j L=>?_⟩,h.dv,qJ J C,?_,E,h.ds,?_,?_,Q,h.ok⟩
 .by_cases H:j=i
  .subst H;refine⟨_,by rw[jr W];exact iJ,?_⟩;have:P.look j (s.bind j t).tr=O t:=by simp [Sr.bind,P.look]
   rw[this];exact hv.bK F.toT
  .obtain⟨Yj,g1,g2⟩:=h.sv.var j L;have fQ:ρ j≠ρ i:=fun e=>H (h.sv.inj j i L y e);have Qu:ρ j≠sb:=by
    intro e;rw[<- e,g1] at a;injection a with a;injection a with _ a _;exact m.2 a.symm
   refine⟨Yj,by rw[jr Qu];exact k _ _ _ (kS _ _ fQ g1) zd,?_⟩;have:P.look j (s.bind i t).tr=P.look j s.tr:=by simp [Sr.bind,P.look,H]
   rw[this];cases M:P.look j s.tr with
   | none=>rw[M] at g2;exact g2
   | some t'=>rw[M] at g2;exact dL.bK g2 F.toT
 .show(bS w2 sb _).ownsRow 0 87 1 (.slice p2 (s.tr.length+1) d2) (s.tr.length+1) (rI ρ ((i,t)::s.tr));rw[aJY];refine Js f ?_;intro e;rcases f.2 with⟨e1,-⟩| ⟨K,cap,cur,e1,-,r,-⟩
  .grind
  grind [a1R,a07]
 .show(i::s.tr.map (·.1)).Nodup;exact List.nodup_cons.2 ⟨N,h.nd⟩
 .intro p I;rcases a1g.1 I with rfl | I
  .omega
  .exact h.lt p I
end
theorem P.QA{i:Nat}:∀ {tr:Tr},i ∉ tr.map (·.1)->P.look i tr=V
 | [],_=>rfl
 | (j,t)::r,h=>by
  simp only[List.map_cons,a1g,not_or] at h;rw[P.look,bI h.1];exact P.QA h.2
theorem P.aoB{i j:Nat}{t:Tm}(h:j≠i):∀ (a b:Tr),P.look j (a++(i,t)::b)=P.look j (a++b)
 | [],b=>by rw[a2f,a2f,P.look,bI h]
 | (k,u)::a,b=>by
  rw[List.cons_append,List.cons_append,P.look,P.look,P.aoB h a b]
def ng.drop:∀ (k:Nat) {tr:Tr},ng tr->ng (tr.drop k)
 | 0,_,h=>h
 | _+1,[],h=>h
 | k+1,(_,_)::_,h=>ng.drop k h.2
section
variable{D:Nat->Prop}{ρ:Nat->Nat}{n sb so T:Nat}{cs:Array Y}{tv:Y}{w w':Z}{s:Sr}
def C7.free{a b:Tr}{t:Tm}(h:C7 ρ n (a++(i,t)::b) w)(d:i<n)(m:i ∉ (a++b).map (·.1)) :
  C7 ρ n (a++b) (bS w (ρ i) (ae #[ai] 91)):=by
 obtain⟨ref,hr,-⟩:=h.var i d;have k:=bh hr;have hk:Yc w (bS w (ρ i) (ae #[ai] 91)):=fun b c t _ ht o=>by
  exact yH
 refine⟨h.inj,fun j f=>?_⟩;by_cases g:j=i
 .subst g;refine⟨_,qJ J k,?_⟩;grind [P.QA]
 .obtain⟨l,g1,g2⟩:=h.var j f;refine⟨l,by rw[jr (fun e=>g (h.inj j i f d e))];omega,?_⟩;grind [P.aoB,P.look,dL.bK]
def aeG(h:ie D ρ n sb so T cs tv w s)(z:vS so T cs){m:Nat}(hm:m<=s.tr.length)(hlen:s.tr.length<=900000000) :
  Calls bbk 208 #[pq sb so,zi m] w fun e w'=>e = ah (ak #[])/\di D w w'/\∃ W,ie D ρ n sb so T cs W w' (s.iS m):=by
 have C:=h.cell;have K:=z.sz;have lb:=bh C;obtain⟨a,c,E⟩:=il h.row;subst E;refine aJO ?_;simp (disch:=first|assumption|omega|simp only[zS]<;>omega|decide) only[zB,simprocAttr,lE,C,Yi K,Og];have em:(m:Int).toNat=m:=zo;rw[em];obtain⟨p,B⟩:=cg (if c=m then a else a.map (·.add (m*1)));have X:sliced a m s.tr.length c 1 = .slice p (s.tr.length-m) (c-m):=by rw[B];rfl
 rw[X];have QB:s.tr.length<=c:=by
  rcases h.row.2 with⟨l,f⟩| ⟨g,cap,cur,l,-,-,h4,-⟩<;>grind
 have yl:∀ k,k<s.tr.length->∃ g u,a=O ⟨g,0,V⟩/\w.heap[g]?=aN u 87/\u[k]?=(rI ρ s.tr)[k]?:=fun k hk=>by
  obtain⟨g,c',u,F,e2,L⟩:=TX h.row hk;exact yH
 refine bG ?_;refine⟨fun q x w'=>∃ j,x 13=zi (j:Nat)/\j<=s.tr.length-m/\q=s.tr.length-m-j/\di D w w'/\C7 ρ n (s.tr.take (s.tr.length-m-j)++s.tr.drop (s.tr.length-m)) w' /\
   (∀ (b:Nat) (c:Array Y) (U:Nat),w.heap[b]?=aN c U->U≠91->w'.heap[b]?=aN c U),
  ⟨_,0,J,Nat.zero_le _,J,yF,by rw[Nat.sub_zero,a3c];exact h.sv,yH⟩,?_⟩
 intro q x d w1 hI;refine toPr ?_;obtain⟨j,hx,hj,rfl,M,r,N⟩:=hI;have H:=N _ _ _ C (by rcases z.ty with h | h<;>subst h<;>decide);by_cases hlt:j<s.tr.length-m
 .have qY:((j:Nat):Int)<((s.tr.length-m:Nat):Int):=zo;obtain⟨g,u,rfl,g1,g2⟩:=yl (m+j) zo;have QC:p=O ⟨g,m,V⟩:=by
   rw[B,bI zo];simp [Addr.add];exact fun h=>h.symm
  subst QC;have Xa:=N _ _ _ g1 zd;obtain⟨⟨i,t⟩,hit⟩:∃ y,y=s.tr[s.tr.length-m-j-1]' zo:=⟨_,J⟩;have I:i<n:=by
   have:=h.lt (i,t) zg;omega
  have g3:u[m+j]?=O (pp (ρ i)):=by
   rw[g2,rI,List.getElem?_map,List.getElem?_reverse zo,List.getElem?_eq_getElem zo];have:s.tr[s.tr.length-1-(m+j)]' zo=(i,t):=by
    rw[hit]
    congr 1
    omega
   rw[this];rfl
  have ej:((j:Nat):Int).toNat=j:=zo;have BG:s.tr.take (s.tr.length-m-j)=s.tr.take (s.tr.length-m-j-1)++[(i,t)]:=by
   have:s.tr.length-m-j=s.tr.length-m-j-1+1:=zo;grind [List.take_succ_eq_append_getElem,Nat.add_sub_cancel]
  rw[BG,List.append_assoc,List.singleton_append] at r;have Lw:i ∉ (s.tr.take (s.tr.length-m-j-1)++s.tr.drop (s.tr.length-m)).map (·.1):=by
   have e0:s.tr=s.tr.take (s.tr.length-m-j-1)++(i,t)::s.tr.drop (s.tr.length-m-j-1+1):=by
    rw[hit,<- List.drop_eq_getElem_cons zo,a3c]
   have P:((s.tr.take (s.tr.length-m-j-1)++(i,t)::s.tr.drop (s.tr.length-m-j-1+1)).map (·.1)).Nodup:=by rw[<- e0];exact h.nd
   rw[List.map_append,List.map_cons] at P;have l:=(List.nodup_cons.1 ((List.perm_middle.nodup_iff).1 P)).1;rw[List.map_append];intro qf;apply l;rcases List.mem_append.1 qf with f | f
   .grind
   .refine List.mem_append_right _ ?_;have L:s.tr.drop (s.tr.length-m)=(s.tr.drop (s.tr.length-m-j-1+1)).drop j:=by
     rw[List.drop_drop];congr 1;omega
    rw[L] at f;obtain⟨y,hy,rfl⟩:=List.mem_map.1 f;grind
  obtain⟨ref,Q,-⟩:=r.var i I;have aWf:=r.free I Lw;refine dM hx @ej @Xa (zA @g3 @Q) ?_;refine⟨_,zo,j+1,zs,zo,J,?_,?_,fun b c U fg hU=>?_⟩
  .refine M.trans ⟨J,J,J,yH,fun b o fg hm=>?_⟩;by_cases e:b=ρ i
   .subst e;rw[Q] at fg;exact absurd ⟨h.dv i I,_,_,_,(a1b fg).symm,.inl J⟩ hm
   exact yH
  .omega
  exact yH
 .have BW:j=s.tr.length-m:=zo;subst BW;have pL:(kJ (cs.setIfInBounds so (.slice a s.tr.length c)) so (s.fuel:Int)).size=cs.size:=Og;have T0:sliced a 0 m c 1 = .slice a m c:=by
   unfold sliced;cases a with
   | none=>simp
   | some x=>simp [Addr.add]
  have Yk:=bh H;simp (disch:=first|assumption|omega|simp only[zS]<;>omega|decide) only[zB,simprocAttr,lE,hx,H,Yi K,Og,T0,sf2];rw[Nat.sub_self,List.take_zero,a2f] at r;have hTp:T≠87/\T≠91/\T≠180/\T≠89:=by rcases z.ty with h | h<;>subst h<;>decide
  have eS:(bS w1 sb (ae (kJ (cs.setIfInBounds so (.slice a m c)) so s.fuel) T (0,0))).ownsRow 0 87 1 (.slice a m c) m (rI ρ (s.iS m).tr):=by
   have ev:rI ρ (s.iS m).tr=(rI ρ s.tr).take m:=by
    simp only[rI,Sr.iS];rw[<- List.map_take,List.take_reverse]
   have R:w1.ownsRow 0 87 1 (.slice a m c) m ((rI ρ s.tr).take m):=by
    refine⟨by rw[List.length_take,aJZ,Nat.mul_one];omega,?_⟩;rcases h.row.2 with⟨l,f⟩| ⟨g,cap,cur,l,f,h3,h4,h5,h6,h7⟩<;>grind
   rw[ev];refine Js R ?_;intro e;rcases R.2 with⟨F,-⟩| ⟨g',cap,cur,F,-,h3,-⟩
   .rw[F] at e;cases e
   grind [a1R,a07]
  refine⟨M.trans ⟨J,J,J,yH,fun b o fg hm=>?_⟩,.slice a m c,⟨r.bK fun b c' t ht fg=>?_,h.dv,qJ J Yk,?_,fun g S=>h.dr g (by cases a with
   | none=>cases S
   | some x=>exact S),h.ds,?_,?_,ng.drop _ h.ok⟩⟩
  .by_cases e:b=sb
   .subst e;rw[H] at fg;exact absurd ⟨h.ds,_,_,_,(a1b fg).symm,z.mu⟩ hm
   exact yH
  .exact yH
  .grind [Sr.iS]
  .have:=h.nd;show((s.tr.drop _).map _).Nodup;grind
  .intro p B;exact h.lt p (List.mem_of_mem_drop B)
end
