/- A part of one proof (KR2, KR3, ShX7, KL1, KA2, KA3, KL4, KL6, KDec, KL2). -/
import Derived.Test.YtoegidfbnkaabaaGreatDoorPkJBE
import Derived.Lib.LaidTab
import Derived.LaidLaws
import Derived.Shelf.Vars
import Derived.ProofKit
import Derived.LaidMore
import Derived.OpenShut
import Derived.LaidHandle
import Derived.LaidSub
import Derived.MakeChecks
import Derived.Stop.Joined
import Derived.Test.YtoegidfbnkaabaaGreatDoorRows
import Derived.JoinedOf
import Derived.ChangeMaps5
import Derived.Lay
import Derived.Test.YtoegidfbnkaabaaGreatDoorTie
import Derived.Test.YtoegidfbnkaabaaGreatDoorCards
import Derived.SevenTiedAt
set_option linter.all false
set_option maxRecDepth 100000
set_option maxHeartbeats 8000000
open Option renaming some → O, none → V
open Go renaming Value → Y, World → Z
open Bool renaming true → A, false → G
open Go.Obj renaming cells → ae
open Go.Ending renaming returned → ah
open Go.Value renaming nilIface → ai, iface → aj, tuple → ak, pointer → aq
open Option.some renaming injEq → aZG, inj → aZN
open Go.Calls renaming mono → aZJ
open List renaming getElem?_eq_getElem → aZM, drop_eq_getElem_cons → aZP, length_cons → aZQ, range → aZ9, getD_eq_getElem?_getD → a0c, range' → a0j
open Prod.mk renaming injEq → aZ6
open Option renaming map_eq_some_iff → aZ7
open Nat renaming lt_of_lt_of_le → a0b
open Go.World renaming cell? → a0l
open UInt8 renaming ofNat → a0M
open List.cons renaming injEq → a1X
open Go.OpenSpec renaming ofChange → a3A
open Go.Proofs.Tryz renaming prog → a9Q
open Go.Proofs.Tryz
namespace Go.Proofs.YtoegidfbnkaabaaGreatDoor
open P
open Go.RowKit Sx
variable{D:Nat->Prop}{E:En}{W w w' w1:Z}{c d e f g k n nv qb xb:Nat}{s:Bs}{v:Y}{vars:List Bs}
def P.aSb{x:Bd}{vs:List Bs}(h:xw uO s = .ok x k vs):vs.length<=12/\iR x<=5800:=by
 obtain⟨d,f⟩:=P.X0 h;refine⟨d.1,?_⟩;unfold xw at h;split at h
 .grind
 .split at h
  .grind
  .rename_i T b;have a:=Sz b;have g:B9 T:=⟨MG _ _ _ _ (by rw[R9,b]),fun u hu hk=>by
    obtain⟨c,r,e,-⟩:=(a.tok u hu).2.2.1 hk;grind,fun u hu hk=>((a.tok u hu).2.1 hk).2.1⟩
   have i:=a.len;grind [P.amn,amn]
def P.ar5{cs:List Cl}{vs:List Bs}(h:P.program s = .ok cs k vs):cs.length<=40/\∀ c∈cs,P.qi c:=by
 unfold P.program at h;split at h
 .grind
 .split at h
  .grind
  .rename_i T b;have a:=Sz b;have d:B9 T:=⟨MG _ _ _ _ (by rw[R9,b]),fun u hu hk=>by
    obtain⟨c,r,e,-⟩:=(a.tok u hu).2.2.1 hk;grind,fun u hu hk=>((a.tok u hu).2.1 hk).2.1⟩
   have f:=a.len;exact aHi d (fun u hu hk=>(a.tok u hu).2.2.2.1 hk) zo h
def P.aSc{cs:List Cl}{x:Bd}{t:Bs}(b:∀ c∈cs,P.qi c)(d:cs.length<=40)(hx:eW nv 2900 x)(f:iR x<=5800)(g:nv<=12)(h:Cj cs x nv=O t):SO t:=by
 unfold Cj at h;split at h
 .grind
 .rename_i l e;split at h
  .grind
  .rename_i a i;cases h;exact aHA (amK b d e).1 (by grind [P.WT,P.fi.nil,fH,WT,fi.nil]) zo
def ar6(w:Z)(v:Y)(c:Nat)(a:Int):Prop:=(∃ b,v = aj 73 (ptr b)/\w.heap[b]?=aM #[zi (c:Int),zi a] 77)\/(v = aj 27 (zi (c:Int))/\a=-1)
def QP(names:List Bs)(w w':Z)(qb:Nat)(E:En)(st:E.St):Prop:=TJ names w w' qb E st/\Iv names/\∀ k l,E.told k = .ok l->l.length=names.length
def ahs(cs:List Cl)(q:Bs)(machine:Bool)(w:Z)(e:Ending)(w':Z):Prop:=Ext w w'/\match Gx cs q machine with
 | .err c a=>∃ v,e = ah (ak #[aq V,v])/\ar6 w' v c a
 | .ok E st names=>∃ qb,e = ah (ak #[ptr qb,ai])/\QP names w w' qb E st
theorem P.ar7(m:Vm):∀ (l:List Nat) (r:List Tm),m.iK l = .ok r->r.length=l.length
 | [],r,h=>by
  unfold Vm.iK at h;cases h;rfl
 | k::l,r,h=>by
  unfold Vm.iK at h;split at h
  .split at h
   .rename_i a b;cases h;rw[aZQ,aZQ,P.ar7 m l a b]
   grind
  grind
def aSd(q:Bs)(machine:Bool){cs:List Cl}(Q:q.length<=100000)(S:Io w)(hC:mw w w.heap.size)(hV:Bx w)(T:lH w)(hL:FB w)(hx:IS w xb cs)(o:∀ c∈cs,P.qi c)(U:cs.length<=40) :
  Calls a9Q 26 #[pp xb,aT q,.bool machine] w (ahs cs q machine w):=by
 cases machine with
 | false=>
  refine(aLT q Q S hC hx (fun c F=>(o c F).cl) (fun c F=>by have:=(o c F).name;omega) zo zo zo).mono ?_;rintro e w' ⟨g,h⟩;refine⟨g,?_⟩;unfold Gx;cases hr:xw uO q with
  | err c a=>
   rw[hr] at h;obtain⟨b,rfl,r⟩:=h;exact⟨_,J,.inl yH⟩
  | ok x k vs=>
   rw[hr] at h;obtain⟨qb,rfl,r⟩:=h;refine⟨qb,J,r,(P.X0 hr).1,fun k l h=>?_⟩;have h:Except.ok ((aZ9 vs.length).map Tm.var)=Except.ok l:=h;grind
 | true=>
  suffices H:∀ R:Ending->Z->Prop,(∀ e w',ahs cs q A w e w'->R e w')->Calls a9Q 26 #[pp xb,aT q,.bool A] w R from H _ zg;intro R d;unfold ahs Gx at d;refine anL ?_;refine bE ?_;refine(aoo q w Q S hC).mono ?_;rintro e w1 ⟨g,i⟩;have s1:=g.size;cases hr:xw uO q with
  | err c a=>
   rw[hr] at i d;obtain⟨b,rfl,r⟩:=i;refine bE ?_;exact d _ _ ⟨g,_,J,.inl yH⟩
  | ok x k vs=>
   rw[hr] at i d;simp only[if_true] at d;obtain⟨b,rfl,-,W,qxb,X,vc,hq,ny,Kp⟩:=i;obtain⟨v,fV,g1,g2,g3⟩:=hx.iT (eH.dZ g);obtain⟨sa,sc,rfl⟩:=g2.sl;have l1:=bg g1;obtain⟨DX,Bj⟩:=P.X0 hr;obtain⟨-,QB⟩:=P.aSb hr;refine cH @g1 ?_;refine aZJ (aQk g2 g3 o U hq zg ⟨[],.inl ⟨J,J⟩,by unfold eO;rfl⟩ (dL.mono zg yH _ _ ny) Bj QB W (T.ext g)) ?_;rintro e w2 ⟨I,f⟩;have s2:=I.size;have s:=g.trans I;cases u:Cj cs x vs.length with
   | none=>
    rw[u] at f d;have f:e = ah (ak #[aT [],.bool G]):=f;subst f;refine bE ?_;exact d _ _ ⟨s,_,J,.inr ⟨J,J⟩⟩
   | some t=>
    rw[u] at f d;have f:e = ah (ak #[aT t,.bool A]):=f;subst f;have j:=P.aSc o U Bj QB W u;refine bE ?_;refine aZJ (aR9 t (hV.ext s) (T.ext s) (hL.ext s) fun ps c n K=>(amt K j).2.1.sl) ?_;rintro e w3 ⟨eD,B⟩;have s3:=eD.size;unfold P.runT at d;dsimp only at d;cases C:rY t with
    | error ca=>
     obtain⟨c,a⟩:=ca;rw[C] at B d;dsimp only at d;obtain⟨b',rfl,r⟩:=B;refine bE ?_;refine⟨fun _ w'=>w'=w3,?_,?_⟩
     .exact eR
     .rintro z E rfl dd;exact d _ _ ⟨yF,_,J,.inl yH⟩
    | ok y=>
     obtain⟨ps,c,n⟩:=y;rw[C] at B d;dsimp only at d;obtain⟨qb,vb,kb,ab,pb,rfl,L,aZv,ed,M,Kr,hEb,aZx,hm⟩:=B;have zQ:=aH4 u C;subst zQ;obtain⟨K,uW,SJ⟩:=amt C j;have Bc:=(I.trans eD).ext _ _ hq;have m:w3.heap[qb]?=aM #[aj 111 (pp vb),pq vb 1,.func (.func 36) #[pp vb] #[],bV,ai] 121:=L;have lq:=bg m;refine bE ?_;refine⟨fun _ w'=>w'=bO w3 qb (ae #[aj 111 (pp vb),pq vb 1,.func (.func 36) #[pp vb] #[],.slice X vs.length vc,ai] 121),?_,?_⟩
     .exact lP Bc m
     .rintro z E jl dd;have N:Ext M E:=yF;have g4:E.heap[qb]?=aM (XR (Qn ps vs.length vb kb ab pb) (.slice X vs.length vc) V) 121:=yH;have GG:Ext w1 E:=yF;clear jl;refine d _ _ ⟨yF,qb,J,⟨Qn ps vs.length vb kb ab pb,(by grind [apP,vmD,al8.cls]),ed,by have:=Kr.size;omega,P.aR7 uW SJ,fun _=>0,fun D hD=>⟨⟨_,g4,Kp.mono zg (by grind [bB.ext])⟩,fun _=>?_⟩⟩,DX,fun k l h=>?_⟩
      .exact(apP _ _ _ _ _ _ (fun p i=>(K p i).cls) zo).ext zg N
      .have h:k.iK (aZ9 vs.length) = .ok l:=h;grind [P.ar7,List.length_range]
def aSg{a:Int}(h:ar6 w v c a)(d:Ca w):Calls a9Q 23 #[v] w fun e w'=>Ext w w'/\e = ah (ak #[zi (c:Int),zi a]):=by
 rcases h with⟨b,rfl,f⟩| ⟨rfl,rfl⟩
 .exact alM b c a w f d
 .exact aoO c w d
def Y8(cs:List Cl)(q:Bs)(machine:Bool)(w:Z)(e:Ending)(w':Z):Prop:=Ext w w'/\match Gx cs q machine with
 | .err c a=>e = ah (ak #[aq V,.int .i64 (c:Int),.int .i64 a])
 | .ok E st names=>∃ qb,e = ah (ak #[ptr qb,.int .i64 0,.int .i64 (-1)])/\QP names w w' qb E st
def aSh(q:Bs)(machine:Bool){cs:List Cl}(h:q.length<=100000)(i:Io w)(hC:mw w w.heap.size)(j:Bx w)(k:lH w)(l:FB w)(m:Ca w)(hx:IS w xb cs)(n:∀ c∈cs,P.qi c)(o:cs.length<=40) :
  Calls a9Q 15 #[pp xb,aT q,.bool machine] w (Y8 cs q machine w):=by
 suffices H:∀ R:Ending->Z->Prop,(∀ e w',Y8 cs q machine w e w'->R e w')->Calls a9Q 15 #[pp xb,aT q,.bool machine] w R from H _ zg;intro R b;refine aJO ?_;refine(aSd q machine h i hC j k l hx n o).mono ?_;rintro e w1 ⟨p,d⟩;unfold Y8 at b;cases hr:Gx cs q machine with
 | err c a=>
  rw[hr] at d b;obtain⟨v,rfl,f⟩:=d;refine bE ?_;refine(aSg f (m.ext p)).mono ?_;rintro e w2 ⟨g,rfl⟩;refine bE ?_;exact b _ _ yF
 | ok E st names=>
  rw[hr] at d b;obtain⟨qb,rfl,f,r⟩:=d;refine bE ?_;refine(acz w1).mono ?_;rintro e w2 ⟨g,rfl⟩;refine bE ?_;exact b _ _ ⟨yF,qb,J,f.ext g,r⟩
open Go.Proofs.YtoegidfbnkaabaaGreatDoor.Sx
section
variable{p0 p1 p2 p3 p4 p5 p6 p7:Y}{w:Z}{R:Ending->Z->Prop}
def aSi:=cz w R [p0,p1] (gc [] [(2001,[0])] [6]) func11
def aSj:=cz w R [p0] (gc [] [] [7,20]) func18
def aSk:=cz w R [p0,p1,p2] (gc [] [] [2,21,26,32]) func20
def aSl:=cz w R [p0,p1,p2] (gc [(5,[9,10]),(22,[24]),(29,[28])] [(12000,[83]),(13001,[]),(19000,[111]),(20001,[]),(26000,[132]),(27003,[]),(34001,[30]),(36000,[158]),(37006,[])] [2,6,44,72,82,83,91,94,101,110,111,115,131,132,135,142,157,158,173,174]) func6
end
structure CR(w:Z):Prop where
 two:Io w
 cmp:mw w w.heap.size
 num:Bx w
 pow:lH w
 len:FB w
 err:Ca w
 gp:4<w.heap.size
 ge:0<w.heap.size
theorem CR.ext{w w':Z}(h:CR w)(a:Ext w w'):CR w':=
 ⟨h.two.ext a,⟨a0b h.cmp.lt a.size,(h.cmp.ext fun b o _=>a.ext b o).cell⟩,h.num.ext a,h.pow.ext a,h.len.ext a,h.err.ext a,a0b h.gp a.size,a0b h.ge a.size⟩
def asa{Ls:Qs E}{X:Bi E}(L:GW X){q:Qs E}{a:Bs×Nat}(b:q.1=V->X.Good c q.2/\mR (E.sr q.2).tr)(e:c<=700)(h:DB E vars d f q=O (a,Ls)):Ls.1=V->X.Good (c+1) Ls.2:=by
 unfold DB at h;split at h
 .grind
 .rename_i he;obtain⟨b,ht⟩:=b he;split at h
  .grind
  .grind
  .grind
  .rename_i k g;split at h
   .grind
   .split at h
    .grind
    .grind
    .simp only[aZG,aZ6] at h;obtain⟨-,rfl⟩:=h;exact fun _=>(L.Eo b e ht g).2 _
def Live(names:List Bs)(w1 w:Z)(qb:Nat)(E:En)(q:Qs E)(c:Nat):Prop:=
 ∃ X:Bi E,(GW X/\Qa X)/\qb≠X.eb/\w1.heap.size<=qb/\Ext w1 w/\(q.1=V->X.Good c q.2)/\Iv names/\(∀ k l,E.told k = .ok l->l.length=names.length)/\∃ ρ,wI X (fun b=>w1.heap.size<=b) ρ qb names w q
def QP.live{st:E.St}(h:QP vars w w' qb E st)(a:Ext w w'):Live vars w w' qb E (V,st) 0:=by
 obtain⟨⟨X,L,b,c,f,ρ,g⟩,d,e⟩:=h;exact⟨X,L,b,c,a,zg,d,e,ρ,yH⟩
def asb(h:Ext w1 w)(a:KR D qb w w')(hD:∀ b,D b->w1.heap.size<=b)(e:w1.heap.size<=qb):Ext w1 w':=
 ⟨a.os.trans h.os,a.tape.trans h.tape,a.output.trans h.output,Nat.le_trans h.size a.size,fun b o c _=>a.block b o (h.ext b o c) (by
  have:=bg c;rintro (⟨d,-⟩| d)<;>grind)⟩
def aSm{Ls:Qs E}{ru:Bs×Nat}{q:Qs E}(h:Live vars w1 w qb E q c)(a:CR w1)(i:c<=700)(hr:DB E vars d f q=O (ru,Ls)) :
  Calls a9Q 16 #[ptr qb] w fun e w'=>e = ah (ak #[aT ru.1,zi ((ru.2:Nat):Int)])/\Live vars w1 w' qb E Ls (c+1):=by
 obtain⟨X,L,j,k,b,l,g,m,ρ,n⟩:=h;have s1:=b.size;refine(aoP L.1 n yH (by have:=a.gp;omega) (by have:=a.ge;omega) (a.pow.ext b) (a.err.ext b) j (by have:=a.gp;omega) (by have:=a.ge;omega) l i (fun nm o=>⟨(g.2 nm o).1,by have:=(g.2 nm o).2;omega⟩) g.1 m hr).mono ?_;rintro e w' ⟨p,rfl,eG,r⟩;refine⟨J,X,L,j,k,asb b p yH k,?_,g,m,eG,r⟩;refine asa L.1 (fun he=>⟨l he,?_⟩) i hr;obtain⟨cs,tv,-,s⟩:=L.1.st (n.live he);exact s.ok
open Go.ChangeShapes Go.WideShapes Go.ChangeAt Go.WideMaps Go.WideElems
def asc{P:Program}{name:String}{t:Nat}{ss:List (List UInt8)}(d:P.globalNamed name=O g)(ht:(P.globals[g]?).map (·.type)=O t)
  (hu:P.underlying t=O (.array n e)) (he:P.underlying e=O .string) (j:P.cellsOf e=1) (D:P.cellsOf t=n)
  (h:laidMet P [(name,.agg (ss.map fun s=>.lit (.string s)))] W):∃ cs T z,W.heap[g]?=O (ae cs T z)/\cs.toList=ss.map fun s=>.string ⟨s.toArray⟩:=by
 obtain⟨ps,⟨E,F,cs,f,p,q,k,l,hv,o,-,-⟩,-,-⟩:=h;obtain rfl:=aZN (d.symm.trans k);obtain rfl:=aZN (ht.symm.trans l);have r:∃ T z,W.heap[g]?=O (ae cs T z):=by
  grind [World.var?,aZG]
 obtain⟨T,z,u⟩:=r;obtain⟨xs,m,rfl,hx,H,I,w⟩:=DataW.trod_array hu o;simp only[aZ6,DataW.agg.injEq] at hx;have hlen:ss.length=xs.length:=by have:=congrArg List.length hx.1;simpa using this
 refine⟨cs,T,z,u,?_⟩;refine List.ext_getElem zg fun i x K=>?_;have y:i<n:=zo;have a:=w i y;have B:(cs.toList.drop (i*P.cellsOf e)).take (P.cellsOf e)=[cs.toList[i]]:=by
  rw[j,Nat.mul_one,aZP x];rfl
 rw[B,aZM zo] at a;obtain⟨s,b,C,-⟩:=DataW.trod_string he a;simp only[a1X,and_true] at b;have c:(ss.map fun s=>(DataW.lit (.string s):DataW Unit))[i]' zg=(xs.map (·.1))[i]' zg:=by
  grind
 simp only[List.getElem_map,C,DataW.lit.injEq,Lit.string.injEq] at c;rw[b,List.getElem_map,c]
def QQ{P:Program}{l:List (String×DataW Unit)}{name:String}{d:DataW Unit}(h:laidMetH P l W)(a:(l.filter fun x=>x.1 == name)=[(name,d)])(b:d.handleName?.isNone=A) :
  laidMet P [(name,d)] W:=by
 have c:=h.filter fun x=>x.1 == name;grind [MakeChecks.laidMetH_plain]
def aSn:Tryz.prog.globalNamed "horn/syntax.signs" = O 1:=zk
def asd:Tryz.prog.globalNamed "horn/syntax.levels" = O 2:=zk
def aSo:Tryz.prog.globalNamed "horn/syntax.compare" = O 3:=zk
def aSp:Tryz.prog.globalNamed "errors.errorType" = O 0:=zk
def Tryz.rt:(Tryz.prog.cutTypes.find? (·.1 == "internal/reflectlite.rtype")).map (·.2)=O 219:=zk
def aSq:((aZ9 (476-100)).filter fun t=>Tryz.prog.rowNamed t [101,114,114,111,114])=[57]:=zk
theorem Tryz.size:Tryz.prog.types.size=476-100:=zk
def aSr{l:List (String×DataW Unit)}(h:laidMetH a9Q l W)(c:(l.filter fun x=>x.1 == "errors.errorType")=[("errors.errorType",Rows.laid_errors_errorType)]):Ca W:=by
 have a:=h.filter fun x=>x.1 == "errors.errorType";rw[c] at a;have d:laidMet a9Q [] W/\handlesMet a9Q [("errors.errorType",Rows.laid_errors_errorType)] W:=a;obtain⟨name,u,ty,e,f,j,k,b⟩:=d.2 _ (List.mem_singleton.2 J);have g:name=[101,114,114,111,114]:=(aZN e).symm;subst g;obtain rfl:=aZN (Tryz.rt.symm.trans f);have hm:ty∈(aZ9 (476-100)).filter fun t=>Tryz.prog.rowNamed t [101,114,114,111,114]:=(by grind [Tryz.size]);rw[aSq] at hm;obtain rfl:=List.mem_singleton.1 hm;have i:typeHandle a9Q 57=pq 12 57:=zk;rw[i] at b;unfold Ca;simpa using World.var?_cell aSp b 0
def aSs{l:List (String×DataW Unit)}(h:laidMetH a9Q l W)(b:(l.filter fun x=>x.1 == "horn/syntax.signs")=[("horn/syntax.signs",Rows.laid_horn_syntax_signs)]):Ms W:=by
 have c:=QQ h b J;obtain⟨cs,T,z,d,a⟩:=asc (ss:=og) aSn (t:=_) (e:=9) (n:=23) J J underlying9 zk zk c;refine⟨cs,T,z,d,?_,?_⟩
 .rw[<- Array.length_toList,a];decide
 .rw[a];rfl
def aSt{l:List (String×DataW Unit)}(h:laidMetH a9Q l W)(b:(l.filter fun x=>x.1 == "horn/syntax.compare")=[("horn/syntax.compare",Rows.laid_horn_syntax_compare)]):mw W W.heap.size:=by
 have c:=QQ h b J;obtain⟨cs,T,z,a,d⟩:=asc (ss:=LA) aSo (t:=_) (e:=9) (n:=9) J J underlying9 zk zk c;refine⟨bg a,fun j f=>?_⟩;have g:cs[j]?=cs.toList[j]?:=zg;simp only[a0l,a];rw[bZ zs,g,d,List.getElem?_map,a0c,aZM (show j<LA.length from f)];rfl
def aSu{P:Program}{t:Nat}{ss:List (List UInt8)}{x:List MemPlace}(hu:P.underlying t=O (.slice e))(he:P.underlying e=O .string)(d:P.cellsOf e=1)(g:0<ss.length)
  (h:DataW.trod (fun _=>()) P W 0 (fun _=>A) G f t [v]=O (.slice (ss.map fun s=>.lit (.string s)) [],x)) :
  ∃ b o c,b<W.heap.size/\v = .slice (O ⟨b,o,V⟩) ss.length c/\∀ j,j<ss.length->W.cell? ⟨b,o+j,V⟩=O (.string ⟨(ss.getD j []).toArray⟩):=by
 obtain⟨a,cap,i,-,k⟩:=open_row hu d h;simp only[a1X,and_true,List.length_map] at i;have key:∀ j,j<ss.length->W.cell? (a.add j)=O (.string ⟨(ss.getD j []).toArray⟩):=fun j l=>by
  obtain⟨u,n,q,m,c2⟩:=k j (.lit (.string ss[j])) zg;obtain⟨s,d1,d2,-⟩:=DataW.trod_string he c2;simp only[a1X,and_true] at d1;simp only[aZ6,DataW.lit.injEq,Lit.string.injEq] at d2;rw[m,d1,a0c,aZM l,Option.getD_some,d2.1]
 have w:=key 0 g;obtain⟨b,o,sp⟩:=a;have p:sp=none:=by
  cases sp with
  | none=>rfl
  | some y=>
   grind [a0l,Addr.add]
 subst p;have r:∀ j,(⟨b,o,V⟩:Addr).add j=⟨b,o+j,V⟩:=(by grind [Addr.add]);grind [a0l,Array.getElem?_eq_some_iff]
def aSv{l:List (String×DataW Unit)}(h:laidMetH a9Q l W)(j:(l.filter fun x=>x.1 == "horn/syntax.levels")=[("horn/syntax.levels",Rows.laid_horn_syntax_levels)]):zy W W.heap.size:=by
 obtain⟨ps,⟨I,K,cs,f,p,q,k,r,hv,u,-,-⟩,-,-⟩:=QQ h j J;obtain rfl:=aZN (asd.symm.trans k);obtain rfl:=aZN ((show(Tryz.prog.globals[2]?).map (·.type)=O _ from J).symm.trans r);obtain⟨xs,m,rfl,hx,w,L,y⟩:=DataW.trod_array (n:=2) (e:=39) J u;have B:∃ T z,W.heap[2]?=O (ae cs T z):=by
  simp only[World.var?,asd,Option.bind_some] at hv;split at hv
  .simp only[aZG] at hv;subst hv;exact⟨_,_,by assumption⟩
  .cases hv
 obtain⟨T,z,a⟩:=B;have C:Tryz.prog.cellsOf 39=1:=zk;have M:cs.toList.length=2:=by rw[w];kernel_rfl
 simp only[aZ6,Rows.laid_horn_syntax_levels,DataW.agg.injEq] at hx;refine⟨bg a,fun i d=>?_⟩;have g:=y i d;have D:(cs.toList.drop (i*Tryz.prog.cellsOf 39)).take (Tryz.prog.cellsOf 39)=[cs.toList[i]]:=by
  rw[C,Nat.mul_one,aZP zo];rfl
 rw[D,aZM zo] at g;have E:xs[i].1 = .slice ((P.ops i).map fun s=>.lit (.string s)) []:=by
  have:(xs.map (·.1))[i]' zg=xs[i].1:=zs;rw[<- this];simp only[<- hx.1]
  match i,d with
  | 0,_=>rfl
  | 1,_=>rfl
 obtain⟨b,o,c,F,N,H⟩:=aSu (ss:=P.ops i) (x:=xs[i].2) (t:=39) (e:=9) underlying39 underlying9 zk (by grind [P.ops]) (by rw[g,<- E]);refine⟨b,o,c,F,?_,H⟩;simp only[a0l,a];grind
def aSw:Tryz.prog.globalNamed "strconv.ErrSyntax" = O 6:=zk
def aSx:Tryz.prog.globalNamed "strconv.ErrRange" = O 7:=zk
def aSy{l:List (String×DataW Unit)}(h:laidMetH a9Q l W)(a:(l.filter fun x=>x.1 == "internal/strconv.uint64pow10")=[("internal/strconv.uint64pow10",Rows.laid_internal_strconv_uint64pow10)]):lH W:=by
 have b:=QQ h a J;exact Lib.tabIs_of_head (zs:=Lib.pow10Tab) (k:=.u64) (n:=20) adn (t:=_) (e:=261) J J J zk zk b
def ase{nm a:String}{d:DataW Unit}{ms:Array (String×TypeId)}{t:TypeId}(b:Tryz.prog.globalNamed nm=O g)(ht:(Tryz.prog.globals[g]?).map (·.type)=O t)(hu:Tryz.prog.underlying t=O (.interface ms))(h:laidMet a9Q [(nm,.iface a d)] W):∃ t1 p1,W.cell? ⟨g,0,V⟩=O (aj t1 p1):=by
 obtain⟨ps,⟨k,l,cs,f,p,q,c,e,hv,i,-,-⟩,-,-⟩:=h;obtain rfl:=aZN (b.symm.trans c);obtain rfl:=aZN (ht.symm.trans e);obtain⟨f1,u,v,m,-⟩:=iface_of_trod hu i;have j:cs=#[aj u v]:=zg;subst j;exact⟨u,v,by simpa using World.var?_cell b hv 0⟩
def aSz(h:W.ShapedOpen a9Q):FB W:=cell_of_shapedOpen_int (g:=5) (t:=3) (k:=.i64) h (Nat.le_of_ble_eq_true zk) (zero:=#[zi 0]) zk J zk zk zk
def aSA{l:List (String×DataW Unit)}(h:laidMetH a9Q l W)(c:W.ShapedOpen a9Q)(d:(l.filter fun x=>x.1 == "horn/syntax.signs")=[("horn/syntax.signs",Rows.laid_horn_syntax_signs)])
  (e:(l.filter fun x=>x.1 == "horn/syntax.levels")=[("horn/syntax.levels",Rows.laid_horn_syntax_levels)]) (f:(l.filter fun x=>x.1 == "horn/syntax.compare")=[("horn/syntax.compare",Rows.laid_horn_syntax_compare)])
  (g:(l.filter fun x=>x.1 == "internal/strconv.uint64pow10")=[("internal/strconv.uint64pow10",Rows.laid_internal_strconv_uint64pow10)]) (i:(l.filter fun x=>x.1 == "errors.errorType")=[("errors.errorType",Rows.laid_errors_errorType)])
  (j:(l.filter fun x=>x.1 == "strconv.ErrSyntax")=[("strconv.ErrSyntax",Rows.laid_strconv_ErrSyntax)]) (k:(l.filter fun x=>x.1 == "strconv.ErrRange")=[("strconv.ErrRange",Rows.laid_strconv_ErrRange)]):CR W:=by
 have b:=aSr h i;have m:=aSy h g;obtain⟨t1,p1,n⟩:=ase aSw (t:=57) J underlying57 (QQ h j J);obtain⟨t2,p2,o⟩:=ase aSx (t:=57) J underlying57 (QQ h k J);have lt:∀ {a:Addr} {v:Y},W.cell? a=O v->a.block<W.heap.size:=(by grind [a0l,bg]);refine⟨⟨aSv h e,aSs h d⟩,aSt h f,⟨t1,p1,t2,p2,n,o⟩,m,aSz c,b,?_,lt b⟩;grind
end Go.Proofs.YtoegidfbnkaabaaGreatDoor
namespace Go.Proofs.YtoegidfbnkaabaaGreatDoor
open P
open Go.ChangeShapes Go.WideShapes Go.RowKit
variable{fn:Func}{FG:Bool}{w w' w0:Z}
def Tryz.own:ownKnob Tryz.prog.godebug=none:=zk
def aSB(h:Ext w w')(may:MemPlace->Prop):w.keptBut w' may:=by
 refine⟨h.os,h.output,fun i a=>?_⟩;have e:=h.ext i _ (Array.getElem?_eq_getElem a);grind
def aSC{P:Program}{laid:List (String×DataW Unit)}(a:w'.heap=(w0.layVars P laid).heap)(b:w0.layFits P laid []=A)(c:w0.layIfaces P laid w'=A):laidMet P laid w':=by
 have d:(laid.filter fun x=>(laid.map (·.1)).contains x.1)=laid:=List.filter_eq_self.2 zg;have e:(laid.filter fun x=>!(laid.map (·.1)).contains x.1)=[]:=List.filter_eq_nil_iff.2 zg;exact laidMet_layVars (w0:=w0) (laid.map (·.1)) [] zg zg zg (by grind [LaidIn.none])
noncomputable def wH(os:Os):Z:=
 let w0:=World.holding a9Q os ⟨#[],#[],[]⟩
 { w0 with heap:=w0.heap.modify 0 fun
  | ae _ t frozen=>ae #[aj 219 (.agg #[aq (O ⟨12,57,V⟩)])] t frozen
  | o=>o }
noncomputable def Y9(l:List (String×DataW Unit))(os:Os):Z:=(wH os).layVars a9Q (l.filter fun x=>x.2.handleName?.isNone)
def aSD(l:List (String×DataW Unit))(os:Os):(Y9 l os).os=os:=World.layVars_os _ _ _
def aSE{H:Type}{enc:TypeId×Y->H}{a:Assume}{C:Checked}{os:Os}{f:FuncId}{s:ChangeSpec}{conds:List PathCond}{fresh handsOn again:Bool}{X:Z->Array Y->Prop}
  (n:∀ (w w':Z) (args:Array Y),w.heap=w'.heap->X w args->X w' args)
  (own:ownKnob C.prog.godebug=V) (started:os.Started) (b:C.prog.inits.idxOf? f=V) (c:C.prog.funcs[f]?=O fn)
  (witness:∃ (w:Z) (tape:Tape) (i:Input),w.os=os/\(w.forCall tape i).Shaped C.prog/\i.vars=[]/\Input.okWide C.prog (w.forCall tape i) .any w.heap.size f i /\
   ((s.pre enc C.prog fn conds FG (w.forCall tape i).memory i.args/\X (w.forCall tape i).memory i.args)/\sizedMet enc C.prog fn (a3A s) FG (w.forCall tape i).memory i.args)/\a.holds C.prog (lone (Frame.enter C.prog f i.args .normal) [] (w.forCall tape i)))
  (d:∀ (W:Z) (base:Nat) (args:Array Y) (ds gs:List (DataW H)) (before:List MemPlace),
   (∀ (j:Nat) t v,fn.params[j]?=O t->args[j]?=O v->Value.okWide C.prog W .any base t v)->DataW.Whole enc C.prog fn.params.toList s.vars FG W args.toList ds gs before ->
   (DataW.weightsEach C.prog (fn.params.toList++s.plain.varTypes C.prog) (ds++gs)).all (·<=reachBytes)=A->X W args->W.ShapedOpen C.prog ->
   Calls C.prog f args W fun e m=>∃ v,e = ah v/\s.post enc C.prog fn FG fresh handsOn again W args v m) :
  ReturnsInHanded a C os f .any (fun w args=>(s.pre enc C.prog fn conds FG w args/\X w args)/\sizedMet enc C.prog fn (a3A s) FG w args) (s.post enc C.prog fn FG fresh handsOn again):=by
 refine returnsInHanded_of_calls own started b witness ?_;intro w tape i _ o _ p g _;obtain⟨_,_,_,h,k,_,_,_,_,q⟩:=p;obtain rfl:h=fn:=aZN (k.symm.trans c);obtain⟨⟨⟨ds,gs,before,hw,-⟩,hx⟩,r⟩:=g;have l:=DataW.Whole.of_heap (w':=w.forCall tape i) (by rfl) hw;refine(d (w.forCall tape i) w.heap.size i.args ds gs before q l (r.weights hw) (n _ _ _ (by rfl) hx) o).mono fun e m ⟨v,he,u⟩=>?_;grind [ChangeSpec.post_blind]
def aSK(os:Os)(args:Array Y):laidMetH a9Q Rows.knownRow.laid ((Y9 Rows.knownRow.laid os).forCall (fun _ _=>0) ⟨#[],args,[]⟩).memory:=
 laidMetH_of_parts (aSC (w0:=wH os) (by simp [World.memory,World.forCall,Input.heap,Y9]) zk zk) zk
end Go.Proofs.YtoegidfbnkaabaaGreatDoor
namespace Go.Proofs.YtoegidfbnkaabaaGreatDoor
open P
open Go.RowKit Sx
variable{D F:Nat->Prop}{E:En}{c d f j k m n qb xb:Nat}{s:Bs}{v:Y}{vars:List Bs}{vs:List Y}{w w' w1:Z}
theorem aSL{cs:List Cl}(a:w.heap[xb]?=aM #[v] 72)(b:fK F w 79 v vs)(c:j9 F w vs cs):IS w xb cs:=
 ⟨v,vs,a,b.mono zg yH,j9.mono zg (fun _ _ _ _ _ d=>d) _ _ c⟩
def asg(s:Bs){w:Z}(f:s.length<=100000)(b:CR w):Calls a9Q 12 #[.string (bs s)] w fun e w'=>Ext w w'/\match P.program s with
  | .err c a=>e = ah (ak #[aq V,.int .i64 (c:Int),.int .i64 (a:Int)])
  | .ok cs _ _=>∃ xb,e = ah (ak #[ptr xb,.int .i64 0,.int .i64 (-1)])/\IS w' xb cs:=by
 refine(aGD s w f ⟨b.two.FV,b.cmp,b.two.sig⟩ b.err).mono ?_;rintro e w' ⟨g,d⟩;refine⟨g,?_⟩;cases hr:P.program s with
 | err c a=>grind
 | ok cs k v=>
  rw[hr] at d;obtain⟨xb,bv,vs,rfl,h,-,i,j⟩:=d;exact⟨xb,J,(by grind [aSL])⟩
def ahv(q:Bs)(mc:Bool){cs:List Cl}{v:List Bs}(c:q.length<=100000)(a:CR w)(hx:IS w xb cs)(b:P.program s = .ok cs k v) :
  Calls a9Q 15 #[pp xb,aT q,.bool mc] w (Y8 cs q mc w):=
 aSh q mc c a.two a.cmp a.num a.pow a.len a.err hx (P.ar5 b).2 (P.ar5 b).1
def aSM{ru:Bs×Nat}(s q:Bs)(mc:Bool)(m:s.length<=100000)(n:q.length<=100000)(g:CR w)(h:P.firstT d f s q mc=O ru) :
  Calls a9Q 20 #[aT s,aT q,.bool mc] w fun e w'=>Ext w w'/\e = ah (ak #[aT ru.1,zi ((ru.2:Nat):Int)]):=by
 unfold P.firstT at h;refine aSk ?_;refine(asg s m g).mono ?_;rintro e w1 ⟨i,b⟩;split at h
 .rename_i e0 a0 hr;cases h;rw[hr] at b;have b:e = ah (ak #[aq V,zi (e0:Int),zi (a0:Int)]):=b;subst b;refine bE ?_;exact yF
 .rename_i cs k v hr;rw[hr] at b;obtain⟨xb,rfl,hx⟩:=b;refine bE ?_;refine aZJ (ahv q mc n (g.ext i) hx hr) ?_;rintro e w2 ⟨l,c⟩;have t:=i.trans l;split at h
  .rename_i e0 a0 j;cases h;rw[j] at c;have c:e = ah (ak #[aq V,zi (e0:Int),zi a0]):=c;subst c;refine bE ?_;exact yF
  .rename_i E st names j;rw[j] at c;obtain⟨qb,rfl,o⟩:=c;have p:=o.live l;obtain⟨⟨a,u⟩,r,rfl⟩:=aZ7.1 h;refine bE ?_;refine aZJ (aSm p (g.ext i) zo r) ?_;rintro e w3 ⟨rfl,X,-,-,-,x,-⟩;refine bE ?_;exact yF
def za(w1:Z)(names:List Bs)(D:Nat->Prop)(w:Z)(qb:Nat)(E:En)(q:Qs E)(c:Nat):Prop:=
 ∃ X:Bi E,(GW X/\Qa X)/\qb≠X.eb/\D qb/\(∀ b,D b->w1.heap.size<=b/\b<w.heap.size)/\(q.1=V->X.Good c q.2)/\Iv names/\(∀ k l,E.told k = .ok l->l.length=names.length)/\∃ ρ,wI X D ρ qb names w q
theorem wI.cut{E:En}{X:Bi E}(L:Qa X){D D':Nat->Prop}{ρ:Nat->Nat}{qb:Nat}{names:List Bs}{w:Z}{q:Qs E}(h:wI X D ρ qb names w q)(a:∀ b,b<w.heap.size->D b->D' b):wI X D' ρ qb names w q:=
 ⟨h.cell,fun he=>L.cut (h.live he) a⟩
def QP.apt{st:E.St}(h:QP vars w w' qb E st)(a:Ext w1 w):za w1 vars (fun b=>w.heap.size<=b/\b<w'.heap.size) w' qb E (V,st) 0:=by
 obtain⟨⟨X,L,c,i,j,ρ,d⟩,e,f⟩:=h;have g:=d (fun b=>w.heap.size<=b) fun _ h=>h;obtain⟨GX,k,-⟩:=g.cell;have s1:=a.size;exact⟨X,L,c,yH,yH,zg,e,f,ρ,(by grind [wI.cut])⟩
theorem za.ext{w1:Z}{names:List Bs}{D:Nat->Prop}{w w':Z}{qb:Nat}{E:En}{q:Qs E}{c:Nat}(h:za w1 names D w qb E q c)(a:Ext w w'):za w1 names D w' qb E q c:=by
 obtain⟨X,L,d,e,k,f,g,i,ρ,j⟩:=h;exact⟨X,L,d,e,fun b l=>⟨yH,a0b yH a.size⟩,f,g,i,ρ,j.ext L.1 a⟩
def Za{Ls:Qs E}{ru:Bs×Nat}{q:Qs E}(h:za w1 vars D w qb E q c)(p:Ext w1 w)(l:CR w1)(x:c<=700)(hr:DB E vars d f q=O (ru,Ls)) :
  Calls a9Q 16 #[ptr qb] w fun e w'=>e = ah (ak #[aT ru.1,zi ((ru.2:Nat):Int)])/\Ext w1 w'/\∃ D',za w1 vars D' w' qb E Ls (c+1) /\
   ∀ (g:Nat->Prop) (r:List Bs) (s:Nat) (m:En) (q2:Qs m) (c2:Nat),za w1 r g w s m q2 c2->(∀ b,D b->¬ g b)->za w1 r g w' s m q2 c2/\∀ b,D' b->¬ g b:=by
 obtain⟨X,L,y,P,Q,B,n,C,ρ,t⟩:=h;have R:=Q qb P;have S:=t.cut L.2 (D':=fun b=>D b\/w.heap.size<=b) fun b _ a=>.inl a;have U:∀ b,D b\/w.heap.size<=b->w1.heap.size<=b:=yH;refine(aoP L.1 S yH (by grind [CR.gp]) (by grind [CR.ge]) (l.pow.ext p) (l.err.ext p) y (by have:=l.gp;omega) (by have:=l.ge;omega) B x
  (fun nm F=>⟨(n.2 nm F).1,by have:=(n.2 nm F).2;omega⟩) n.1 C hr).mono ?_
 rintro e w' ⟨i,rfl,eG,PW⟩;have hs:w.heap.size<=w'.heap.size:=i.size;obtain⟨GX,W,-⟩:=t.cell;refine⟨J,asb p i U R.1,fun b=>(D b\/w.heap.size<=b)/\b<w'.heap.size,⟨X,L,y,yH,yH,?_,n,C,eG,(by grind [wI.cut])⟩,?_⟩
 .refine asa L.1 (fun he=>⟨B he,?_⟩) x hr;obtain⟨cs,tv,-,gK⟩:=L.1.st (t.live he);exact gK.ok
 .intro g r s m q2 c2 ⟨X2,H,g1,g2,g3,g4,g5,g6,vh,g7⟩ U4;have I:Nw g w w':=⟨fun b cs T j a=>i.block _ _ a (by
    rintro (⟨-,cs',K,z,k,M⟩| rfl)
    .cases k;exact j (.inl M)
    .rw[W] at a;injection a with a;injection a with _ a _;exact j (.inr zg)),fun b o N a=>i.block _ _ a (by
    have:=(g3 b N).2;rintro (⟨k | k,-⟩| rfl)<;>grind),fun b es c a=>i.block _ _ a (by
    rintro (⟨-,cs',K,z,k,-⟩| rfl)<;>grind)⟩
  refine⟨⟨X2,H,g1,g2,yH,g4,g5,g6,vh,⟨?_,fun he=>H.2.bH (g7.live he) I⟩⟩,fun b a N=>?_⟩
  .obtain⟨u,k1,k2⟩:=g7.cell;refine⟨u,I.own _ _ g2 k1,k2.mono zg fun b cs _ a=>i.block _ _ a ?_⟩;rintro (⟨-,cs',K,z,k,M⟩| rfl)
   .grind [absurd,kT]
   grind
  grind
def P.asj:∀ (f g n:Nat),n<f->n<g->rS f n=rS g n
 | 0,_,_,h,_=>zg
 | _+1,0,_,_,h=>zg
 | f+1,g+1,n,a,b=>by
  unfold rS;split
  .rfl
  .rw[P.asj f g (n / 10) zo zo]
def P.aSO(h:¬ n<10):ff n=ff (n / 10)++[a0M (48+n % 10)]:=by
 show rS (n+1) n=rS (n / 10+1) (n / 10)++_;rw[rS,bZ h,P.asj n (n / 10+1) (n / 10) zo zo]
theorem P.aSP(h:n<10):ff n=[a0M (48+n)]:=by
 show rS (n+1) n=_;rw[rS,zip h]
def asl(d:Nat)(h:d<10):List.drop d (List.take (d+1) ([48,49,50,51,52,53,54,55,56,57]:Bs))=[a0M (48+d)]:=by
 have:∀ d:Fin 10,List.drop d.val (List.take (d.val+1) ([48,49,50,51,52,53,54,55,56,57]:Bs))=[a0M (48+d.val)]:=zd;exact this ⟨d,h⟩
def Zb(w:Z):∀ (n:Nat),n<=9223372036854775807->Calls a9Q 18 #[zi (n:Nat)] w fun e w'=>e = ah (aT (ff n))/\w'=w:=by
 intro n;induction n using Nat.strongRecOn with
 | _ n ih=>
  intro i;refine aSj ?_;have d:¬ (n:Int)<0:=zo;have hm:(n:Int).tmod 10=((n % 10:Nat):Int):=zg;have f:(n:Int).tdiv 10=((n / 10:Nat):Int):=zg;have g:((n % 10:Nat):Int).toNat=n % 10:=zo;have a:(((n % 10:Nat):Int)+1).toNat=n % 10+1:=zo;have hlt:n % 10<10:=zo;have b:=asl (n % 10) hlt;simp only[List.take_succ_cons] at b;by_cases h:n<10
  .have c:(n:Int)<10:=zo;refine dH @VE @aaO d (zA hm (zA f (zA @g (zA @a b)))) ?_;grind [P.aSP,Nat.mod_eq_of_lt]
  .have c:¬ (n:Int)<10:=zo;refine dH @VE @aaO d (zA hm (zA f (zA @g (zA @a b)))) ?_;refine(ih (n / 10) zo zo).mono ?_;rintro e w' ⟨rfl,rfl⟩;refine bE ?_;have j:(ff (n / 10)).length<=19:=(by grind [MD]);rw[ya _ _ zg,P.aSO h,a,asl (n % 10) hlt];grind
def asm(c:Int)(n:Nat)(d:-9223372036854775808<=c/\c<=9223372036854775807)(f:0<n)(g:n<=9000000000)(w:Z):Calls a9Q 11 #[zi c,zi (n:Int)] w fun e w'=>e = ah (zi ((((if c<0 then -(c+1) else c).toNat % n:Nat)):Int))/\w'=w:=by
 refine aSi ?_;refine⟨fun z w'=>w'=w/\z 0=zi (if c<0 then -(c+1) else c),?_,?_⟩
 .by_cases h:c<0
  .refine cH h ?_;grind
  .exact fa h
 .rintro z w' ⟨rfl,a⟩ i;rw[a];have b:(n:Int)≠0:=zo;rw[VE _ _ _ b];grind
end Go.Proofs.YtoegidfbnkaabaaGreatDoor
