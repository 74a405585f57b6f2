/- A part of one proof (KR2, KR3, ShX7, KL1, KA2, KA3, KDec, KL2, KL4, KL6, PureRk, PureRq, PureC3, PureH, PureC4, PureC5, PureRr, PureRt, PureLs, PureLw, PureLm, PureLy, PureLu). -/
import Derived.Test.YtoegidfbnkaabaaGreatDoorPkMBE
import Derived.Lib.LaidTab
import Derived.LaidLaws
import Derived.Shelf.Vars
import Derived.ProofKit
import Derived.LaidMore
import Derived.OpenShut
import Derived.LaidHandle
import Derived.LaidSub
import Derived.MakeChecks
import Derived.Stop.Joined
import Derived.Test.YtoegidfbnkaabaaGreatDoorRows
import Derived.JoinedOf
import Derived.ChangeMaps5
import Derived.Lay
import Derived.KernelRfl
set_option linter.all false
set_option maxRecDepth 100000
set_option maxHeartbeats 8000000
open Option renaming some → O, none → V
open Go renaming Value → Y, World → Z
open Bool renaming true → G, false → ae
open Go.Obj renaming cells → ah
open Go.Ending renaming returned → ai
open Go.Value renaming nilIface → aj, iface → ak, tuple → aq, pointer → au
open Option.some renaming injEq → a3I, inj → a3R
open List renaming length_append → a3M, length_cons → a3N, getElem?_eq_getElem → a3P, mem_cons_self → a3S, mem_cons → a3T, drop_eq_getElem_cons → a3U, not_mem_nil → a30, cons_append → a4f, range → a4g, getD_eq_getElem?_getD → a4j, all_eq_true → a4F, mem_range → a50
open Bool renaming and_eq_true → a39
open Prod.mk renaming injEq → a4b
open Nat renaming lt_of_lt_of_le → a4i
open Go.World renaming cell? → a4n
open UInt8 renaming ofNat → a4T
open List.cons renaming injEq → a6h
open Go.Proofs.Tryz renaming prog → bd0
open Go.Proofs.Tryz
namespace Go.Proofs.YtoegidfbnkaabaaGreatDoor
open P
open Go.RowKit Sx
variable{D:Nat->Prop}{E:En}{W w w' w1:Z}{c d e f g k n nv qb xb:Nat}{s:Bs}{v:Y}{vars:List Bs}
def P.aUI{x:Bd}{vs:List Bs}(h:ry qg s = .ok x k vs):vs.length<=12/\iX x<=5800:=by
 obtain⟨d,f⟩:=P.ZJ h;refine⟨d.1,?_⟩;unfold ry at h;split at h
 .grind
 .split at h
  .grind
  .rename_i T b;have a:=Ul b;have g:C7 T:=⟨N8 _ _ _ _ (by rw[TV,b]),fun u hu hk=>by
    obtain⟨c,r,e,-⟩:=(a.tok u hu).2.2.1 hk;grind,fun u hu hk=>((a.tok u hu).2.1 hk).2.1⟩
   have i:=a.len;grind [P.aoG,aoG]
def P.auz{cs:List Cl}{vs:List Bs}(h:P.program s = .ok cs k vs):cs.length<=40/\∀ c∈cs,P.qT c:=by
 unfold P.program at h;split at h
 .grind
 .split at h
  .grind
  .rename_i T b;have a:=Ul b;have d:C7 T:=⟨N8 _ _ _ _ (by rw[TV,b]),fun u hu hk=>by
    obtain⟨c,r,e,-⟩:=(a.tok u hu).2.2.1 hk;grind,fun u hu hk=>((a.tok u hu).2.1 hk).2.1⟩
   have f:=a.len;exact aJR d (fun u hu hk=>(a.tok u hu).2.2.2.1 hk) zo h
def P.aUJ{cs:List Cl}{x:Bd}{t:Bs}(b:∀ c∈cs,P.qT c)(d:cs.length<=40)(hx:eZ nv 2900 x)(f:iX x<=5800)(nh:nv<=12)(h:A4 cs x nv=O t):Uz t:=by
 unfold A4 at h;split at h
 .grind
 .rename_i l e;split at h
  .grind
  .rename_i a g;cases h;exact aJ9 (ao5 b d e).1 (by grind [P.YF,P.fj.nil,fJ,YF,fj.nil]) zo
def auA(w:Z)(v:Y)(c:Nat)(a:Int):Prop:=(∃ b,v = ak 73 (ptr b)/\w.heap[b]?=aO #[zi (c:Int),zi a] 77)\/(v = ak 27 (zi (c:Int))/\a=-1)
def aaN(names:List Bs)(w w':Z)(qb:Nat)(E:En)(st:E.St):Prop:=Vw names w w' qb E st/\Lk names/\∀ k l,E.told k = .ok l->l.length=names.length
def ajr(cs:List Cl)(q:Bs)(machine:Bool)(w:Z)(e:Ending)(w':Z):Prop:=Ext w w'/\match Lu cs q machine with
 | .err c a=>∃ v,e = ai (aq #[au V,v])/\auA w' v c a
 | .ok E st names=>∃ qb,e = ai (aq #[ptr qb,aj])/\aaN names w w' qb E st
theorem P.auB(m:Vm):∀ (l:List Nat) (r:List Tm),m.iO l = .ok r->r.length=l.length
 | [],r,h=>by
  unfold Vm.iO at h;cases h;rfl
 | k::l,r,h=>by
  unfold Vm.iO at h;split at h
  .split at h
   .rename_i a b;cases h;rw[a3N,a3N,P.auB m l a b]
   grind
  grind
def aUK(q:Bs)(machine:Bool){cs:List Cl}(N:q.length<=100000)(Q:Jp w)(hC:nk w w.heap.size)(hV:Cf w)(S:mj w)(hL:GF w)(hx:EZ w xb cs)(o:∀ c∈cs,P.qT c)(T:cs.length<=40) :
  Calls bd0 26 #[pp xb,aW q,.bool machine] w (ajr cs q machine w):=by
 cases machine with
 | false=>
  refine(aOt q N Q hC hx (fun c E=>(o c E).cl) (fun c E=>by have:=(o c E).name;omega) zo zo zo).mono ?_;rintro e w' ⟨g,h⟩;refine⟨g,?_⟩;unfold Lu;cases hr:ry qg q with
  | err c a=>
   rw[hr] at h;obtain⟨b,rfl,r⟩:=h;exact⟨_,J,.inl yH⟩
  | ok x k vs=>
   rw[hr] at h;obtain⟨qb,rfl,r⟩:=h;refine⟨qb,J,r,(P.ZJ hr).1,fun k l h=>?_⟩;have h:Except.ok ((a4g vs.length).map Tm.var)=Except.ok l:=h;grind
 | true=>
  suffices H:∀ R:Ending->Z->Prop,(∀ e w',ajr cs q G w e w'->R e w')->Calls bd0 26 #[pp xb,aW q,.bool G] w R from H _ zg;intro R d;unfold ajr Lu at d;refine ap9 ?_;refine bG ?_;refine(aqL q w N Q hC).mono ?_;rintro e w1 ⟨g,i⟩;have s1:=g.size;cases hr:ry qg q with
  | err c a=>
   rw[hr] at i d;obtain⟨b,rfl,r⟩:=i;refine bG ?_;exact d _ _ ⟨g,_,J,.inl yH⟩
  | ok x k vs=>
   rw[hr] at i d;simp only[if_true] at d;obtain⟨b,rfl,-,U,qxb,W,X,hq,nZ,Lx⟩:=i;obtain⟨v,fX,g1,g2,g3⟩:=hx.iS (eJ.ea g);obtain⟨sa,sc,rfl⟩:=g2.sl;have l1:=bn g1;obtain⟨EU,B4⟩:=P.ZJ hr;obtain⟨-,R9⟩:=P.aUI hr;refine cJ @g1 ?_;refine Calls.mono (aST g2 g3 o T hq zg ⟨[],.inl ⟨J,J⟩,by unfold eS;rfl⟩ (dL.mono zg yH _ _ nZ) B4 R9 U (S.ext g)) ?_;rintro e w2 ⟨F,f⟩;have s2:=F.size;have s:=g.trans F;cases u:A4 cs x vs.length with
   | none=>
    rw[u] at f d;have f:e = ai (aq #[aW [],.bool ae]):=f;subst f;refine bG ?_;exact d _ _ ⟨s,_,J,.inr ⟨J,J⟩⟩
   | some t=>
    rw[u] at f d;have f:e = ai (aq #[aW t,.bool G]):=f;subst f;have j:=P.aUJ o T B4 R9 U u;refine bG ?_;refine Calls.mono (aUG t (hV.ext s) (S.ext s) (hL.ext s) fun ps c n I=>(aoM I j).2.1.sl) ?_;rintro e w3 ⟨eI,A⟩;have s3:=eI.size;unfold P.runT at d;dsimp only at d;cases B:rC t with
    | error ca=>
     obtain⟨c,a⟩:=ca;rw[B] at A d;dsimp only at d;obtain⟨b',rfl,r⟩:=A;refine bG ?_;refine⟨fun _ w'=>w'=w3,?_,?_⟩
     .exact eR
     .rintro z C rfl dd;exact d _ _ ⟨yF,_,J,.inl yH⟩
    | ok y=>
     obtain⟨ps,c,n⟩:=y;rw[B] at A d;dsimp only at d;obtain⟨qb,vb,kb,ab,pb,rfl,K,a22,ef,L,Lz,hEb,a26,hm⟩:=A;have AM:=aKE u B;subst AM;obtain⟨I,vR,Uu⟩:=aoM B j;have zM:=(F.trans eI).ext _ _ hq;have m:w3.heap[qb]?=aO #[ak 111 (pp vb),pq vb 1,.func (.func 36) #[pp vb] #[],bW,aj] 121:=K;have lq:=bn m;refine bG ?_;refine⟨fun _ w'=>w'=bR w3 qb (ah #[ak 111 (pp vb),pq vb 1,.func (.func 36) #[pp vb] #[],.slice W vs.length X,aj] 121),?_,?_⟩
     .exact mv zM m
     .rintro z C jB dd;have M:Ext L C:=yF;have g4:C.heap[qb]?=aO (ZA (RZ ps vs.length vb kb ab pb) (.slice W vs.length X) V) 121:=yH;have EO:Ext w1 C:=yF;clear jB;refine d _ _ ⟨yF,qb,J,⟨RZ ps vs.length vb kb ab pb,(by grind [ar9,vmD,aor.cls]),ef,by have:=Lz.size;omega,P.aUE vR Uu,fun _=>0,fun D hD=>⟨⟨_,g4,Lx.mono zg (by grind [bD.ext])⟩,fun _=>?_⟩⟩,EU,fun k l h=>?_⟩
      .exact(ar9 _ _ _ _ _ _ (fun p i=>(I p i).cls) zo).ext zg M
      .have h:k.iO (a4g vs.length) = .ok l:=h;grind [P.auB,List.length_range]
def aUN{a:Int}(h:auA w v c a)(d:C8 w):Calls bd0 23 #[v] w fun e w'=>Ext w w'/\e = ai (aq #[zi (c:Int),zi a]):=by
 rcases h with⟨b,rfl,f⟩| ⟨rfl,rfl⟩
 .exact an5 b c a w f d
 .exact arb c w d
def aaO(cs:List Cl)(q:Bs)(machine:Bool)(w:Z)(e:Ending)(w':Z):Prop:=Ext w w'/\match Lu cs q machine with
 | .err c a=>e = ai (aq #[au V,.int .i64 (c:Int),.int .i64 a])
 | .ok E st names=>∃ qb,e = ai (aq #[ptr qb,.int .i64 0,.int .i64 (-1)])/\aaN names w w' qb E st
def aUO(q:Bs)(machine:Bool){cs:List Cl}(h:q.length<=100000)(i:Jp w)(hC:nk w w.heap.size)(j:Cf w)(k:mj w)(l:GF w)(m:C8 w)(hx:EZ w xb cs)(n:∀ c∈cs,P.qT c)(o:cs.length<=40) :
  Calls bd0 15 #[pp xb,aW q,.bool machine] w (aaO cs q machine w):=by
 suffices H:∀ R:Ending->Z->Prop,(∀ e w',aaO cs q machine w e w'->R e w')->Calls bd0 15 #[pp xb,aW q,.bool machine] w R from H _ zg;intro R b;refine aMo ?_;refine(aUK q machine h i hC j k l hx n o).mono ?_;rintro e w1 ⟨p,d⟩;unfold aaO at b;cases hr:Lu cs q machine with
 | err c a=>
  rw[hr] at d b;obtain⟨v,rfl,f⟩:=d;refine bG ?_;refine(aUN f (m.ext p)).mono ?_;rintro e w2 ⟨g,rfl⟩;refine bG ?_;exact b _ _ yF
 | ok E st names=>
  rw[hr] at d b;obtain⟨qb,rfl,f,r⟩:=d;refine bG ?_;refine(aeD w1).mono ?_;rintro e w2 ⟨g,rfl⟩;refine bG ?_;exact b _ _ ⟨yF,qb,J,f.ext g,r⟩
open Go.Proofs.YtoegidfbnkaabaaGreatDoor.Sx
section
variable{p0 p1 p2 p3 p4 p5 p6 p7:Y}{w:Z}{R:Ending->Z->Prop}
def aUP:=cz w R [p0,p1] (gc [] [(2001,[0])] [6]) func11
def aUQ:=cz w R [p0] (gc [] [] [7,20]) func18
def aUR:=cz w R [p0] (gc [(3,[3,4])] [(7001,[3]),(8003,[3])] [9,19]) func17
def aUS:=cz w R [p0,p1,p2] (gc [(6,[11])] [(3000,[33]),(4001,[]),(11000,[63]),(12004,[])] [2,6,23,32,33,37,62,63,70]) func19
def aUT:=cz w R [p0,p1,p2] (gc [(11,[11,12])] [(2001,[0]),(4001,[1]),(16000,[67]),(17001,[]),(19000,[86]),(20001,[]),(23000,[105]),(24001,[]),(32000,[137]),(33001,[])] [2,6,23,28,45,66,67,76,85,86,104,105,112,118,124,136,137,140,141]) func4
end
structure Fg(w:Z):Prop where
 two:Jp w
 cmp:nk w w.heap.size
 num:Cf w
 pow:mj w
 len:GF w
 err:C8 w
 gp:4<w.heap.size
 ge:0<w.heap.size
theorem Fg.ext{w w':Z}(h:Fg w)(a:Ext w w'):Fg w':=
 ⟨h.two.ext a,⟨a4i h.cmp.lt a.size,(h.cmp.ext fun b o _=>a.ext b o).cell⟩,h.num.ext a,h.pow.ext a,h.len.ext a,h.err.ext a,a4i h.gp a.size,a4i h.ge a.size⟩
def aUU{X:Dv E}(L:JP X){q q':Qs E}{a:Bs×Nat}(b:q.1=V->X.Good c q.2/\nG (E.sr q.2).tr)(e:c<=700)(h:Hr E vars d f q=O (a,q')):q'.1=V->X.Good (c+1) q'.2:=by
 unfold Hr at h;split at h
 .grind
 .rename_i he;obtain⟨b,ht⟩:=b he;split at h
  .grind
  .grind
  .grind
  .rename_i k g;split at h
   .grind
   .split at h
    .grind
    .grind
    .simp only[a3I,a4b] at h;obtain⟨-,rfl⟩:=h;exact fun _=>(L.Fu b e ht g).2 _
def aUV(h:Ext w1 w)(a:Me D qb w w')(hD:∀ b,D b->w1.heap.size<=b)(e:w1.heap.size<=qb):Ext w1 w':=
 ⟨a.os.trans h.os,a.tape.trans h.tape,a.output.trans h.output,Nat.le_trans h.size a.size,fun b o c _=>a.block b o (h.ext b o c) (by
  have:=bn c;rintro (⟨d,-⟩| d)<;>grind)⟩
open Go.ChangeShapes Go.WideShapes Go.ChangeAt Go.WideMaps Go.WideElems
def auE{P:Program}{name:String}{t:Nat}{ss:List (List UInt8)}(d:P.globalNamed name=O g)(ht:(P.globals[g]?).map (·.type)=O t)
  (hu:P.underlying t=O (.array n e)) (he:P.underlying e=O .string) (j:P.cellsOf e=1) (B:P.cellsOf t=n)
  (h:laidMet P [(name,.agg (ss.map fun s=>.lit (.string s)))] W):∃ cs T z,W.heap[g]?=O (ah cs T z)/\cs.toList=ss.map fun s=>.string ⟨s.toArray⟩:=by
 obtain⟨ps,⟨C,D,cs,f,p,q,k,l,hv,o,-,-⟩,-,-⟩:=h;obtain rfl:=a3R (d.symm.trans k);obtain rfl:=a3R (ht.symm.trans l);have r:∃ T z,W.heap[g]?=O (ah cs T z):=by
  grind [World.var?,a3I]
 obtain⟨T,z,u⟩:=r;obtain⟨xs,m,rfl,hx,E,F,w⟩:=DataW.trod_array hu o;simp only[a4b,DataW.agg.injEq] at hx;have hlen:ss.length=xs.length:=by have:=congrArg List.length hx.1;simpa using this
 refine⟨cs,T,z,u,?_⟩;refine List.ext_getElem zg fun i x H=>?_;have hi:i<n:=zo;have a:=w i hi;have y:(cs.toList.drop (i*P.cellsOf e)).take (P.cellsOf e)=[cs.toList[i]]:=by
  rw[j,Nat.mul_one,a3U x];rfl
 rw[y,a3P zo] at a;obtain⟨s,b,A,-⟩:=DataW.trod_string he a;simp only[a6h,and_true] at b;have c:(ss.map fun s=>(DataW.lit (.string s):DataW Unit))[i]' zg=(xs.map (·.1))[i]' zg:=by
  grind
 simp only[List.getElem_map,A,DataW.lit.injEq,Lit.string.injEq] at c;rw[b,List.getElem_map,c]
def So{P:Program}{l:List (String×DataW Unit)}{name:String}{d:DataW Unit}(h:laidMetH P l W)(a:(l.filter fun x=>x.1 == name)=[(name,d)])(b:d.handleName?.isNone=G) :
  laidMet P [(name,d)] W:=by
 have c:=h.filter fun x=>x.1 == name;grind [MakeChecks.laidMetH_plain]
def aUW:Tryz.prog.globalNamed "horn/syntax.signs" = O 1:=zk
def auF:Tryz.prog.globalNamed "horn/syntax.levels" = O 2:=zk
def aUX:Tryz.prog.globalNamed "horn/syntax.compare" = O 3:=zk
def aUY:Tryz.prog.globalNamed "errors.errorType" = O 0:=zk
def Tryz.rt:(Tryz.prog.cutTypes.find? (·.1 == "internal/reflectlite.rtype")).map (·.2)=O 219:=zk
def aUZ:((a4g (476-100)).filter fun t=>Tryz.prog.rowNamed t [101,114,114,111,114])=[57]:=zk
theorem Tryz.size:Tryz.prog.types.size=476-100:=zk
def aU0{l:List (String×DataW Unit)}(h:laidMetH bd0 l W)(c:(l.filter fun x=>x.1 == "errors.errorType")=[("errors.errorType",Rows.laid_errors_errorType)]):C8 W:=by
 have a:=h.filter fun x=>x.1 == "errors.errorType";rw[c] at a;have d:laidMet bd0 [] W/\handlesMet bd0 [("errors.errorType",Rows.laid_errors_errorType)] W:=a;obtain⟨name,u,ty,e,f,j,k,b⟩:=d.2 _ (List.mem_singleton.2 J);have g:name=[101,114,114,111,114]:=(a3R e).symm;subst g;obtain rfl:=a3R (Tryz.rt.symm.trans f);have hm:ty∈(a4g (476-100)).filter fun t=>Tryz.prog.rowNamed t [101,114,114,111,114]:=(by grind [Tryz.size]);rw[aUZ] at hm;obtain rfl:=List.mem_singleton.1 hm;have i:typeHandle bd0 57=pq 12 57:=zk;rw[i] at b;unfold C8;simpa using World.var?_cell aUY b 0
def aU1{l:List (String×DataW Unit)}(h:laidMetH bd0 l W)(b:(l.filter fun x=>x.1 == "horn/syntax.signs")=[("horn/syntax.signs",Rows.laid_horn_syntax_signs)]):NV W:=by
 have c:=So h b J;obtain⟨cs,T,z,d,a⟩:=auE (ss:=nL) aUW (t:=_) (e:=9) (n:=23) J J underlying9 zk zk c;refine⟨cs,T,z,d,?_,?_⟩
 .rw[<- Array.length_toList,a];decide
 .rw[a];rfl
def aU2{l:List (String×DataW Unit)}(h:laidMetH bd0 l W)(b:(l.filter fun x=>x.1 == "horn/syntax.compare")=[("horn/syntax.compare",Rows.laid_horn_syntax_compare)]):nk W W.heap.size:=by
 have c:=So h b J;obtain⟨cs,T,z,a,d⟩:=auE (ss:=M7) aUX (t:=_) (e:=9) (n:=9) J J underlying9 zk zk c;refine⟨bn a,fun j f=>?_⟩;have g:cs[j]?=cs.toList[j]?:=zg;simp only[a4n,a];rw[bU zs,g,d,List.getElem?_map,a4j,a3P (show j<M7.length from f)];rfl
def aU3{P:Program}{t:Nat}{ss:List (List UInt8)}{x:List MemPlace}(hu:P.underlying t=O (.slice e))(he:P.underlying e=O .string)(d:P.cellsOf e=1)(g:0<ss.length)
  (h:DataW.trod (fun _=>()) P W 0 (fun _=>G) ae f t [v]=O (.slice (ss.map fun s=>.lit (.string s)) [],x)) :
  ∃ b o c,b<W.heap.size/\v = .slice (O ⟨b,o,V⟩) ss.length c/\∀ j,j<ss.length->W.cell? ⟨b,o+j,V⟩=O (.string ⟨(ss.getD j []).toArray⟩):=by
 obtain⟨a,cap,i,-,k⟩:=open_row hu d h;simp only[a6h,and_true,List.length_map] at i;have key:∀ j,j<ss.length->W.cell? (a.add j)=O (.string ⟨(ss.getD j []).toArray⟩):=fun j l=>by
  obtain⟨u,n,q,m,c2⟩:=k j (.lit (.string ss[j])) zg;obtain⟨s,d1,d2,-⟩:=DataW.trod_string he c2;simp only[a6h,and_true] at d1;simp only[a4b,DataW.lit.injEq,Lit.string.injEq] at d2;rw[m,d1,a4j,a3P l,Option.getD_some,d2.1]
 have w:=key 0 g;obtain⟨b,o,sp⟩:=a;have p:sp=none:=by
  cases sp with
  | none=>rfl
  | some y=>
   grind [a4n,Addr.add]
 subst p;have r:∀ j,(⟨b,o,V⟩:Addr).add j=⟨b,o+j,V⟩:=(by grind [Addr.add]);grind [a4n,Array.getElem?_eq_some_iff]
def aU4{l:List (String×DataW Unit)}(h:laidMetH bd0 l W)(g:(l.filter fun x=>x.1 == "horn/syntax.levels")=[("horn/syntax.levels",Rows.laid_horn_syntax_levels)]):AB W W.heap.size:=by
 obtain⟨ps,⟨F,H,cs,f,p,q,j,k,hv,r,-,-⟩,-,-⟩:=So h g J;obtain rfl:=a3R (auF.symm.trans j);obtain rfl:=a3R ((show(Tryz.prog.globals[2]?).map (·.type)=O _ from J).symm.trans k);obtain⟨xs,m,rfl,hx,u,I,w⟩:=DataW.trod_array (n:=2) (e:=39) J r;have y:∃ T z,W.heap[2]?=O (ah cs T z):=by
  simp only[World.var?,auF,Option.bind_some] at hv;split at hv
  .simp only[a3I] at hv;subst hv;exact⟨_,_,by assumption⟩
  .cases hv
 obtain⟨T,z,a⟩:=y;have A:Tryz.prog.cellsOf 39=1:=zk;have K:cs.toList.length=2:=by rw[u];kernel_rfl
 simp only[a4b,Rows.laid_horn_syntax_levels,DataW.agg.injEq] at hx;refine⟨bn a,fun i hi=>?_⟩;have d:=w i hi;have B:(cs.toList.drop (i*Tryz.prog.cellsOf 39)).take (Tryz.prog.cellsOf 39)=[cs.toList[i]]:=by
  rw[A,Nat.mul_one,a3U zo];rfl
 rw[B,a3P zo] at d;have C:xs[i].1 = .slice ((P.ops i).map fun s=>.lit (.string s)) []:=by
  have:(xs.map (·.1))[i]' zg=xs[i].1:=zs;rw[<- this];simp only[<- hx.1]
  match i,hi with
  | 0,_=>rfl
  | 1,_=>rfl
 obtain⟨b,o,c,D,L,E⟩:=aU3 (ss:=P.ops i) (x:=xs[i].2) (t:=39) (e:=9) underlying39 underlying9 zk (by grind [P.ops]) (by rw[d,<- C]);refine⟨b,o,c,D,?_,E⟩;simp only[a4n,a];grind
def aU5:Tryz.prog.globalNamed "strconv.ErrSyntax" = O 6:=zk
def aU6:Tryz.prog.globalNamed "strconv.ErrRange" = O 7:=zk
def aU7{l:List (String×DataW Unit)}(h:laidMetH bd0 l W)(a:(l.filter fun x=>x.1 == "internal/strconv.uint64pow10")=[("internal/strconv.uint64pow10",Rows.laid_internal_strconv_uint64pow10)]):mj W:=by
 have b:=So h a J;exact Lib.tabIs_of_head (zs:=Lib.pow10Tab) (k:=.u64) (n:=20) afr (t:=_) (e:=261) J J J zk zk b
def auG{nm a:String}{d:DataW Unit}{ms:Array (String×TypeId)}{t:TypeId}(b:Tryz.prog.globalNamed nm=O g)(ht:(Tryz.prog.globals[g]?).map (·.type)=O t)(hu:Tryz.prog.underlying t=O (.interface ms))(h:laidMet bd0 [(nm,.iface a d)] W):∃ t1 p1,W.cell? ⟨g,0,V⟩=O (ak t1 p1):=by
 obtain⟨ps,⟨k,l,cs,f,p,q,c,e,hv,i,-,-⟩,-,-⟩:=h;obtain rfl:=a3R (b.symm.trans c);obtain rfl:=a3R (ht.symm.trans e);obtain⟨f1,u,v,m,-⟩:=iface_of_trod hu i;have j:cs=#[ak u v]:=zg;subst j;exact⟨u,v,by simpa using World.var?_cell b hv 0⟩
def aU8(h:W.ShapedOpen bd0):GF W:=cell_of_shapedOpen_int (g:=5) (t:=3) (k:=.i64) h (Nat.le_of_ble_eq_true zk) (zero:=#[zi 0]) zk J zk zk zk
def aU9{l:List (String×DataW Unit)}(h:laidMetH bd0 l W)(c:W.ShapedOpen bd0)(d:(l.filter fun x=>x.1 == "horn/syntax.signs")=[("horn/syntax.signs",Rows.laid_horn_syntax_signs)])
  (e:(l.filter fun x=>x.1 == "horn/syntax.levels")=[("horn/syntax.levels",Rows.laid_horn_syntax_levels)]) (f:(l.filter fun x=>x.1 == "horn/syntax.compare")=[("horn/syntax.compare",Rows.laid_horn_syntax_compare)])
  (g:(l.filter fun x=>x.1 == "internal/strconv.uint64pow10")=[("internal/strconv.uint64pow10",Rows.laid_internal_strconv_uint64pow10)]) (i:(l.filter fun x=>x.1 == "errors.errorType")=[("errors.errorType",Rows.laid_errors_errorType)])
  (j:(l.filter fun x=>x.1 == "strconv.ErrSyntax")=[("strconv.ErrSyntax",Rows.laid_strconv_ErrSyntax)]) (k:(l.filter fun x=>x.1 == "strconv.ErrRange")=[("strconv.ErrRange",Rows.laid_strconv_ErrRange)]):Fg W:=by
 have b:=aU0 h i;have m:=aU7 h g;obtain⟨t1,p1,n⟩:=auG aU5 (t:=57) J underlying57 (So h j J);obtain⟨t2,p2,o⟩:=auG aU6 (t:=57) J underlying57 (So h k J);have lt:∀ {a:Addr} {v:Y},W.cell? a=O v->a.block<W.heap.size:=(by grind [a4n,bn]);refine⟨⟨aU4 h e,aU1 h d⟩,aU2 h f,⟨t1,p1,t2,p2,n,o⟩,m,aU8 c,b,?_,lt b⟩;grind
end Go.Proofs.YtoegidfbnkaabaaGreatDoor
namespace Go.Proofs.YtoegidfbnkaabaaGreatDoor
open P
open Go.ChangeShapes Go.WideShapes Go.RowKit
variable{fn:Func}{GN:Bool}{w w' w0:Z}
def Tryz.own:ownKnob Tryz.prog.godebug=none:=zk
def aVa(h:Ext w w')(may:MemPlace->Prop):w.keptBut w' may:=by
 refine⟨h.os,h.output,fun i hi=>?_⟩;have e:=h.ext i _ (Array.getElem?_eq_getElem hi);grind
def aVb{P:Program}{laid:List (String×DataW Unit)}(a:w'.heap=(w0.layVars P laid).heap)(b:w0.layFits P laid []=G)(hi:w0.layIfaces P laid w'=G):laidMet P laid w':=by
 have c:(laid.filter fun x=>(laid.map (·.1)).contains x.1)=laid:=List.filter_eq_self.2 zg;have d:(laid.filter fun x=>!(laid.map (·.1)).contains x.1)=[]:=List.filter_eq_nil_iff.2 zg;exact laidMet_layVars (w0:=w0) (laid.map (·.1)) [] zg zg zg (by grind [LaidIn.none])
noncomputable def wH(os:Os):Z:=
 let w0:=World.holding bd0 os ⟨#[],#[],[]⟩
 { w0 with heap:=w0.heap.modify 0 fun
  | ah _ t frozen=>ah #[ak 219 (.agg #[au (O ⟨12,57,V⟩)])] t frozen
  | o=>o }
noncomputable def wLd(l:List (String×DataW Unit))(os:Os):Z:=(wH os).layVars bd0 (l.filter fun x=>x.2.handleName?.isNone)
def aVc(l:List (String×DataW Unit))(os:Os):(wLd l os).os=os:=World.layVars_os _ _ _
def aVd{H:Type}{enc:TypeId×Y->H}{a:Assume}{C:Checked}{os:Os}{f:FuncId}{s:ChangeSpec}{conds:List PathCond}{fresh handsOn again:Bool}{X:Z->Array Y->Prop}
  (n:∀ (w w':Z) (args:Array Y),w.heap=w'.heap->X w args->X w' args)
  (own:ownKnob C.prog.godebug=V) (started:os.Started) (b:C.prog.inits.idxOf? f=V) (c:C.prog.funcs[f]?=O fn)
  (witness:∃ (w:Z) (tape:Tape) (i:Input),w.os=os/\(w.forCall tape i).Shaped C.prog/\i.vars=[]/\Input.okWide C.prog (w.forCall tape i) .any w.heap.size f i /\
   ((s.pre enc C.prog fn conds GN (w.forCall tape i).memory i.args/\X (w.forCall tape i).memory i.args)/\sizedMet enc C.prog fn (OpenSpec.ofChange s) GN (w.forCall tape i).memory i.args)/\a.holds C.prog (lone (Frame.enter C.prog f i.args .normal) [] (w.forCall tape i)))
  (d:∀ (W:Z) (base:Nat) (args:Array Y) (ds gs:List (DataW H)) (before:List MemPlace),
   (∀ (j:Nat) t v,fn.params[j]?=O t->args[j]?=O v->Value.okWide C.prog W .any base t v)->DataW.Whole enc C.prog fn.params.toList s.vars GN W args.toList ds gs before ->
   (DataW.weightsEach C.prog (fn.params.toList++s.plain.varTypes C.prog) (ds++gs)).all (·<=reachBytes)=G->X W args->W.ShapedOpen C.prog ->
   Calls C.prog f args W fun e m=>∃ v,e = ai v/\s.post enc C.prog fn GN fresh handsOn again W args v m) :
  ReturnsInHanded a C os f .any (fun w args=>(s.pre enc C.prog fn conds GN w args/\X w args)/\sizedMet enc C.prog fn (OpenSpec.ofChange s) GN w args) (s.post enc C.prog fn GN fresh handsOn again):=by
 refine returnsInHanded_of_calls own started b witness ?_;intro w tape i _ o _ p g _;obtain⟨_,_,_,h,k,_,_,_,_,q⟩:=p;obtain rfl:h=fn:=a3R (k.symm.trans c);obtain⟨⟨⟨ds,gs,before,hw,-⟩,hx⟩,r⟩:=g;have l:=DataW.Whole.of_heap (w':=w.forCall tape i) (by rfl) hw;refine(d (w.forCall tape i) w.heap.size i.args ds gs before q l (r.weights hw) (n _ _ _ (by rfl) hx) o).mono fun e m ⟨v,he,u⟩=>?_;grind [ChangeSpec.post_blind]
def aVj(os:Os)(args:Array Y):laidMetH bd0 Rows.knownRow.laid ((wLd Rows.knownRow.laid os).forCall (fun _ _=>0) ⟨#[],args,[]⟩).memory:=
 laidMetH_of_parts (aVb (w0:=wH os) (by simp [World.memory,World.forCall,Input.heap,wLd]) zk zk) zk
end Go.Proofs.YtoegidfbnkaabaaGreatDoor
namespace Go.Proofs.YtoegidfbnkaabaaGreatDoor
open P
open Go.RowKit Sx
variable{D F:Nat->Prop}{E:En}{b c d f k n qb xb:Nat}{s:Bs}{v:Y}{vars:List Bs}{vs:List Y}{w w' w1:Z}
def P.auI:∀ (f g n:Nat),n<f->n<g->tz f n=tz g n
 | 0,_,_,h,_=>zg
 | _+1,0,_,_,h=>zg
 | f+1,g+1,n,a,b=>by
  unfold tz;split
  .rfl
  .rw[P.auI f g (n / 10) zo zo]
def P.aVk(h:¬ n<10):di n=di (n / 10)++[a4T (48+n % 10)]:=by
 show tz (n+1) n=tz (n / 10+1) (n / 10)++_;rw[tz,bU h,P.auI n (n / 10+1) (n / 10) zo zo]
theorem P.aVl(h:n<10):di n=[a4T (48+n)]:=by
 show tz (n+1) n=_;rw[tz,zip h]
def auJ(d:Nat)(h:d<10):List.drop d (List.take (d+1) ([48,49,50,51,52,53,54,55,56,57]:Bs))=[a4T (48+d)]:=by
 have:∀ d:Fin 10,List.drop d.val (List.take (d.val+1) ([48,49,50,51,52,53,54,55,56,57]:Bs))=[a4T (48+d.val)]:=zd;exact this ⟨d,h⟩
def auK(w:Z):∀ (n:Nat),n<=9223372036854775807->Calls bd0 18 #[zi (n:Nat)] w fun e w'=>e = ai (aW (di n))/\w'=w:=by
 intro n;induction n using Nat.strongRecOn with
 | _ n ih=>
  intro i;refine aUQ ?_;have d:¬ (n:Int)<0:=zo;have hm:(n:Int).tmod 10=((n % 10:Nat):Int):=zg;have f:(n:Int).tdiv 10=((n / 10:Nat):Int):=zg;have g:((n % 10:Nat):Int).toNat=n % 10:=zo;have a:(((n % 10:Nat):Int)+1).toNat=n % 10+1:=zo;have hlt:n % 10<10:=zo;have b:=auJ (n % 10) hlt;simp only[List.take_succ_cons] at b;by_cases h:n<10
  .have c:(n:Int)<10:=zo;refine dG @XB @acQ d (zA hm (zA f (zA @g (zA @a b)))) ?_;grind [P.aVl,Nat.mod_eq_of_lt]
  .have c:¬ (n:Int)<10:=zo;refine dG @XB @acQ d (zA hm (zA f (zA @g (zA @a b)))) ?_;refine(ih (n / 10) zo zo).mono ?_;rintro e w' ⟨rfl,rfl⟩;refine bG ?_;have j:(di (n / 10)).length<=19:=(by grind [aeu]);rw[xP _ _ zg,P.aVk h,a,auJ (n % 10) hlt];grind
def aVn(c:Int)(n:Nat)(d:-9223372036854775808<=c/\c<=9223372036854775807)(f:0<n)(g:n<=9000000000)(w:Z):Calls bd0 11 #[zi c,zi (n:Int)] w fun e w'=>e = ai (zi ((((if c<0 then -(c+1) else c).toNat % n:Nat)):Int))/\w'=w:=by
 refine aUP ?_;refine⟨fun z w'=>w'=w/\z 0=zi (if c<0 then -(c+1) else c),?_,?_⟩
 .by_cases h:c<0
  .refine cJ h ?_;grind
  .exact eV h
 .rintro z w' ⟨rfl,a⟩ i;rw[a];have b:(n:Int)≠0:=zo;rw[XB _ _ _ b];grind
theorem aVo{cs:List Cl}(a:w.heap[xb]?=aO #[v] 72)(b:fO F w 79 v vs)(c:ky F w vs cs):EZ w xb cs:=
 ⟨v,vs,a,b.mono zg yH,ky.mono zg (fun _ _ _ _ _ d=>d) _ _ c⟩
def aVp(s:Bs){w:Z}(f:s.length<=100000)(b:Fg w):Calls bd0 12 #[.string (bs s)] w fun e w'=>Ext w w'/\match P.program s with
  | .err c a=>e = ai (aq #[au V,.int .i64 (c:Int),.int .i64 (a:Int)])
  | .ok cs _ _=>∃ xb,e = ai (aq #[ptr xb,.int .i64 0,.int .i64 (-1)])/\EZ w' xb cs:=by
 refine(aJc s w f ⟨b.two.G0,b.cmp,b.two.sig⟩ b.err).mono ?_;rintro e w' ⟨g,d⟩;refine⟨g,?_⟩;cases hr:P.program s with
 | err c a=>grind
 | ok cs k v=>
  rw[hr] at d;obtain⟨xb,bv,vs,rfl,h,-,i,j⟩:=d;exact⟨xb,J,(by grind [aVo])⟩
def aju(q:Bs)(mc:Bool){cs:List Cl}{v:List Bs}(c:q.length<=100000)(a:Fg w)(hx:EZ w xb cs)(b:P.program s = .ok cs k v) :
  Calls bd0 15 #[pp xb,aW q,.bool mc] w (aaO cs q mc w):=
 aUO q mc c a.two a.cmp a.num a.pow a.len a.err hx (P.auz b).2 (P.auz b).1
def PE(w1:Z)(names:List Bs)(D:Nat->Prop)(w:Z)(qb:Nat)(E:En)(q:Qs E)(c:Nat):Prop:=
 ∃ X:Dv E,(JP X/\Vv X)/\qb≠X.eb/\D qb/\(∀ b,D b->w1.heap.size<=b/\b<w.heap.size)/\(q.1=V->X.Good c q.2)/\Lk names/\(∀ k l,E.told k = .ok l->l.length=names.length)/\∃ ρ,yz X D ρ qb names w q
theorem yz.cut{E:En}{X:Dv E}(L:Vv X){D D':Nat->Prop}{ρ:Nat->Nat}{qb:Nat}{names:List Bs}{w:Z}{q:Qs E}(h:yz X D ρ qb names w q)(a:∀ b,b<w.heap.size->D b->D' b):yz X D' ρ qb names w q:=
 ⟨h.cell,fun he=>L.cut (h.live he) a⟩
def aaN.apt{st:E.St}(h:aaN vars w w' qb E st)(a:Ext w1 w):PE w1 vars (fun b=>w.heap.size<=b/\b<w'.heap.size) w' qb E (V,st) 0:=by
 obtain⟨⟨X,L,c,i,j,ρ,d⟩,e,f⟩:=h;have g:=d (fun b=>w.heap.size<=b) fun _ h=>h;obtain⟨Ij,k,-⟩:=g.cell;have s1:=a.size;exact⟨X,L,c,yH,yH,zg,e,f,ρ,(by grind [yz.cut])⟩
def WX{q q':Qs E}{s:Bs×Nat}(h:PE w1 vars D w qb E q c)(t:Ext w1 w)(n:Fg w1)(y:c<=700)(hr:Hr E vars d f q=O (s,q')) :
  Calls bd0 16 #[ptr qb] w fun e w'=>e = ai (aq #[aW s.1,zi ((s.2:Nat):Int)])/\Ext w1 w'/\∃ D',PE w1 vars D' w' qb E q' (c+1) /\
   ∀ (j:Nat->Prop) (g:List Bs) (i:Nat) (p:En) (q2:Qs p) (c2:Nat),PE w1 g j w i p q2 c2->(∀ b,D b->¬ j b)->PE w1 g j w' i p q2 c2/\∀ b,D' b->¬ j b:=by
 obtain⟨X,L,A,P,Q,B,r,C,ρ,u⟩:=h;have R:=Q qb P;have S:=u.cut L.2 (D':=fun b=>D b\/w.heap.size<=b) fun b _ a=>.inl a;have U:∀ b,D b\/w.heap.size<=b->w1.heap.size<=b:=yH;refine(aOz L.1 S yH (by grind [Fg.gp]) (by grind [Fg.ge]) (n.pow.ext t) (n.err.ext t) A (by have:=n.gp;omega) (by have:=n.ge;omega) B y
  (fun nm F=>⟨(r.2 nm F).1,by have:=(r.2 nm F).2;omega⟩) r.1 C hr).mono ?_
 rintro e w' ⟨k,rfl,eP,Zv⟩;have hs:w.heap.size<=w'.heap.size:=k.size;obtain⟨Ij,W,-⟩:=u.cell;refine⟨J,aUV t k U R.1,fun b=>(D b\/w.heap.size<=b)/\b<w'.heap.size,⟨X,L,A,yH,yH,?_,r,C,eP,(by grind [yz.cut])⟩,?_⟩
 .refine aUU L.1 (fun he=>⟨B he,?_⟩) y hr;obtain⟨cs,tv,-,gY⟩:=L.1.st (u.live he);exact gY.ok
 .intro j g i p q2 c2 ⟨X2,H,g1,g2,g3,g4,g5,g6,vZ,g7⟩ a29;have I:OW j w w':=⟨fun b cs T l a=>k.block _ _ a (by
    rintro (⟨-,cs',K,z,m,M⟩| rfl)
    .cases m;exact l (.inl M)
    .rw[W] at a;injection a with a;injection a with _ a _;exact l (.inr zg)),fun b o N a=>k.block _ _ a (by
    have:=(g3 b N).2;rintro (⟨m | m,-⟩| rfl)<;>grind),fun b es c a=>k.block _ _ a (by
    rintro (⟨-,cs',K,z,m,-⟩| rfl)<;>grind)⟩
  refine⟨⟨X2,H,g1,g2,yH,g4,g5,g6,vZ,⟨?_,fun he=>H.2.bL (g7.live he) I⟩⟩,fun b a N=>?_⟩
  .obtain⟨x,k1,k2⟩:=g7.cell;refine⟨x,I.own _ _ g2 k1,k2.mono zg fun b cs _ a=>k.block _ _ a ?_⟩;rintro (⟨-,cs',K,z,m,M⟩| rfl)
   .grind [absurd,lH]
   grind
  grind
namespace P
def Ss(t:Tok)(r:Option (Sum Nat (List Tok))):Option (Sum Nat (List Tok)):=match r with
 | some (.inr l)=>O (.inr (t::l))
 | x=>x
def auM{w r:Bs}{p:Nat}(hw:F2 w)(hr:∀ c,r.head?=O c->cls c=0):jw (f+1) (w++r) p=Ss ⟨mP w,w,p⟩ (jw f r (p+w.length)):=by
 obtain⟨a,d⟩:=hw;cases w with
 | nil=>exact absurd J a
 | cons c w=>
  have b:=d c a3S;have e:blank c=false:=by
   cases h:blank c with
   | false=>rfl
   | true=>
    unfold blank at h;simp only[Bool.or_eq_true,beq_iff_eq] at h;rcases h with rfl | rfl<;>exact absurd b zd
  have ht:(c::w++r).takeWhile (fun x=>cls x≠0)=c::w:=by
   have key:∀ (l:Bs),(∀ x∈l,cls x≠0)->(l++r).takeWhile (fun x=>cls x≠0)=l:=by
    intro l;induction l with
    | nil=>
     intro _;cases r with
     | nil=>rfl
     | cons y r=>rw[List.nil_append,List.takeWhile_cons,bU (by have:=hr y J;simpa using this)]
    | cons y l ih=>
     intro h;rw[a4f,List.takeWhile_cons,zip (by simpa using h y a3S),ih fun x hx=>h x (List.mem_cons_of_mem _ hx)]
   grind
  have g:(c::w++r).drop (c::w).length=r:=zs;rw[a4f,jw,<- a4f,e];simp only[Bool.false_eq_true,if_false];rw[zip b,ht,bU a,g];grind [Ss,jw]
def aVr{r:Bs}{p:Nat}:jw (f+1) (32::r) p=jw f r (p+1):=rfl
def aVs{s r:Bs}{p:Nat}(a:s∈Oj)(hr:r.head?≠O 62):jw (f+1) (s++r) p=Ss ⟨4,s,p⟩ (jw f r (p+s.length)):=by
 have h:=aKm a hr;have b:(s++r).drop s.length=r:=zs;simp only[Oj,a3T,a30,or_false] at a;rcases a with rfl | rfl | rfl | rfl | rfl | rfl | rfl | rfl | rfl | rfl;all_goals
  rw[a4f,jw,<- a4f];rw[bU zd,bU zd,bU (fun h=>absurd h.1 zd),h];simp only[b];unfold Ss;generalize jw f r _=y;cases y with
  | none=>rfl
  | some x=>cases x<;>rfl
def aVt{p:Nat}:jw (f+2) [46] p=O (.inr [⟨4,[46],p⟩,⟨0,[],p+1⟩]):=rfl
def lex_lt{r:Bs}{p:Nat}:jw (f+1) (60::32::r) p=Ss ⟨4,[60],p⟩ (jw f (32::r) (p+1)):=by
 have h:nL.find? (fun x=>x.isPrefixOf ((60:UInt8)::32::r))=O [60]:=rfl;have a:((60:UInt8)::32::r).drop [(60:UInt8)].length=32::r:=rfl;rw[jw];rw[bU zd,bU zd,bU (fun h=>absurd h.1 zd),h];grind [Ss,jw]
inductive Pc where
 | wd (x:Bs)
 | sg (x:Bs)
 | lt
 | bl
 | nm (x:Bs)
def Pc.text:Pc->Bs
 | .wd s=>s
 | .sg s=>s
 | .lt=>[60]
 | .bl=>[32]
 | .nm x=>x
def ll:List Pc->Bs
 | []=>[46]
 | x::r=>x.text++ll r
def ID:List Pc->Nat->List Tok
 | [],p=>[⟨4,[46],p⟩,⟨0,[],p+1⟩]
 | .wd s::r,p=>⟨mP s,s,p⟩::ID r (p+s.length)
 | .sg s::r,p=>⟨4,s,p⟩::ID r (p+s.length)
 | .lt::r,p=>⟨4,[60],p⟩::ID r (p+1)
 | .bl::r,p=>ID r (p+1)
 | .nm s::r,p=>⟨3,s,p⟩::ID r (p+s.length)
def vp:List Pc->Prop
 | []=>True
 | .wd s::r=>(F2 s/\∀ c,(ll r).head?=O c->cls c=0)/\vp r
 | .sg s::r=>(s∈Oj/\(ll r).head?≠O 62)/\vp r
 | .lt::r=>(ll r).head?=O 32/\vp r
 | .bl::r=>vp r
 | .nm s::r=>(mP s=3/\F2 s/\∀ c,(ll r).head?=O c->cls c=0)/\vp r
def Su:∀ (L:List Pc) (f p:Nat),vp L->jw (f+L.length+2) (ll L) p=O (.inr (ID L p))
 | [],f,p,_=>aVt
 | .wd s::r,f,p,h=>by
  rw[a3N,show f+(r.length+1)+2=f+r.length+2+1 by omega];show jw _ (s++ll r) p=_;rw[auM h.1.1 h.1.2,Su r f _ h.2];rfl
 | .sg s::r,f,p,h=>by
  rw[a3N,show f+(r.length+1)+2=f+r.length+2+1 by omega];show jw _ (s++ll r) p=_;rw[aVs h.1.1 h.1.2,Su r f _ h.2];rfl
 | .lt::r,f,p,h=>by
  rw[a3N,show f+(r.length+1)+2=f+r.length+2+1 by omega];obtain⟨y,c⟩:∃ y,ll r=32::y:=by
   have:=h.1;cases d:ll r with
   | nil=>grind
   | cons a b=>grind
  show jw _ (60::ll r) p=_;have ih:=Su r f (p+1) h.2;rw[c] at ih ⊢;rw[lex_lt,ih];rfl
 | .bl::r,f,p,h=>by
  rw[a3N,show f+(r.length+1)+2=f+r.length+2+1 by omega];show jw _ (32::ll r) p=_;rw[aVr,Su r f _ h];rfl
 | .nm s::r,f,p,h=>by
  rw[a3N,show f+(r.length+1)+2=f+r.length+2+1 by omega];show jw _ (s++ll r) p=_;rw[auM h.1.2.1 h.1.2.2,Su r f _ h.2,h.1.1];rfl
def Sv:∀ (L:List Pc),vp L->L.length+1<=(ll L).length
 | [],_=>by simp [ll]
 | .wd s::r,h=>by
  have:=Sv r h.2;have a:s≠[]:=fun e=>h.1.1.1 (by rw[e];rfl);grind [List.length_pos_iff,ll,Pc.text,a3M,a3N]
 | .sg s::r,h=>by
  have:=Sv r h.2;have a:0<s.length:=by
   have:=h.1.1;simp only[Oj,a3T,a30,or_false] at this;grind
  grind [ll,Pc.text,a3M,a3N]
 | .lt::r,h=>by
  have:=Sv r h.2;grind [ll,Pc.text,a3M,a3N,List.length_nil]
 | .bl::r,h=>by
  have:=Sv r h;grind [ll,Pc.text,a3M,a3N,List.length_nil]
 | .nm s::r,h=>by
  have:=Sv r h.2;have a:s≠[]:=fun e=>h.1.2.1.1 (by rw[e];rfl);grind [List.length_pos_iff,ll,Pc.text,a3M,a3N]
def ajy{L:List Pc}(h:vp L):lex (ll L) = .inr (ID L 0):=by
 have a:=Sv L h;have b:=Su L ((ll L).length+1-(L.length+2)) 0 h;grind [ll,lex]
def aVu(n:Nat):∃ c r,di n=c::r/\digit c=true:=by
 obtain⟨c,r,h,-⟩:=UA (n+1) n zo;exact⟨c,r,h,(by grind [Lr,a3S])⟩
def auN(n:Nat)(r:Bs):(di n++r).head?≠O 62:=by
 obtain⟨c,t,h,a⟩:=aVu n;rw[h];intro e;injection e with e;have e:c=62:=e;subst e;exact absurd a zd
structure a3a(x:Int):Prop where
 lo:-999999999<=x
 hi:x<=999999999
def nEx(x:Int):Ex:=.mk 110 [] x 0 []
mutual
def WY (nv:Nat):Tm->Prop
 | .atom s=>s=[91,93]\/(mP s=1/\F2 s)
 | .int n=>-999999999<=n/\n<=999999999
 | .var i=>i<nv
 | .comp name args=>((args.length=2/\name∈[[43],[45],[42],[47,47],[46]])\/(mP name=1/\F2 name))/\args≠[]/\ajA nv args
 termination_by structural t=>t
def ajA (nv:Nat):List Tm->Prop
 | []=>True
 | t::r=>WY nv t/\ajA nv r
 termination_by structural t=>t
end
def VS(nv:Nat)(s:Ws):Prop:=s.seen.Nodup/\∀ i∈s.seen,i<nv
def CLv(S:List Nat)(least:Nat)(I:List Item)(s0 s1:List Nat)(t:Tm):Prop:=if least<=1 then C0 S I s0 s1 t else if least=2 then C1 S I s0 s1 t else C2 S I s0 s1 t
structure Pcs(s s':Ws)(I:List Item):Prop where
 out:s'.out=s.out++aKl I
 ok:∀ i∈I,i.ok
 sp:sep ae I
 pre:s.seen <+: s'.seen
def auO(I:List Item):Prop:=∀ T k,At T k I->ee T k [93]=ae
def PT(nv:Nat)(t:Tm)(least:Nat)(s s':Ws):Prop:=VS nv s'/\∃ I,Pcs s s' I/\auO I/\∀ S:List Nat,S.Nodup->s'.seen <+: S->CLv S least I s.seen s'.seen t
def PA(nv:Nat)(ts:List Tm)(s s':Ws):Prop:=VS nv s'/\∃ I,Pcs s s' I/\sep G I/\∀ S:List Nat,S.Nodup->s'.seen <+: S->CR S I s.seen s'.seen ts
def PB(nv:Nat)(a b:Tm)(c:UInt8)(s s':Ws):Prop:=VS nv s'/\∃ d e,Pcs (s.add [c]) s' (d++e)/\sep ae d/\sep G e/\auO d/\∀ S:List Nat,S.Nodup->s'.seen <+: S->∃ sm,C0 S d s.seen sm a/\CL S e sm s'.seen b
section
variable{nv:Nat}(nh:nv<=12)
include nh
structure Rd(nv f:Nat):Prop where
 tm:∀ t least s s',lF [] f t least s=O (O s')->WY nv t->VS nv s->PT nv t least s s'
 cp:∀ name args least s s',zm [] f name args least s=O (O s')->WY nv (.comp name args)->VS nv s->PT nv (.comp name args) least s s'
 ar:∀ ts s s',tE [] f 44 ts s=O (O s')->ajA nv ts->VS nv s->PA nv ts s s'
 li:∀ c a b s s',vL [] f c a b s=O (O s')->WY nv a->WY nv b->VS nv s->PB nv a b c s s'
end
def small(s:Bs):Prop:=∃ c r,s=c::r/\cls c=115
def WZ(x:Ex):Prop:=(x.kind=97->x.args=[]/\(x.name=[91,93]\/small x.name))/\(x.kind=99->x.name∈[[46],[43],[45],[42],[47,47]]\/small x.name)
structure a3c(T:List Tok)(f:Nat):Prop where
 CF:∀ k v d x k' v',oU T f k v d=O (.ok x k' v')->WZ x
 list:∀ k v d x k' v',qD T f k v d=O (.ok x k' v')->WZ x
 oper:∀ l k v d x k' v',jf T f l k v d=O (.ok x k' v')->WZ x
 more:∀ l y k v d x k' v',WZ y->pE T f l y k v d=O (.ok x k' v')->WZ x
def rn(s:Ws):Ws:={ s with seen:=a4g s.seen.length }
structure Rn(S:List Nat)(f:Nat):Prop where
 tm:∀ t least s s',lF [] f t least s=O (O s')->s.seen <+: s'.seen/\(s'.seen <+: S->lF [] f (Ls S t) least (rn s)=O (O (rn s')))
 cp:∀ name args least s s',zm [] f name args least s=O (O s')->s.seen <+: s'.seen/\(s'.seen <+: S->zm [] f name (UC S args) least (rn s)=O (O (rn s')))
 ar:∀ c ts s s',tE [] f c ts s=O (O s')->s.seen <+: s'.seen/\(s'.seen <+: S->tE [] f c (UC S ts) (rn s)=O (O (rn s')))
 li:∀ c a b s s',vL [] f c a b s=O (O s')->s.seen <+: s'.seen/\(s'.seen <+: S->vL [] f c (Ls S a) (Ls S b) (rn s)=O (O (rn s')))
mutual
def Sw (nv:Nat):Ex->Prop
 | .mk kind name n k args=>(kind=97/\(name=[91,93]\/(mP name=1/\F2 name)))\/(kind=110/\-999999999<=n/\n<=999999999)\/(kind=118/\k<nv) \/
  (kind=99/\((args.length=2/\name∈[[43],[45],[42],[47,47],[46]])\/(mP name=1/\F2 name))/\args≠[]/\Sy nv args)
 termination_by structural x=>x
def Sy (nv:Nat):List Ex->Prop
 | []=>True
 | x::r=>Sw nv x/\Sy nv r
 termination_by structural x=>x
end
structure TkW(T:List Tok):Prop where
 word:∀ u∈T,u.kind=1->mP u.text=1/\F2 u.text
 num:∀ u∈T,u.kind=3->u.text.all digit=G/\u.text.length<=9
structure COk(T:List Tok)(f:Nat):Prop where
 CF:∀ k v d x k' v',oU T f k v d=O (.ok x k' v')->Sw v'.length x/\v.length<=v'.length
 args:∀ k v d a acc x k' v',Sy v.length acc->oV T f k v d a acc=O (.ok x k' v')->Sy v'.length x/\v.length<=v'.length/\x≠[]
 list:∀ k v d x k' v',qD T f k v d=O (.ok x k' v')->Sw v'.length x/\v.length<=v'.length
 elems:∀ k v d acc x k' v',Sy v.length acc->rj T f k v d acc=O (.ok x k' v')->Sy v'.length x/\v.length<=v'.length
 oper:∀ l k v d x k' v',jf T f l k v d=O (.ok x k' v')->Sw v'.length x/\v.length<=v'.length
 more:∀ l y k v d x k' v',Sw v.length y->pE T f l y k v d=O (.ok x k' v')->Sw v'.length x/\v.length<=v'.length
def IE(w:Bs):Bool:=w.all fun x=>x != 32 && x != 10
theorem MR{w:Bs}(h:IE w=G):Lt w:=by
 unfold IE at h;rw[a4F] at h;exact⟨fun x hx e=>zg,fun x hx e=>zg⟩
def aVy{i:In}(a:IE i.word=G)(c:(pM i ((kT i.word).getD []) i.s).all IE=G)(b:qi n (i.word::pM i ((kT i.word).getD []) i.s)=O i):uV n i:=
 ⟨MR a,(by grind [MR,a4F]),b⟩
def wdI(z:Int):Lt (jc z):=by
 unfold jc;split
 .have h:=F3 z.natAbs;refine⟨fun x hx=>?_,fun x hx=>?_⟩
  .rcases a3T.1 hx with rfl | hx
   .grind
   .exact h.1 x hx
  .rcases a3T.1 hx with rfl | hx
   .grind
   .exact h.2 x hx
 grind [F3]
def aVA{s:Nat}{z:Int}(a:s<n)(b:n<=100000)(c:-9223372036854775808<=z/\z<=9223372036854775807):uV n ⟨[112,117,116],[],O (.int z),[s]⟩:=by
 refine⟨(by grind [MR,IE]),fun w h=>?_,?_⟩
 .have h:w∈[di s,jc z]:=h;rcases a3T.1 h with rfl | h
  .exact F3 s
  .rcases a3T.1 h with rfl | h
   .exact wdI z
   grind
 .show qi n ([112,117,116]::[di s,jc z])=_;have d:=QV a b;have f:BU (jc z)=O (.int z):=by grind [BU,aff]
  have e:kU n [115,99] [di s,jc z] ⟨[112,117,116],[],V,[]⟩=O (⟨[112,117,116],[],O (.int z),[s]⟩,[]):=by grind [kU]
  show(match kU n [115,99] [di s,jc z] ⟨[112,117,116],[],V,[]⟩with
   | some (i,[])=>if (([112,117,116]:Bs)=[109,97,107,101]\/([112,117,116]:Bs)=[115,112,108,105,116])/\i.s.length<2\/([112,117,116]:Bs)=mD/\jx i.name≠i.s.length then V else O i
   | _=>V)=_
  rw[e];rfl
structure Big(x:Int):Prop where
 lo:-1000000000000000000<=x
 hi:x<=1000000000000000000
def aVB{x:Int}(a:-9000000000000000000<=x)(b:x<=9000000000000000000):wrap64 x=x:=by
 grind [wrap64]
def zK{p:Prop}(h:p:=by intros;show _=_;kernel_rfl):p:=h
def MT{α:Type}{P:List α->Prop}(m:P [])(n:∀ a,P [a])(o:∀ a b,P [a,b])(p:∀ a b c,P [a,b,c])(q:∀ a b c d,P [a,b,c,d])(r:∀ a b c d e,P [a,b,c,d,e])(s:∀ a b c d e f,P [a,b,c,d,e,f])(t:∀ a b c d e f g,P [a,b,c,d,e,f,g])(u:∀ a b c d e f g h,P [a,b,c,d,e,f,g,h])(w:∀ a b c d e f g h i,P [a,b,c,d,e,f,g,h,i])(x:∀ a b c d e f g h i j,P [a,b,c,d,e,f,g,h,i,j])(y:∀ a b c d e f g h i j k,P [a,b,c,d,e,f,g,h,i,j,k])(B:∀ a b c d e f g h i j k l,P [a,b,c,d,e,f,g,h,i,j,k,l]):∀ A,A.length<=12->P A:=by
 intro A h;rcases A with _ | ⟨a,_ | ⟨b,_ | ⟨c,_ | ⟨d,_ | ⟨e,_ | ⟨f,_ | ⟨g,_ | ⟨h,_ | ⟨i,_ | ⟨j,_ | ⟨k,_ | ⟨l,_ | ⟨z,A⟩⟩⟩⟩⟩⟩⟩⟩⟩⟩⟩⟩⟩;all_goals first
  | (simp only[a3N] at h;omega)
  | solve_by_elim
def MU{α:Type}(A:List α)(h:A.length<=6):A=[]\/(∃ a,A=[a])\/(∃ a b,A=[a,b])\/(∃ a b c,A=[a,b,c])\/(∃ a b c d,A=[a,b,c,d])\/(∃ a b c d e,A=[a,b,c,d,e])\/(∃ a b c d e f,A=[a,b,c,d,e,f]):=by
 rcases A with _ | ⟨a,_ | ⟨b,_ | ⟨c,_ | ⟨d,_ | ⟨e,_ | ⟨f,_ | ⟨z,A⟩⟩⟩⟩⟩⟩⟩;all_goals first
  | (simp only[a3N] at h;omega)
  | simp
def vE(k:Nat):Ex:=.mk 118 [] 0 k []
def Sz:Ex:=.mk 97 [91,93] 0 0 []
def SA(a b:Ex):Ex:=.mk 99 [46] 0 0 [a,b]
def trB:Bd:=.mk 103 [116,114,117,101] [] []
def gB(n:Bs)(l:List Ex):Bd:=.mk 103 n l []
def Fh:List Cl:=[⟨[97,112,112],[Sz,vE 0,vE 0],trB,[[76]]⟩,
 ⟨[97,112,112],[SA (vE 0) (vE 1),vE 2,SA (vE 0) (vE 3)],gB [97,112,112] [vE 1,vE 2,vE 3],[[72],[84],[76],[82]]⟩,
 ⟨[114,101,118],[Sz,Sz],trB,[]⟩,
 ⟨[114,101,118],[SA (vE 0) (vE 1),vE 2],.mk 44 [] [] [gB [114,101,118] [vE 1,vE 3],gB [97,112,112] [vE 3,SA (vE 0) Sz,vE 2]],[[72],[84],[82],[83]]⟩,
 ⟨[108,101,110],[Sz,nEx 0],trB,[]⟩,
 ⟨[108,101,110],[SA (vE 0) (vE 1),vE 2],.mk 44 [] [] [gB [108,101,110] [vE 1,vE 3],gB [105,115] [vE 2,.mk 99 [43] 0 0 [vE 3,nEx 1]]],[[95],[84],[78],[77]]⟩]
def lE:List Int->Ex
 | []=>Sz
 | a::r=>SA (nEx a) (lE r)
def W1:List Int->Bs->Bs
 | [],o=>o
 | [a],o=>o++jc a
 | a::r,o=>W1 r ((o++jc a)++[44])
def lT(o:Bs)(l:List Int):Bs:=if l=[] then o++[91,93] else W1 l (o++[91])++[93]
def auQ:Bs:=[97,112,112,40,91,93,44,76,44,76,41,46,32,97,112,112,40,91,72,124,84,93,44,76,44,91,72,124,82,93,41,32,58,45,32,97,112,112,40,84,44,76,44,82,41,46,32,114,101,118,40,91,93,44,91,93,41,46,32,114,101,118,40,91,72,124,84,93,44,82,41,32,58,45,32,114,101,118,40,84,44,83,41,44,32,97,112,112,40,83,44,91,72,93,44,82,41,46,32,108,101,110,40,91,93,44,48,41,46,32,108,101,110,40,91,95,124,84,93,44,78,41,32,58,45,32,108,101,110,40,84,44,77,41,44,32,78,32,105,115,32,77,43,49,46,32]
def aaS:program auQ = .ok Fh 106 []:=zk
def lQ:List Bs->List Pc
 | []=>[]
 | [a]=>[.nm a]
 | a::r=>.nm a::.sg [44]::lQ r
def lP(l:List Bs)(r:List Pc):List Pc:=.sg [91]::(lQ l++(.sg [93]::r))
def aaT(A B:List Bs):List Pc:=.wd [97,112,112]::.sg [40]::lP A (.sg [44]::lP B [.sg [44],.wd [90],.sg [41],.sg [44],.bl,.wd [108,101,110],.sg [40],.wd [90],.sg [44],.wd [78],.sg [41]])
def aaU(A:List Bs):List Pc:=.wd [114,101,118]::.sg [40]::lP A [.sg [44],.wd [82],.sg [41]]
def aaV(A:List Bs):List Pc:=.wd [97,112,112]::.sg [40]::.wd [88]::.sg [44]::.wd [89]::.sg [44]::lP A [.sg [41]]
def aaW(A B:List Int):Bd:=.mk 44 [] [] [gB [97,112,112] [lE A,lE B,vE 0],gB [108,101,110] [vE 0,vE 1]]
def aaX(A:List Int):Bd:=gB [114,101,118] [lE A,vE 0]
def aaY(A:List Int):Bd:=gB [97,112,112] [vE 0,vE 1,lE A]
def Gw:Nat->Int
 | 0=>0
 | n+1=>wrap64 (Gw n+1)
def W2(C:List Int):List (Bs×Nat):=[(((lT [90,32,61,32] C++[44,32])++[78,32,61,32])++jc (Gw C.length),0),([],6)]
def W4(C:List Int):List (Bs×Nat):=[(lT [82,32,61,32] C,0)]
def ajE(C:List Int)(i:Nat):Bs:=lT ((lT [88,32,61,32] (C.take i)++[44,32])++[89,32,61,32]) (C.drop i)
def aaZ(C:List Int):List (Bs×Nat):=(List.range' 0 (C.length+1)).map (fun i=>(ajE C i,0))++[([],6)]
def aVC:∀ (A B:List Int),A.length<=6->B.length<=6->Lv 2000 20000 2 (.ok (Lj Fh 2) (Wk.new (aaW A B) 2) [[90],[78]])=O (W2 (A++B)):=by
 intro A B h g;rcases MU A h with rfl | ⟨_,rfl⟩| ⟨_,_,rfl⟩| ⟨_,_,_,rfl⟩| ⟨_,_,_,_,rfl⟩| ⟨_,_,_,_,_,rfl⟩| ⟨_,_,_,_,_,_,rfl⟩<;>rcases MU B g with rfl | ⟨_,rfl⟩| ⟨_,_,rfl⟩| ⟨_,_,_,rfl⟩| ⟨_,_,_,_,rfl⟩| ⟨_,_,_,_,_,rfl⟩| ⟨_,_,_,_,_,_,rfl⟩<;>exact zK
def aVD:∀ (A:List Int),A.length<=12->Lv 2000 20000 1 (.ok (Lj Fh 1) (Wk.new (aaX A) 1) [[82]])=O (W4 A.reverse):=MT zK zK zK zK zK zK zK zK zK zK zK zK zK
theorem aVE:∀ (A:List Int),A.length<=12->Lv 2000 20000 (A.length+2) (.ok (Lj Fh 2) (Wk.new (aaY A) 2) [[88],[89]])=O (aaZ A):=MT zK zK zK zK zK zK zK zK zK zK zK zK zK
def PH(s:Nat)(c:Tm):In:=⟨[112,117,116],[],O c,[s]⟩
def SD:Nat->List Int->List In
 | s,[]=>[PH s (.atom [91,93])]
 | s,a::r=>PH s (.int a)::SD (s+1) r
def ajF(d a b:Nat):In:=⟨[109,97,107,101],[46],V,[d,a,b]⟩
def SE(s:Nat):Nat->Nat->List In
 | _,0=>[]
 | d,j+1=>ajF d (s+j) (d-1)::SE s (d+1) j
def PI(s:Nat)(A:List Int):List In:=SD s A++SE s (s+A.length+1) A.length
def Ki(n:Bs)(l:List Nat):In:=⟨rA,n,V,l⟩
def yQ(w:Bs)(s:Nat):In:=⟨w,[],V,[s]⟩
def SF:In:=⟨[100,111,110,101],[],V,[]⟩
def ajG(A B:List Int):List In:=yQ oe 0::yQ oe 1::yQ pL 2::(PI 3 A++(PI (4+2*A.length) B++[Ki [97,112,112] [3+2*A.length,4+2*A.length+2*B.length,0],Ki [108,101,110] [0,1],SF]))
def PJ(A B:List Int):Co:=⟨5+2*A.length+2*B.length,ajG A B⟩
def PK(A:List Int):Co:=⟨3+2*A.length,yQ oe 0::yQ pL 1::(PI 2 A++[Ki [114,101,118] [2+2*A.length,0],SF])⟩
def PL(A:List Int):Co:=⟨4+2*A.length,yQ oe 0::yQ oe 1::yQ pL 2::(PI 3 A++[Ki [97,112,112] [0,1,3+2*A.length],SF])⟩
def DQ:List Pd:=(vN Fh []).getD []
theorem aVF:vN Fh []=O DQ:=zk
theorem aVG:∀ (A B:List Int),A.length<=6->B.length<=6->xt [] (aaW A B) 2 G=O (PJ A B):=by
 intro A B h g;rcases MU A h with rfl | ⟨_,rfl⟩| ⟨_,_,rfl⟩| ⟨_,_,_,rfl⟩| ⟨_,_,_,_,rfl⟩| ⟨_,_,_,_,_,rfl⟩| ⟨_,_,_,_,_,_,rfl⟩<;>rcases MU B g with rfl | ⟨_,rfl⟩| ⟨_,_,rfl⟩| ⟨_,_,_,rfl⟩| ⟨_,_,_,_,rfl⟩| ⟨_,_,_,_,_,rfl⟩| ⟨_,_,_,_,_,_,rfl⟩<;>exact zK
def aVH:∀ (A:List Int),A.length<=12->xt [] (aaX A) 1 G=O (PK A):=MT zK zK zK zK zK zK zK zK zK zK zK zK zK
def aVI:∀ (A:List Int),A.length<=12->xt [] (aaY A) 2 G=O (PL A):=MT zK zK zK zK zK zK zK zK zK zK zK zK zK
def aVJ:∀ (A B:List Int),A.length<=6->B.length<=6->Lv 2000 20000 2 (.ok (Om DQ 2) (BX (PJ A B)) [[90],[78]])=O (W2 (A++B)):=by
 intro A B h g;rcases MU A h with rfl | ⟨_,rfl⟩| ⟨_,_,rfl⟩| ⟨_,_,_,rfl⟩| ⟨_,_,_,_,rfl⟩| ⟨_,_,_,_,_,rfl⟩| ⟨_,_,_,_,_,_,rfl⟩<;>rcases MU B g with rfl | ⟨_,rfl⟩| ⟨_,_,rfl⟩| ⟨_,_,_,rfl⟩| ⟨_,_,_,_,rfl⟩| ⟨_,_,_,_,_,rfl⟩| ⟨_,_,_,_,_,_,rfl⟩<;>exact zK
def aVK:∀ (A:List Int),A.length<=12->Lv 2000 20000 1 (.ok (Om DQ 1) (BX (PK A)) [[82]])=O (W4 A.reverse):=MT zK zK zK zK zK zK zK zK zK zK zK zK zK
theorem aVL:∀ (A:List Int),A.length<=12->Lv 2000 20000 (A.length+2) (.ok (Om DQ 2) (BX (PL A)) [[88],[89]])=O (aaZ A):=MT zK zK zK zK zK zK zK zK zK zK zK zK zK
def cEq:Option Tm->Option Tm->Bool
 | none,V=>G
 | some (.int a),O (.int b)=>a == b
 | some (.atom a),O (.atom b)=>a == b
 | _,_=>ae
def IF(n:Nat)(i:In):Bool:=IE i.word && (pM i ((kT i.word).getD []) i.s).all IE && (match qi n (i.word::pM i ((kT i.word).getD []) i.s) with
 | some j=>j.word == i.word && j.name == i.name && cEq j.const i.const && j.s == i.s
 | none=>ae)
def aVM{a b:Option Tm}(h:cEq a b=G):a=b:=by
 unfold cEq at h;grind
theorem ajI{i:In}(h:IF n i=G):uV n i:=by
 unfold IF at h;simp only[a39] at h;obtain⟨⟨g,k⟩,f⟩:=h;refine aVy g k ?_;split at f
 .rename_i j e;rw[e];simp only[a39,beq_iff_eq] at f;obtain⟨⟨⟨a,b⟩,c⟩,d⟩:=f;have c:=aVM c;cases j;cases i;grind
 grind
def aVN:∀ p∈DQ,PdR p:=by
 have h:(DQ.all fun p=>IE p.name && (nI p.name == O p.name) && decide (p.arity<64) && p.clauses.all fun c=>decide (c.slots<65) && c.ins.all (IF c.slots))=true:=by decide +kernel
 intro p a;have h:=a4F.1 h p a;simp only[a39,beq_iff_eq,decide_eq_true_eq,a4F] at h;exact⟨MR h.1.1.1,h.1.1.2,h.1.2,(by grind [ajI])⟩
def aVO:DQ.Pairwise (fun a b=>¬(a.name=b.name/\a.arity=b.arity)):=by decide +kernel
theorem aVP{a:Nat}(f:d<n)(g:a<n)(j:b<n)(c:n<=100000):uV n (ajF d a b):=by
 have k:=QV f c;have m:=afg c (l:=[a,b]) zg;refine⟨MR J,fun w h=>?_,?_⟩
 .have h:w∈[di d,[46],di a,di b]:=h;simp only[a3T,a30,or_false] at h;rcases h with rfl | rfl | rfl | rfl
  .exact F3 _
  .exact MR J
  .exact F3 _
  grind [F3]
 .show qi n ([109,97,107,101]::[di d,[46],di a,di b])=_;have e:kU n [115,110,42] [di d,[46],di a,di b] ⟨[109,97,107,101],[],V,[]⟩=O (⟨[109,97,107,101],[46],V,[d,a,b]⟩,[]):=by
   have:nI [46]=O [46]:=rfl;grind [kU]
  show(match kU n [115,110,42] [di d,[46],di a,di b] ⟨[109,97,107,101],[],V,[]⟩with
   | some (i,[])=>if (([109,97,107,101]:Bs)=[109,97,107,101]\/([109,97,107,101]:Bs)=[115,112,108,105,116])/\i.s.length<2\/([109,97,107,101]:Bs)=mD/\jx i.name≠i.s.length then V else O i
   | _=>V)=_
  rw[e];rfl
theorem aVQ{w:Bs}{l:List Nat}(hw:IE w=G)(hv:nI w=O w)(b:∀ k∈l,k<n)(c:n<=100000):uV n (Ki w l):=by
 have d:=afg c b;have a:pM (Ki w l) ((kT (Ki w l).word).getD []) (Ki w l).s=w::(l.map di++[]):=rfl;rw[List.append_nil] at a;refine⟨MR J,fun x h=>?_,?_⟩
 .rw[a] at h;rcases a3T.1 h with rfl | h
  .grind [MR]
  .obtain⟨k,-,rfl⟩:=List.mem_map.1 h;exact F3 _
 .rw[a];have e:kU n [110,42] (w::l.map di) ⟨rA,[],V,[]⟩=O (⟨rA,w,V,l⟩,[]):=by
   show(match nI w with
    | some t=>(match uT n (l.map di) with
     | some l=>O (({ word:=rA,name:=t,const:=V,s:=[]++l }:In),([]:List Bs))
     | none=>V)
    | none=>V)=_
   grind
  show(match kU n [110,42] (w::l.map di) ⟨rA,[],V,[]⟩with
   | some (i,[])=>if ((rA:Bs)=[109,97,107,101]\/(rA:Bs)=[115,112,108,105,116])/\i.s.length<2\/(rA:Bs)=mD/\jx i.name≠i.s.length then V else O i
   | _=>V)=_
  rw[e];rfl
def aa0:∀ n,n<65->uV n SF/\(1<=n->uV n (yQ oe 0)/\uV n (PH (n-1) (.atom [91,93])))/\(2<=n->uV n (yQ oe 1)/\uV n (yQ pL 1))/\(3<=n->uV n (yQ pL 2)):=by
 intro n a;have h:((a4g 65).all fun n=>IF n SF && (decide (n<1) || (IF n (yQ oe 0) && IF n (PH (n-1) (.atom [91,93])))) && (decide (n<2) || (IF n (yQ oe 1) && IF n (yQ pL 1))) && (decide (n<3) || IF n (yQ pL 2)))=true:=by decide +kernel
 have h:=a4F.1 h n (a50.2 a);simp only[a39,Bool.or_eq_true,decide_eq_true_eq] at h;grind [ajI]
theorem aVR{s:Nat}(h:s<n)(a:n<65):uV n (PH s (.atom [91,93])):=by
 have b:((a4g 65).all fun n=>(a4g n).all fun s=>IF n (PH s (.atom [91,93])))=true:=by decide +kernel
 exact ajI (a4F.1 (a4F.1 b n (a50.2 a)) s (a50.2 h))
def tkn{α:Type}(l:List α):Nat:=if l.length=0 then 2 else 2*l.length+1
def aVS:∀ (A B:List Bs),A.length<=6->B.length<=6->qg (ID (aaT A B) 0) = .ok (aaW (A.map num) (B.map num)) (14+tkn A+tkn B) [[90],[78]]:=by
 intro A B h g;rcases MU A h with rfl | ⟨_,rfl⟩| ⟨_,_,rfl⟩| ⟨_,_,_,rfl⟩| ⟨_,_,_,_,rfl⟩| ⟨_,_,_,_,_,rfl⟩| ⟨_,_,_,_,_,_,rfl⟩<;>rcases MU B g with rfl | ⟨_,rfl⟩| ⟨_,_,rfl⟩| ⟨_,_,_,rfl⟩| ⟨_,_,_,_,rfl⟩| ⟨_,_,_,_,_,rfl⟩| ⟨_,_,_,_,_,_,rfl⟩<;>exact zK
def aVT:∀ (A:List Bs),A.length<=12->qg (ID (aaU A) 0) = .ok (aaX (A.map num)) (6+tkn A) [[82]]:=MT zK zK zK zK zK zK zK zK zK zK zK zK zK
def aVU:∀ (A:List Bs),A.length<=12->qg (ID (aaV A) 0) = .ok (aaY (A.map num)) (8+tkn A) [[88],[89]]:=MT zK zK zK zK zK zK zK zK zK zK zK zK zK
end P
