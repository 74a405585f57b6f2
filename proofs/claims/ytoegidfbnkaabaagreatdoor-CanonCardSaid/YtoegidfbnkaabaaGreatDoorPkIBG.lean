/- A part of one proof (KR2, KR3, ShX7, KL1, KA2, KA3, KL4, PureC3, PureH, PureC4). -/
import Derived.Test.YtoegidfbnkaabaaGreatDoorPkIBF
import Derived.Lib.LaidTab
import Derived.LaidLaws
import Derived.Shelf.Vars
import Derived.ProofKit
import Derived.LaidMore
import Derived.OpenShut
import Derived.LaidHandle
import Derived.LaidSub
import Derived.MakeChecks
import Derived.Stop.Joined
import Derived.Test.YtoegidfbnkaabaaGreatDoorRows
import Derived.JoinedOf
import Derived.ChangeMaps5
import Derived.Lay
set_option linter.all false
set_option maxRecDepth 100000
set_option maxHeartbeats 8000000
open Option renaming some → O, none → V
open Go renaming Value → Y, World → Z
open Bool renaming true → A, false → G
open Go.Obj renaming cells → ae
open Go.Ending renaming returned → ah
open Go.Value renaming nilIface → ai, iface → aj, tuple → ak, pointer → aq
open Option.some renaming injEq → a07, inj → a1b
open Go.Calls renaming mono → a1a
open List renaming getElem?_eq_getElem → a1e, length_append → a1f, mem_cons → a1g, drop_eq_getElem_cons → a1h, length_cons → a1i, not_mem_nil → a1l, range → a1t, length_nil → a1v, getD_eq_getElem?_getD → a1y, prefix_refl → a2h
open Prod.mk renaming injEq → a1z
open Nat renaming lt_of_lt_of_le → a1G, zero_add → a2e
open Go.World renaming cell? → a1M
open List.cons renaming injEq → a3E
open List.IsPrefix renaming trans → a35
open Go.Proofs.Tryz renaming prog → bbA
open Go.Proofs.Tryz
namespace Go.Proofs.YtoegidfbnkaabaaGreatDoor
open P
open Go.RowKit Sx
variable{D:Nat->Prop}{E:En}{W w' w1:Z}{c d e f g k n nv qb xb:Nat}{v:Y}{vars:List Bs}
def P.aTG{s:Bs}{x:Bd}{vs:List Bs}(h:nY vH s = .ok x k vs):vs.length<=12/\je x<=5800:=by
 obtain⟨d,f⟩:=P.Y5 h;refine⟨d.1,?_⟩;unfold nY at h;split at h
 .grind
 .split at h
  .grind
  .rename_i T b;have a:=NY b;have g:AP T:=⟨Jc _ _ _ _ (by rw[IU,b]),fun u hu hk=>by
    obtain⟨c,r,e,-⟩:=(a.tok u hu).2.2.1 hk;grind,fun u hu hk=>((a.tok u hu).2.1 hk).2.1⟩
   have i:=a.len;grind [P.ant,ant]
def P.atn{s:Bs}{cs:List Cl}{vs:List Bs}(h:P.program s = .ok cs k vs):cs.length<=40/\∀ c∈cs,P.qU c:=by
 unfold P.program at h;split at h
 .grind
 .split at h
  .grind
  .rename_i T b;have a:=NY b;have d:AP T:=⟨Jc _ _ _ _ (by rw[IU,b]),fun u hu hk=>by
    obtain⟨c,r,e,-⟩:=(a.tok u hu).2.2.1 hk;grind,fun u hu hk=>((a.tok u hu).2.1 hk).2.1⟩
   have f:=a.len;exact aIt d (fun u hu hk=>(a.tok u hu).2.2.2.1 hk) zo h
def P.aTH{cs:List Cl}{x:Bd}{t:Bs}(b:∀ c∈cs,P.qU c)(d:cs.length<=40)(hx:fe nv 2900 x)(f:je x<=5800)(kP:nv<=12)(h:C6 cs x nv=O t):TN t:=by
 unfold C6 at h;split at h
 .grind
 .rename_i l e;split at h
  .grind
  .rename_i a g;cases h;exact aIL (anR b d e).1 (by grind [P.XU,P.fi.nil,fB,XU,fi.nil]) zo
def ato(w:Z)(v:Y)(c:Nat)(a:Int):Prop:=(∃ b,v = aj 73 (ptr b)/\w.heap[b]?=aN #[zi (c:Int),zi a] 77)\/(v = aj 27 (zi (c:Int))/\a=-1)
def Z7(names:List Bs)(w w':Z)(qb:Nat)(E:En)(st:E.St):Prop:=UJ names w w' qb E st/\Lg names/\∀ k l,E.told k = .ok l->l.length=names.length
def aiz(cs:List Cl)(q:Bs)(machine:Bool)(w:Z)(e:Ending)(w':Z):Prop:=Ext w w'/\match Qp cs q machine with
 | .err c a=>∃ v,e = ah (ak #[aq V,v])/\ato w' v c a
 | .ok E st names=>∃ qb,e = ah (ak #[ptr qb,ai])/\Z7 names w w' qb E st
theorem P.atp(m:Vm):∀ (l:List Nat) (r:List Tm),m.iX l = .ok r->r.length=l.length
 | [],r,h=>by
  unfold Vm.iX at h;cases h;rfl
 | k::l,r,h=>by
  unfold Vm.iX at h;split at h
  .split at h
   .rename_i a b;cases h;rw[a1i,a1i,P.atp m l a b]
   grind
  grind
def aTI(q:Bs)(machine:Bool){w:Z}{cs:List Cl}(Q:q.length<=100000)(S:Ef w)(hC:mZ w w.heap.size)(hV:Cd w)(T:kZ w)(hL:Gp w)(hx:JM w xb cs)(o:∀ c∈cs,P.qU c)(U:cs.length<=40) :
  Calls bbA 26 #[pp xb,aT q,.bool machine] w (aiz cs q machine w):=by
 cases machine with
 | false=>
  refine(aNo q Q S hC hx (fun c F=>(o c F).cl) (fun c F=>by have:=(o c F).name;omega) zo zo zo).mono ?_;rintro e w' ⟨g,h⟩;refine⟨g,?_⟩;unfold Qp;cases hr:nY vH q with
  | err c a=>
   rw[hr] at h;obtain⟨b,rfl,r⟩:=h;exact⟨_,J,.inl yH⟩
  | ok x k vs=>
   rw[hr] at h;obtain⟨qb,rfl,r⟩:=h;refine⟨qb,J,r,(P.Y5 hr).1,fun k l h=>?_⟩;have h:Except.ok ((a1t vs.length).map Tm.var)=Except.ok l:=h;grind
 | true=>
  suffices H:∀ R:Ending->Z->Prop,(∀ e w',aiz cs q A w e w'->R e w')->Calls bbA 26 #[pp xb,aT q,.bool A] w R from H _ zg;intro R d;unfold aiz Qp at d;refine aoX ?_;refine bG ?_;refine(apE q w Q S hC).mono ?_;rintro e w1 ⟨g,i⟩;have s1:=g.size;cases hr:nY vH q with
  | err c a=>
   rw[hr] at i d;obtain⟨b,rfl,r⟩:=i;refine bG ?_;exact d _ _ ⟨g,_,J,.inl yH⟩
  | ok x k vs=>
   rw[hr] at i d;simp only[if_true] at d;obtain⟨b,rfl,-,W,qxb,X,vc,hq,nW,Lt⟩:=i;obtain⟨v,fZ,g1,g2,g3⟩:=hx.jn (eR.eo g);obtain⟨sa,sc,rfl⟩:=g2.sl;have l1:=bh g1;obtain⟨De,B3⟩:=P.Y5 hr;obtain⟨-,RE⟩:=P.aTG hr;refine cO @g1 ?_;refine a1a (aRR g2 g3 o U hq zg ⟨[],.inl ⟨J,J⟩,by unfold eM;rfl⟩ (dP.mono zg yH _ _ nW) B3 RE W (T.ext g)) ?_;rintro e w2 ⟨I,f⟩;have s2:=I.size;have s:=g.trans I;cases u:C6 cs x vs.length with
   | none=>
    rw[u] at f d;have f:e = ah (ak #[aT [],.bool G]):=f;subst f;refine bG ?_;exact d _ _ ⟨s,_,J,.inr ⟨J,J⟩⟩
   | some t=>
    rw[u] at f d;have f:e = ah (ak #[aT t,.bool A]):=f;subst f;have j:=P.aTH o U B3 RE W u;refine bG ?_;refine a1a (aTE t (hV.ext s) (T.ext s) (hL.ext s) fun ps c n K=>(anA K j).2.1.sl) ?_;rintro e w3 ⟨eK,B⟩;have s3:=eK.size;unfold P.runT at d;dsimp only at d;cases C:tF t with
    | error ca=>
     obtain⟨c,a⟩:=ca;rw[C] at B d;dsimp only at d;obtain⟨b',rfl,r⟩:=B;refine bG ?_;refine⟨fun _ w'=>w'=w3,?_,?_⟩
     .exact eV
     .rintro z E rfl dd;exact d _ _ ⟨yF,_,J,.inl yH⟩
    | ok y=>
     obtain⟨ps,c,n⟩:=y;rw[C] at B d;dsimp only at d;obtain⟨qb,vb,kb,ab,pb,rfl,L,a00,ed,M,Lv,hEb,a02,hm⟩:=B;have AG:=aJk u C;subst AG;obtain⟨K,vO,TH⟩:=anA C j;have BY:=(I.trans eK).ext _ _ hq;have m:w3.heap[qb]?=aN #[aj 111 (pp vb),pq vb 1,.func (.func 36) #[pp vb] #[],bX,ai] 121:=L;have lq:=bh m;refine bG ?_;refine⟨fun _ w'=>w'=bS w3 qb (ae #[aj 111 (pp vb),pq vb 1,.func (.func 36) #[pp vb] #[],.slice X vs.length vc,ai] 121),?_,?_⟩
     .exact mn BY m
     .rintro z E jB dd;have N:Ext M E:=yF;have g4:E.heap[qb]?=aN (YV (Rs ps vs.length vb kb ab pb) (.slice X vs.length vc) V) 121:=yH;have Hw:Ext w1 E:=yF;clear jB;refine d _ _ ⟨yF,qb,J,⟨Rs ps vs.length vb kb ab pb,(by grind [aq3,vmD,anb.cls]),ed,by have:=Lv.size;omega,P.aTC vO TH,fun _=>0,fun D hD=>⟨⟨_,g4,Lt.mono zg (by grind [bB.ext])⟩,fun _=>?_⟩⟩,De,fun k l h=>?_⟩
      .exact(aq3 _ _ _ _ _ _ (fun p i=>(K p i).cls) zo).ext zg N
      .have h:k.iX (a1t vs.length) = .ok l:=h;grind [P.atp,List.length_range]
def aTL{w:Z}{a:Int}(h:ato w v c a)(d:BN w):Calls bbA 23 #[v] w fun e w'=>Ext w w'/\e = ah (ak #[zi (c:Int),zi a]):=by
 rcases h with⟨b,rfl,f⟩| ⟨rfl,rfl⟩
 .exact adz b c a w f d
 .exact ap8 c w d
def Z8(cs:List Cl)(q:Bs)(machine:Bool)(w:Z)(e:Ending)(w':Z):Prop:=Ext w w'/\match Qp cs q machine with
 | .err c a=>e = ah (ak #[aq V,.int .i64 (c:Int),.int .i64 a])
 | .ok E st names=>∃ qb,e = ah (ak #[ptr qb,.int .i64 0,.int .i64 (-1)])/\Z7 names w w' qb E st
def aTM(q:Bs)(machine:Bool){w:Z}{cs:List Cl}(h:q.length<=100000)(i:Ef w)(hC:mZ w w.heap.size)(j:Cd w)(k:kZ w)(l:Gp w)(m:BN w)(hx:JM w xb cs)(n:∀ c∈cs,P.qU c)(o:cs.length<=40) :
  Calls bbA 15 #[pp xb,aT q,.bool machine] w (Z8 cs q machine w):=by
 suffices H:∀ R:Ending->Z->Prop,(∀ e w',Z8 cs q machine w e w'->R e w')->Calls bbA 15 #[pp xb,aT q,.bool machine] w R from H _ zg;intro R b;refine aLa ?_;refine(aTI q machine h i hC j k l hx n o).mono ?_;rintro e w1 ⟨p,d⟩;unfold Z8 at b;cases hr:Qp cs q machine with
 | err c a=>
  rw[hr] at d b;obtain⟨v,rfl,f⟩:=d;refine bG ?_;refine(aTL f (m.ext p)).mono ?_;rintro e w2 ⟨g,rfl⟩;refine bG ?_;exact b _ _ yF
 | ok E st names=>
  rw[hr] at d b;obtain⟨qb,rfl,f,r⟩:=d;refine bG ?_;refine(XB w1).mono ?_;rintro e w2 ⟨g,rfl⟩;refine bG ?_;exact b _ _ ⟨yF,qb,J,f.ext g,r⟩
open Go.Proofs.YtoegidfbnkaabaaGreatDoor.Sx
section
variable{p0 p1 p2 p3 p4 p5 p6 p7:Y}{w:Z}{R:Ending->Z->Prop}
def aTN:=cz w R [p0,p1,p2] (gc [] [] [2,21,26,32]) func20
def aTO:=cz w R [] (gc [] [] [0,26,27]) func21
def aTP:=cz w R [p0] (gc [] [(2000,[16]),(3001,[])] [2,3,9,14,15,16,17,25,30,31,34,54,55]) func8
end
structure Gr(w:Z):Prop where
 two:Ef w
 cmp:mZ w w.heap.size
 num:Cd w
 pow:kZ w
 len:Gp w
 err:BN w
 gp:4<w.heap.size
 ge:0<w.heap.size
theorem Gr.ext{w w':Z}(h:Gr w)(a:Ext w w'):Gr w':=
 ⟨h.two.ext a,⟨a1G h.cmp.lt a.size,(h.cmp.ext fun b o _=>a.ext b o).cell⟩,h.num.ext a,h.pow.ext a,h.len.ext a,h.err.ext a,a1G h.gp a.size,a1G h.ge a.size⟩
def aTQ{X:EN E}(L:JK X){q b:Qs E}{a:Bs×Nat}(e:q.1=V->X.Good c q.2/\ng (E.sr q.2).tr)(g:c<=700)(h:Jh E vars d f q=O (a,b)):b.1=V->X.Good (c+1) b.2:=by
 unfold Jh at h;split at h
 .grind
 .rename_i he;obtain⟨e,ht⟩:=e he;split at h
  .grind
  .grind
  .grind
  .rename_i k i;split at h
   .grind
   .split at h
    .grind
    .grind
    .simp only[a07,a1z] at h;obtain⟨-,rfl⟩:=h;exact fun _=>(L.Fe e g ht i).2 _
def Live(names:List Bs)(w1 w:Z)(qb:Nat)(E:En)(q:Qs E)(c:Nat):Prop:=
 ∃ X:EN E,(JK X/\Y4 X)/\qb≠X.eb/\w1.heap.size<=qb/\Ext w1 w/\(q.1=V->X.Good c q.2)/\Lg names/\(∀ k l,E.told k = .ok l->l.length=names.length)/\∃ ρ,EO X (fun b=>w1.heap.size<=b) ρ qb names w q
def Z7.live{w:Z}{st:E.St}(h:Z7 vars w w' qb E st)(a:Ext w w'):Live vars w w' qb E (V,st) 0:=by
 obtain⟨⟨X,L,b,c,f,ρ,g⟩,d,e⟩:=h;exact⟨X,L,b,c,a,zg,d,e,ρ,yH⟩
def aTR{w:Z}(h:Ext w1 w)(a:Ma D qb w w')(hD:∀ b,D b->w1.heap.size<=b)(e:w1.heap.size<=qb):Ext w1 w':=
 ⟨a.os.trans h.os,a.tape.trans h.tape,a.output.trans h.output,Nat.le_trans h.size a.size,fun b o c _=>a.block b o (h.ext b o c) (by
  have:=bh c;rintro (⟨d,-⟩| d)<;>grind)⟩
def aTS{w:Z}{q j:Qs E}{i:Bs×Nat}(h:Live vars w1 w qb E q c)(a:Gr w1)(k:c<=700)(hr:Jh E vars d f q=O (i,j)) :
  Calls bbA 16 #[ptr qb] w fun e w'=>e = ah (ak #[aT i.1,zi ((i.2:Nat):Int)])/\Live vars w1 w' qb E j (c+1):=by
 obtain⟨X,L,l,m,b,n,g,o,ρ,p⟩:=h;have s1:=b.size;refine(aNu L.1 p yH (by have:=a.gp;omega) (by have:=a.ge;omega) (a.pow.ext b) (a.err.ext b) l (by have:=a.gp;omega) (by have:=a.ge;omega) n k (fun nm r=>⟨(g.2 nm r).1,by have:=(g.2 nm r).2;omega⟩) g.1 o hr).mono ?_;rintro e w' ⟨s,rfl,eQ,t⟩;refine⟨J,X,L,l,m,aTR b s yH m,?_,g,o,eQ,t⟩;refine aTQ L.1 (fun he=>⟨n he,?_⟩) k hr;obtain⟨cs,tv,-,u⟩:=L.1.st (p.live he);exact u.ok
open Go.ChangeShapes Go.WideShapes Go.ChangeAt Go.WideMaps Go.WideElems
def att{P:Program}{name:String}{t:Nat}{ss:List (List UInt8)}(d:P.globalNamed name=O g)(ht:(P.globals[g]?).map (·.type)=O t)
  (hu:P.underlying t=O (.array n e)) (he:P.underlying e=O .string) (j:P.cellsOf e=1) (D:P.cellsOf t=n)
  (h:laidMet P [(name,.agg (ss.map fun s=>.lit (.string s)))] W):∃ cs T z,W.heap[g]?=O (ae cs T z)/\cs.toList=ss.map fun s=>.string ⟨s.toArray⟩:=by
 obtain⟨ps,⟨E,F,cs,f,p,q,k,l,hv,o,-,-⟩,-,-⟩:=h;obtain rfl:=a1b (d.symm.trans k);obtain rfl:=a1b (ht.symm.trans l);have r:∃ T z,W.heap[g]?=O (ae cs T z):=by
  grind [World.var?,a07]
 obtain⟨T,z,u⟩:=r;obtain⟨xs,m,rfl,hx,H,I,w⟩:=DataW.trod_array hu o;simp only[a1z,DataW.agg.injEq] at hx;have hlen:ss.length=xs.length:=by have:=congrArg List.length hx.1;simpa using this
 refine⟨cs,T,z,u,?_⟩;refine List.ext_getElem zg fun i x K=>?_;have y:i<n:=zo;have a:=w i y;have B:(cs.toList.drop (i*P.cellsOf e)).take (P.cellsOf e)=[cs.toList[i]]:=by
  rw[j,Nat.mul_one,a1h x];rfl
 rw[B,a1e zo] at a;obtain⟨s,b,C,-⟩:=DataW.trod_string he a;simp only[a3E,and_true] at b;have c:(ss.map fun s=>(DataW.lit (.string s):DataW Unit))[i]' zg=(xs.map (·.1))[i]' zg:=by
  grind
 simp only[List.getElem_map,C,DataW.lit.injEq,Lit.string.injEq] at c;rw[b,List.getElem_map,c]
def RU{P:Program}{l:List (String×DataW Unit)}{name:String}{d:DataW Unit}(h:laidMetH P l W)(a:(l.filter fun x=>x.1 == name)=[(name,d)])(b:d.handleName?.isNone=A) :
  laidMet P [(name,d)] W:=by
 have c:=h.filter fun x=>x.1 == name;grind [MakeChecks.laidMetH_plain]
def aTT:Tryz.prog.globalNamed "horn/syntax.signs" = O 1:=zk
def atu:Tryz.prog.globalNamed "horn/syntax.levels" = O 2:=zk
def aTU:Tryz.prog.globalNamed "horn/syntax.compare" = O 3:=zk
def aTV:Tryz.prog.globalNamed "errors.errorType" = O 0:=zk
def Tryz.rt:(Tryz.prog.cutTypes.find? (·.1 == "internal/reflectlite.rtype")).map (·.2)=O 219:=zk
def aTW:((a1t (476-100)).filter fun t=>Tryz.prog.rowNamed t [101,114,114,111,114])=[57]:=zk
theorem Tryz.size:Tryz.prog.types.size=476-100:=zk
def aTX{l:List (String×DataW Unit)}(h:laidMetH bbA l W)(c:(l.filter fun x=>x.1 == "errors.errorType")=[("errors.errorType",Rows.laid_errors_errorType)]):BN W:=by
 have a:=h.filter fun x=>x.1 == "errors.errorType";rw[c] at a;have d:laidMet bbA [] W/\handlesMet bbA [("errors.errorType",Rows.laid_errors_errorType)] W:=a;obtain⟨name,u,ty,e,f,j,k,b⟩:=d.2 _ (List.mem_singleton.2 J);have g:name=[101,114,114,111,114]:=(a1b e).symm;subst g;obtain rfl:=a1b (Tryz.rt.symm.trans f);have hm:ty∈(a1t (476-100)).filter fun t=>Tryz.prog.rowNamed t [101,114,114,111,114]:=(by grind [Tryz.size]);rw[aTW] at hm;obtain rfl:=List.mem_singleton.1 hm;have i:typeHandle bbA 57=pq 12 57:=zk;rw[i] at b;unfold BN;simpa using World.var?_cell aTV b 0
def aTY{l:List (String×DataW Unit)}(h:laidMetH bbA l W)(b:(l.filter fun x=>x.1 == "horn/syntax.signs")=[("horn/syntax.signs",Rows.laid_horn_syntax_signs)]):NN W:=by
 have c:=RU h b J;obtain⟨cs,T,z,d,a⟩:=att (ss:=nP) aTT (t:=_) (e:=9) (n:=23) J J underlying9 zk zk c;refine⟨cs,T,z,d,?_,?_⟩
 .rw[<- Array.length_toList,a];decide
 .rw[a];rfl
def aTZ{l:List (String×DataW Unit)}(h:laidMetH bbA l W)(b:(l.filter fun x=>x.1 == "horn/syntax.compare")=[("horn/syntax.compare",Rows.laid_horn_syntax_compare)]):mZ W W.heap.size:=by
 have c:=RU h b J;obtain⟨cs,T,z,a,d⟩:=att (ss:=MU) aTU (t:=_) (e:=9) (n:=9) J J underlying9 zk zk c;refine⟨bh a,fun j f=>?_⟩;have g:cs[j]?=cs.toList[j]?:=zg;simp only[a1M,a];rw[bI zs,g,d,List.getElem?_map,a1y,a1e (show j<MU.length from f)];rfl
def aT0{P:Program}{t:Nat}{ss:List (List UInt8)}{x:List MemPlace}(hu:P.underlying t=O (.slice e))(he:P.underlying e=O .string)(d:P.cellsOf e=1)(g:0<ss.length)
  (h:DataW.trod (fun _=>()) P W 0 (fun _=>A) G f t [v]=O (.slice (ss.map fun s=>.lit (.string s)) [],x)) :
  ∃ b o c,b<W.heap.size/\v = .slice (O ⟨b,o,V⟩) ss.length c/\∀ j,j<ss.length->W.cell? ⟨b,o+j,V⟩=O (.string ⟨(ss.getD j []).toArray⟩):=by
 obtain⟨a,cap,i,-,k⟩:=open_row hu d h;simp only[a3E,and_true,List.length_map] at i;have key:∀ j,j<ss.length->W.cell? (a.add j)=O (.string ⟨(ss.getD j []).toArray⟩):=fun j l=>by
  obtain⟨u,n,q,m,c2⟩:=k j (.lit (.string ss[j])) zg;obtain⟨s,d1,d2,-⟩:=DataW.trod_string he c2;simp only[a3E,and_true] at d1;simp only[a1z,DataW.lit.injEq,Lit.string.injEq] at d2;rw[m,d1,a1y,a1e l,Option.getD_some,d2.1]
 have w:=key 0 g;obtain⟨b,o,sp⟩:=a;have p:sp=none:=by
  cases sp with
  | none=>rfl
  | some y=>
   grind [a1M,Addr.add]
 subst p;have r:∀ j,(⟨b,o,V⟩:Addr).add j=⟨b,o+j,V⟩:=(by grind [Addr.add]);grind [a1M,Array.getElem?_eq_some_iff]
def aT1{l:List (String×DataW Unit)}(h:laidMetH bbA l W)(j:(l.filter fun x=>x.1 == "horn/syntax.levels")=[("horn/syntax.levels",Rows.laid_horn_syntax_levels)]):Av W W.heap.size:=by
 obtain⟨ps,⟨I,K,cs,f,p,q,k,r,hv,u,-,-⟩,-,-⟩:=RU h j J;obtain rfl:=a1b (atu.symm.trans k);obtain rfl:=a1b ((show(Tryz.prog.globals[2]?).map (·.type)=O _ from J).symm.trans r);obtain⟨xs,m,rfl,hx,w,L,y⟩:=DataW.trod_array (n:=2) (e:=39) J u;have B:∃ T z,W.heap[2]?=O (ae cs T z):=by
  simp only[World.var?,atu,Option.bind_some] at hv;split at hv
  .simp only[a07] at hv;subst hv;exact⟨_,_,by assumption⟩
  .cases hv
 obtain⟨T,z,a⟩:=B;have C:Tryz.prog.cellsOf 39=1:=zk;have M:cs.toList.length=2:=by rw[w];kernel_rfl
 simp only[a1z,Rows.laid_horn_syntax_levels,DataW.agg.injEq] at hx;refine⟨bh a,fun i d=>?_⟩;have g:=y i d;have D:(cs.toList.drop (i*Tryz.prog.cellsOf 39)).take (Tryz.prog.cellsOf 39)=[cs.toList[i]]:=by
  rw[C,Nat.mul_one,a1h zo];rfl
 rw[D,a1e zo] at g;have E:xs[i].1 = .slice ((P.ops i).map fun s=>.lit (.string s)) []:=by
  have:(xs.map (·.1))[i]' zg=xs[i].1:=zs;rw[<- this];simp only[<- hx.1]
  match i,d with
  | 0,_=>rfl
  | 1,_=>rfl
 obtain⟨b,o,c,F,N,H⟩:=aT0 (ss:=P.ops i) (x:=xs[i].2) (t:=39) (e:=9) underlying39 underlying9 zk (by grind [P.ops]) (by rw[g,<- E]);refine⟨b,o,c,F,?_,H⟩;simp only[a1M,a];grind
def aT2:Tryz.prog.globalNamed "strconv.ErrSyntax" = O 6:=zk
def aT3:Tryz.prog.globalNamed "strconv.ErrRange" = O 7:=zk
def aT4{l:List (String×DataW Unit)}(h:laidMetH bbA l W)(a:(l.filter fun x=>x.1 == "internal/strconv.uint64pow10")=[("internal/strconv.uint64pow10",Rows.laid_internal_strconv_uint64pow10)]):kZ W:=by
 have b:=RU h a J;exact Lib.tabIs_of_head (zs:=Lib.pow10Tab) (k:=.u64) (n:=20) Yd (t:=_) (e:=261) J J J zk zk b
def atv{nm a:String}{d:DataW Unit}{ms:Array (String×TypeId)}{t:TypeId}(b:Tryz.prog.globalNamed nm=O g)(ht:(Tryz.prog.globals[g]?).map (·.type)=O t)(hu:Tryz.prog.underlying t=O (.interface ms))(h:laidMet bbA [(nm,.iface a d)] W):∃ t1 p1,W.cell? ⟨g,0,V⟩=O (aj t1 p1):=by
 obtain⟨ps,⟨k,l,cs,f,p,q,c,e,hv,i,-,-⟩,-,-⟩:=h;obtain rfl:=a1b (b.symm.trans c);obtain rfl:=a1b (ht.symm.trans e);obtain⟨f1,u,v,m,-⟩:=iface_of_trod hu i;have j:cs=#[aj u v]:=zg;subst j;exact⟨u,v,by simpa using World.var?_cell b hv 0⟩
def aT6(h:W.ShapedOpen bbA):Gp W:=cell_of_shapedOpen_int (g:=5) (t:=3) (k:=.i64) h (Nat.le_of_ble_eq_true zk) (zero:=#[zi 0]) zk J zk zk zk
def aT7{l:List (String×DataW Unit)}(h:laidMetH bbA l W)(c:W.ShapedOpen bbA)(d:(l.filter fun x=>x.1 == "horn/syntax.signs")=[("horn/syntax.signs",Rows.laid_horn_syntax_signs)])
  (e:(l.filter fun x=>x.1 == "horn/syntax.levels")=[("horn/syntax.levels",Rows.laid_horn_syntax_levels)]) (f:(l.filter fun x=>x.1 == "horn/syntax.compare")=[("horn/syntax.compare",Rows.laid_horn_syntax_compare)])
  (g:(l.filter fun x=>x.1 == "internal/strconv.uint64pow10")=[("internal/strconv.uint64pow10",Rows.laid_internal_strconv_uint64pow10)]) (i:(l.filter fun x=>x.1 == "errors.errorType")=[("errors.errorType",Rows.laid_errors_errorType)])
  (j:(l.filter fun x=>x.1 == "strconv.ErrSyntax")=[("strconv.ErrSyntax",Rows.laid_strconv_ErrSyntax)]) (k:(l.filter fun x=>x.1 == "strconv.ErrRange")=[("strconv.ErrRange",Rows.laid_strconv_ErrRange)]):Gr W:=by
 have b:=aTX h i;have m:=aT4 h g;obtain⟨t1,p1,n⟩:=atv aT2 (t:=57) J underlying57 (RU h j J);obtain⟨t2,p2,o⟩:=atv aT3 (t:=57) J underlying57 (RU h k J);have lt:∀ {a:Addr} {v:Y},W.cell? a=O v->a.block<W.heap.size:=(by grind [a1M,bh]);refine⟨⟨aT1 h e,aTY h d⟩,aTZ h f,⟨t1,p1,t2,p2,n,o⟩,m,aT6 c,b,?_,lt b⟩;grind
end Go.Proofs.YtoegidfbnkaabaaGreatDoor
namespace Go.Proofs.YtoegidfbnkaabaaGreatDoor
open P
open Go.ChangeShapes Go.WideShapes Go.RowKit
variable{fn:Func}{Gw:Bool}{w' w0:Z}
def Tryz.own:ownKnob Tryz.prog.godebug=none:=zk
def aT8{w:Z}(h:Ext w w')(may:MemPlace->Prop):w.keptBut w' may:=by
 refine⟨h.os,h.output,fun i a=>?_⟩;have e:=h.ext i _ (Array.getElem?_eq_getElem a);grind
def aT9{P:Program}{laid:List (String×DataW Unit)}(a:w'.heap=(w0.layVars P laid).heap)(b:w0.layFits P laid []=A)(c:w0.layIfaces P laid w'=A):laidMet P laid w':=by
 have d:(laid.filter fun x=>(laid.map (·.1)).contains x.1)=laid:=List.filter_eq_self.2 zg;have e:(laid.filter fun x=>!(laid.map (·.1)).contains x.1)=[]:=List.filter_eq_nil_iff.2 zg;exact laidMet_layVars (w0:=w0) (laid.map (·.1)) [] zg zg zg (by grind [LaidIn.none])
noncomputable def wH(os:Os):Z:=
 let w0:=World.holding bbA os ⟨#[],#[],[]⟩
 { w0 with heap:=w0.heap.modify 0 fun
  | ae _ t frozen=>ae #[aj 219 (.agg #[aq (O ⟨12,57,V⟩)])] t frozen
  | o=>o }
noncomputable def Z9(l:List (String×DataW Unit))(os:Os):Z:=(wH os).layVars bbA (l.filter fun x=>x.2.handleName?.isNone)
def aUa(l:List (String×DataW Unit))(os:Os):(Z9 l os).os=os:=World.layVars_os _ _ _
def aUb{H:Type}{enc:TypeId×Y->H}{a:Assume}{C:Checked}{os:Os}{f:FuncId}{s:ChangeSpec}{conds:List PathCond}{fresh handsOn again:Bool}{X:Z->Array Y->Prop}
  (m:∀ (w w':Z) (args:Array Y),w.heap=w'.heap->X w args->X w' args)
  (own:ownKnob C.prog.godebug=V) (started:os.Started) (b:C.prog.inits.idxOf? f=V) (c:C.prog.funcs[f]?=O fn)
  (witness:∃ (w:Z) (tape:Tape) (i:Input),w.os=os/\(w.forCall tape i).Shaped C.prog/\i.vars=[]/\Input.okWide C.prog (w.forCall tape i) .any w.heap.size f i /\
   ((s.pre enc C.prog fn conds Gw (w.forCall tape i).memory i.args/\X (w.forCall tape i).memory i.args)/\sizedMet enc C.prog fn (OpenSpec.ofChange s) Gw (w.forCall tape i).memory i.args)/\a.holds C.prog (lone (Frame.enter C.prog f i.args .normal) [] (w.forCall tape i)))
  (d:∀ (W:Z) (base:Nat) (args:Array Y) (ds gs:List (DataW H)) (before:List MemPlace),
   (∀ (j:Nat) t v,fn.params[j]?=O t->args[j]?=O v->Value.okWide C.prog W .any base t v)->DataW.Whole enc C.prog fn.params.toList s.vars Gw W args.toList ds gs before ->
   (DataW.weightsEach C.prog (fn.params.toList++s.plain.varTypes C.prog) (ds++gs)).all (·<=reachBytes)=A->X W args->W.ShapedOpen C.prog ->
   Calls C.prog f args W fun e l=>∃ v,e = ah v/\s.post enc C.prog fn Gw fresh handsOn again W args v l) :
  ReturnsInHanded a C os f .any (fun w args=>(s.pre enc C.prog fn conds Gw w args/\X w args)/\sizedMet enc C.prog fn (OpenSpec.ofChange s) Gw w args) (s.post enc C.prog fn Gw fresh handsOn again):=by
 refine returnsInHanded_of_calls own started b witness ?_;intro w tape i _ n _ o p _;obtain⟨_,_,_,g,h,_,_,_,_,k⟩:=o;obtain rfl:g=fn:=a1b (h.symm.trans c);obtain⟨⟨⟨ds,gs,before,hw,-⟩,hx⟩,q⟩:=p;have r:=DataW.Whole.of_heap (w':=w.forCall tape i) (by rfl) hw;refine(d (w.forCall tape i) w.heap.size i.args ds gs before k r (q.weights hw) (m _ _ _ (by rfl) hx) n).mono fun e l ⟨v,he,u⟩=>?_;grind [ChangeSpec.post_blind]
def aUg(os:Os)(args:Array Y):laidMetH bbA Rows.knownRow.laid ((Z9 Rows.knownRow.laid os).forCall (fun _ _=>0) ⟨#[],args,[]⟩).memory:=
 laidMetH_of_parts (aT9 (w0:=wH os) (by simp [World.memory,World.forCall,Input.heap,Z9]) zk zk) zk
end Go.Proofs.YtoegidfbnkaabaaGreatDoor
namespace Go.Proofs.YtoegidfbnkaabaaGreatDoor
open P
open Go.RowKit Sx
variable{F:Nat->Prop}{c d f i k nv xb:Nat}{v:Y}{ft:List Nat}{vs:List Y}
theorem aUh{w:Z}{cs:List Cl}(a:w.heap[xb]?=aN #[v] 72)(b:fJ F w 79 v vs)(c:kE F w vs cs):JM w xb cs:=
 ⟨v,vs,a,b.mono zg yH,kE.mono zg (fun _ _ _ _ _ d=>d) _ _ c⟩
def aUi(s:Bs){w:Z}(f:s.length<=100000)(b:Gr w):Calls bbA 12 #[.string (bs s)] w fun e w'=>Ext w w'/\match P.program s with
  | .err c a=>e = ah (ak #[aq V,.int .i64 (c:Int),.int .i64 (a:Int)])
  | .ok cs _ _=>∃ xb,e = ah (ak #[ptr xb,.int .i64 0,.int .i64 (-1)])/\JM w' xb cs:=by
 refine(aHO s w f ⟨b.two.GL,b.cmp,b.two.sig⟩ b.err).mono ?_;rintro e w' ⟨g,d⟩;refine⟨g,?_⟩;cases hr:P.program s with
 | err c a=>grind
 | ok cs k v=>
  rw[hr] at d;obtain⟨xb,bv,vs,rfl,h,-,i,j⟩:=d;exact⟨xb,J,(by grind [aUh])⟩
def aUj(q:Bs)(b:Bool){w:Z}{cs:List Cl}{s:Bs}{v:List Bs}(d:q.length<=100000)(a:Gr w)(hx:JM w xb cs)(c:P.program s = .ok cs k v) :
  Calls bbA 15 #[pp xb,aT q,.bool b] w (Z8 cs q b w):=
 aTM q b d a.two a.cmp a.num a.pow a.len a.err hx (P.atn c).2 (P.atn c).1
def atx(s q:Bs)(g:Bool){w:Z}{i:Bs×Nat}(o:s.length<=100000)(p:q.length<=100000)(j:Gr w)(h:P.firstT d f s q g=O i) :
  Calls bbA 20 #[aT s,aT q,.bool g] w fun e w'=>Ext w w'/\e = ah (ak #[aT i.1,zi ((i.2:Nat):Int)]):=by
 unfold P.firstT at h;refine aTN ?_;refine(aUi s o j).mono ?_;rintro e w1 ⟨l,b⟩;split at h
 .rename_i e0 a0 hr;cases h;rw[hr] at b;have b:e = ah (ak #[aq V,zi (e0:Int),zi (a0:Int)]):=b;subst b;refine bG ?_;exact yF
 .rename_i cs k v hr;rw[hr] at b;obtain⟨xb,rfl,hx⟩:=b;refine bG ?_;refine a1a (aUj q g p (j.ext l) hx hr) ?_;rintro e w2 ⟨n,c⟩;have x:=l.trans n;split at h
  .rename_i e0 a0 m;cases h;rw[m] at c;have c:e = ah (ak #[aq V,zi (e0:Int),zi a0]):=c;subst c;refine bG ?_;exact yF
  .rename_i E st names m;rw[m] at c;obtain⟨qb,rfl,r⟩:=c;have t:=r.live n;obtain⟨⟨a,y⟩,u,rfl⟩:=Option.map_eq_some_iff.1 h;refine bG ?_;refine a1a (aTS t (j.ext l) zo u) ?_;rintro e w3 ⟨rfl,X,-,-,-,z,-⟩;refine bG ?_;exact yF
def aUk{w:Z}(a:Gr w):Calls bbA 21 #[] w fun e w'=>Ext w w'/\e = ah (.bool A):=by
 refine aTO ?_;refine(atx X7 X8 G zd zd a stW).mono ?_;rintro e w1 ⟨b,rfl⟩;refine bG ?_;refine a1a (atx X7 X8 A zd zd (a.ext b) stV) ?_;rintro e w2 ⟨d,rfl⟩;have c:((0:Nat):Int)=0:=rfl;refine dF @stA.eq_1 c ?_;exact yF
namespace P
mutual
def Bg (nv:Nat):Tm->Prop
 | .atom s=>s=[91,93]\/(jH s=1/\vR s)
 | .int n=>-999999999<=n/\n<=999999999
 | .var i=>i<nv
 | .comp name args=>((args.length=2/\name∈[[43],[45],[42],[47,47],[46]])\/(jH name=1/\vR name))/\args≠[]/\Pj nv args
 termination_by structural t=>t
def Pj (nv:Nat):List Tm->Prop
 | []=>True
 | t::r=>Bg nv t/\Pj nv r
 termination_by structural t=>t
end
def VS(nv:Nat)(s:Ws):Prop:=s.seen.Nodup/\∀ i∈s.seen,i<nv
def aiB:∀ (n:Nat) (l:List Nat),l.Nodup->(∀ i∈l,i<n)->l.length<=n
 | 0,l,_,h=>by
  cases l with
  | nil=>grind
  | cons a r=>grind [absurd,List.mem_cons_self]
 | n+1,l,b,h=>by
  have c:=aiB n (l.erase n) (b.erase n) zg;grind
def E2(S:List Nat)(least:Nat)(I:List Item)(s0 s1:List Nat)(t:Tm):Prop:=if least<=1 then C0 S I s0 s1 t else if least=2 then C1 S I s0 s1 t else C2 S I s0 s1 t
theorem C2.lv{S:List Nat}{least:Nat}{a:List Item}{s1:List Nat}{t:Tm}(h:C2 S a ft s1 t):E2 S least a ft s1 t:=by
 unfold E2;split
 .exact h.up.up
 split
 .exact h.up
 .exact h
theorem C1.lv{S:List Nat}{least:Nat}{a:List Item}{s1:List Nat}{t:Tm}(h:C1 S a ft s1 t)(b:least<=2):E2 S least a ft s1 t:=by
 grind [E2,up]
theorem C0.lv{S:List Nat}{least:Nat}{a:List Item}{s1:List Nat}{t:Tm}(h:C0 S a ft s1 t)(b:least<=1):E2 S least a ft s1 t:=by
 simp_all [E2,zip]
structure mP(s s':Ws)(I:List Item):Prop where
 out:s'.out=s.out++nk I
 ok:∀ i∈I,i.ok
 sp:sep G I
 pre:s.seen <+: s'.seen
def aiC(I:List Item):Prop:=∀ T k,At T k I->dQ T k [93]=G
def PT(nv:Nat)(t:Tm)(least:Nat)(s s':Ws):Prop:=VS nv s'/\∃ I,mP s s' I/\aiC I/\∀ S:List Nat,S.Nodup->s'.seen <+: S->E2 S least I s.seen s'.seen t
def PA(nv:Nat)(ts:List Tm)(s s':Ws):Prop:=VS nv s'/\∃ I,mP s s' I/\sep A I/\∀ S:List Nat,S.Nodup->s'.seen <+: S->CR S I s.seen s'.seen ts
def PB(nv:Nat)(a b:Tm)(c:UInt8)(s s':Ws):Prop:=VS nv s'/\∃ d e,mP (s.add [c]) s' (d++e)/\sep G d/\sep A e/\aiC d/\∀ S:List Nat,S.Nodup->s'.seen <+: S->∃ sm,C0 S d s.seen sm a/\CL S e sm s'.seen b
def Iu{p:Bool}:sep p []:=by cases p<;>trivial
def sep.app:∀ {a b:List Item} {p:Bool},sep p a->sep A b->sep p (a++b)
 | [],b,A,_,h=>h
 | [],b,G,_,h=>h.aau
 | i::a,b,p,h,c=>⟨h.1,sep.app h.2 c⟩
theorem V7{T:List Tok}{s:Bs}{r:List Item}(h:At T k (.wd s::r))(a:vR s):dQ T k [93]=false:=by
 obtain⟨c,b⟩:=h.w;simp only[dQ,b,Bool.and_eq_false_iff,beq_eq_false_iff_ne,ne_eq];refine .inr fun e=>?_;subst e;exact a.2 93 (List.mem_cons_self ..) zd
def aab{S p:List Nat}(h:p <+: S)(a:i∈p):S.idxOf i=p.idxOf i:=by
 obtain⟨q,rfl⟩:=h;grind
def aty{l:List Nat}(h:l.idxOf? i=O k):k<l.length/\l.idxOf i=k/\i∈l:=by
 rw[List.idxOf?,List.findIdx?_eq_some_iff_findIdx_eq] at h;refine⟨h.1,h.2,?_⟩;grind
def atz{l:List Nat}(h:l.idxOf? i=V):i ∉ l:=by
 grind
section
variable{nv:Nat}(kP:nv<=12)
include kP
def aUm{least:Nat}{s:Ws}(t:i<nv)(b:VS nv s):PT nv (.var i) least s (AO s i):=by
 unfold AO;cases hx:s.seen.idxOf? i with
 | some k=>
  obtain⟨l,o,d⟩:=aty hx;have e:=aiB nv s.seen b.1 b.2;refine⟨b,[.wd (95::fc (k+1))],⟨by simp [Ws.add,nk,Item.text],?_,⟨zs,trivial⟩,a2h _⟩,fun T k q=>(by grind [V7,TO]),fun S r c=>?_⟩
  .intro j a;simp only[a1g,a1l,or_false] at a;subst a;exact(TO zo).2
  .exact(C2.var (n:=s.seen.length) (m:=s.seen.length) zo l c.length_le (by rw[aab (p:=s.seen) c d,o]) zo J J).lv
 | none=>
  have d:=atz hx;have f:(s.seen++[i]).Nodup:=by
   rw[List.nodup_append];exact⟨b.1,zs,zg⟩
  have hm:∀ j∈s.seen++[i],j<nv:=fun j a=>by
   rcases List.mem_append.1 a with h | h
   .exact b.2 j h
   grind
  have e:=aiB nv _ f hm;simp only[a1f,a1i,a1v] at e;refine⟨⟨f,hm⟩,[.wd (95::fc (s.seen.length+1))],⟨by simp [nk,Item.text],?_,⟨zs,trivial⟩,List.prefix_append _ _⟩,fun T k q=>(by grind [V7,TO]),fun S r c=>?_⟩
  .intro j a;simp only[a1g,a1l,or_false] at a;subst a;exact(TO zo).2
  .have g:s.seen++[i] <+: S:=c;have:=g.length_le;simp only[a1f,a1i,a1v] at this;exact(C2.var (n:=s.seen.length) (m:=s.seen.length+1) zo zo zo (by
    rw[aab g zs,List.idxOf_append,bI d];simp) zo J zs).lv
omit kP
def aUn{n:Int}{least:Nat}{s:Ws}(c:-999999999<=n)(d:n<=999999999)(e:VS nv s):PT nv (.int n) least s (s.add (kN n)):=by
 have hw:=(anY (n:=n.natAbs) zo).2;refine⟨e,if n<0 then [.sg [45],.wd (fc n.natAbs)] else [.wd (fc n.natAbs)],⟨?_,?_,?_,a2h _⟩,?_,fun S f g=>(C2.int c d).lv⟩
 .grind [kN,Ws.add,nk,Item.text]
 .intro i a;split at a
  .simp only[a1g,a1l,or_false] at a;rcases a with rfl | rfl
   .show [45]∈BT;decide
   .exact hw
  .simp only[a1g,a1l,or_false] at a;subst a;exact hw
 .split
  .exact⟨zs,by simp [Item.Ez],trivial⟩
  .exact⟨zs,trivial⟩
 .intro T k b;split at b
  .rw[(b.s _).1];decide
  .exact V7 b hw
def aUo{a:Bs}{least:Nat}{s:Ws}(h:a=[91,93]\/(jH a=1/\vR a))(d:VS nv s):PT nv (.atom a) least s (s.add a):=by
 rcases h with rfl | ⟨f,e⟩
 .refine⟨d,[.sg [91],.sg [93]],⟨by simp [Ws.add,nk,Item.text],?_,⟨zs,by simp [Item.Ez],trivial⟩,a2h _⟩,fun T k c=>by rw[(c.s _).1];decide,fun S g j=>C2.nil.lv⟩;intro i b;simp only[a1g,a1l,or_false] at b;rcases b with rfl | rfl
  .show [91]∈BT;decide
  .show [93]∈BT;decide
 .refine⟨d,[.wd a],⟨by simp [Ws.add,nk,Item.text],?_,⟨zs,trivial⟩,a2h _⟩,fun T k c=>V7 c e,fun S g j=>(C2.atom f).lv⟩;intro i b;simp only[a1g,a1l,or_false] at b;subst b;exact e
def mP.one{s s':Ws}{i:Item}(a:s'.out=s.out++i.text)(b:s'.seen=s.seen)(c:i.ok):mP s s' [i]:=
 ⟨by simp_all [nk],zg,⟨zs,trivial⟩,zg⟩
def mP.app{s s1 s2:Ws}{a b:List Item}(h:mP s s1 a)(c:mP s1 s2 b)(d:sep G (a++b)):mP s s2 (a++b):=
 ⟨by rw[c.out,h.out,aIY,List.append_assoc],(by grind [ok]),d,h.pre.trans c.pre⟩
def Iv{c:Bs}(h:c∈BT):(Item.sg c).ok:=h
def E2.zero{S:List Nat}{a:List Item}{s1:List Nat}{t:Tm}(h:E2 S 0 a ft s1 t):C0 S a ft s1 t:=by simp_all [E2,zip]
def atA{name:Bs}{a b:Tm}{s s1 s2:Ws}(l:iK name 2≠0)(m:PT nv a (iK name 2) s s1)(n:PT nv b (iK name 2+1) (s1.add (if name=[109,111,100] then [32,109,111,100,32] else name)) s2) :
  VS nv s2/\∃ I,mP s s2 I/\aiC I/\∀ S:List Nat,S.Nodup->s2.seen <+: S->(iK name 2=1->C0 S I s.seen s2.seen (.comp name [a,b]))/\(iK name 2=2->C1 S I s.seen s2.seen (.comp name [a,b])):=by
 obtain⟨v1,o,g,na,p⟩:=m;obtain⟨v2,q,pb,nb,cb⟩:=n;have e:(iK name 2=1/\(name=[43]\/name=[45]))\/(iK name 2=2/\(name=[42]\/name=[47,47]\/name=[109,111,100])):=by
  unfold iK at l ⊢;grind
 obtain⟨it,hit,r,hw,t⟩:∃ it:Item,(it=if name=[109,111,100] then .md else .sg name)/\it.ok/\it.Ez=G/\it.text=(if name=[109,111,100] then [32,109,111,100,32] else name):=by
  refine⟨_,J,?_⟩;rcases e with⟨-,rfl | rfl⟩| ⟨-,rfl | rfl | rfl⟩<;>simp [Item.ok,BT,Item.Ez,Item.text]
 have u:mP s1 (s1.add (if name=[109,111,100] then [32,109,111,100,32] else name)) [it]:=mP.one (by rw[t];rfl) J r;refine⟨v2,o++it::q,g.app (u.app pb ?_) (sep.cut hw pb.sp g.sp),fun T k w=>na T k (At.append.1 w).1,fun S i j=>?_⟩
 .exact⟨zs,by rw[hw];exact pb.sp⟩
 have c:=p S i (pb.pre.trans j);have d:=cb S i j;rcases e with⟨x,e⟩| ⟨y,e⟩
 .rw[x] at c d;refine⟨fun _=>?_,fun h=>zo⟩;have f:it = .sg name:=zg;rw[f];unfold E2 at c d;rw[zip zo] at c;rw[bI zo,zip rfl] at d;exact C0.op e c d
 .rw[y] at c d;refine⟨fun h=>zo,fun _=>?_⟩;unfold E2 at c d;rw[bI zo,zip rfl] at c;rw[bI zo,bI zo] at d;refine C1.op ?_ c d;grind
theorem atB(name:Bs):iK name 2<=2:=by grind [iK]
structure Rd(nv f:Nat):Prop where
 tm:∀ t least s s',ix [] f t least s=O (O s')->Bg nv t->VS nv s->PT nv t least s s'
 cp:∀ name args least s s',rB [] f name args least s=O (O s')->Bg nv (.comp name args)->VS nv s->PT nv (.comp name args) least s s'
 ar:∀ ts s s',kX [] f 44 ts s=O (O s')->Pj nv ts->VS nv s->PA nv ts s s'
 li:∀ c a b s s',oZ [] f c a b s=O (O s')->Bg nv a->Bg nv b->VS nv s->PB nv a b c s s'
def Kf{s:Ws}{x:Bs}(h:VS nv s):VS nv (s.add x):=h
def PT.fuel{t:Tm}{least x:Nat}{s s':Ws}(h:PT nv t least { s with fuel:=x } s'):PT nv t least s s':=by
 obtain⟨v,I,p,n,c⟩:=h;exact⟨v,I,⟨p.out,p.ok,p.sp,p.pre⟩,n,c⟩
def atC(ih:∀ g,g<=f->Rd nv g){name:Bs}{args:List Tm}{least:Nat}{s s':Ws}(hw:jH name=1/\vR name)(x:args≠[])(d:Pj nv args)(m:VS nv s)
  (h:Wb (kX [] f 40 args (s.add name)) (fun s=>O (O (s.add [41])))=O (O s')):PT nv (.comp name args) least s s':=by
 obtain⟨sz,b,c⟩:=oI h;have c:sz.add [41]=s':=a1b (a1b c);subst c;cases args with
 | nil=>grind
 | cons t ts=>
 cases f with
 | zero=>cases b
 | succ f=>
 rw[kX] at b;obtain⟨sy,n,o⟩:=oI b;obtain⟨v1,p,e,y,q⟩:=(ih f zo).tm _ _ _ _ n d.1 (Kf (Kf m));obtain⟨v2,r,i,sr,u⟩:=(ih f zo).ar _ _ _ o d.2 v1;have p1:mP s (s.add name) [.wd name]:=mP.one J J hw.2;have p2:mP (s.add name) ((s.add name).add [40]) [.sg [40]]:=mP.one J J (Iv zd);have p3:mP sz (sz.add [41]) [.sg [41]]:=mP.one J J (Iv zd);have q1:=e.app i (sep.app e.sp sr);have q2:=q1.app p3 (sep.cut J Iu q1.sp);have q3:=p2.app q2 (sep.cut (a:=[]) J q2.sp Iu);have q4:=p1.app q3 ⟨zs,by simp [Item.Ez],q2.sp⟩;refine⟨v2,.wd name::.sg [40]::p++r++[.sg [41]],zg,fun T k w=>V7 w hw.2,fun S j l=>?_⟩;exact(C2.app hw.1 (q S j (i.pre.trans l)).zero (u S j l)).lv
def rd(kP:nv<=12):∀ f,(∀ g,g<f->Rd nv g)->Rd nv f:=by
 intro f ih;cases f with
 | zero=>exact⟨fun _ _ _ _ h=>by grind [ix],fun _ _ _ _ _ h=>by grind [rB],fun _ _ _ h=>by grind [kX],fun _ _ _ _ _ h=>by grind [oZ]⟩
 | succ f=>
 refine⟨?_,?_,?_,?_⟩
 .intro t least s s' h p l;rw[ix] at h;split at h
  .grind
  rw[Lm] at h;have C:VS nv { s with fuel:=s.fuel-1 }:=l;cases t with
  | atom a=>
   injection h with h;injection h with h;subst h;exact(aUo (s:={ s with fuel:=s.fuel-1 }) p C).fuel
  | int n=>
   injection h with h;injection h with h;subst h;exact(aUn (s:={ s with fuel:=s.fuel-1 }) p.1 p.2 C).fuel
  | var i=>
   injection h with h;injection h with h;subst h;exact(aUm kP (s:={ s with fuel:=s.fuel-1 }) p C).fuel
  | comp name args=>exact((ih f zo).cp _ _ _ { s with fuel:=s.fuel-1 } _ h p C).fuel
 .intro name args least s s' h p l;rw[rB.eq_def] at h;dsimp only at h;have N:=p;unfold Bg at N;obtain⟨q,c2,c3⟩:=N;split at h
  .rename_i a b;have u:Bg nv a:=c3.1;have cb:Bg nv b:=c3.2.1;split at h
   .rename_i o;split at h
    .rename_i hl;obtain⟨s1,w,h⟩:=oI h;obtain⟨s2,H,h⟩:=oI h;injection h with h;injection h with h;subst h;obtain⟨v2,I,D,P,Q⟩:=atA o ((ih f zo).tm _ _ _ _ w u (Kf l)) ((ih f zo).tm _ _ _ _ H cb (Kf ((ih f zo).tm _ _ _ _ w u (Kf l)).1));have p1:mP s (s.add [40]) [.sg [40]]:=mP.one J J (Iv zd);have p3:mP s2 (s2.add [41]) [.sg [41]]:=mP.one J J (Iv zd);have q2:=D.app p3 (sep.cut J Iu D.sp);have q3:=p1.app q2 (sep.cut (a:=[]) J q2.sp Iu);refine⟨v2,_,q3,fun T k K=>by rw[(K.s _).1];decide,fun S j m=>?_⟩;obtain⟨d1,d2⟩:=Q S j m;have B:iK name 2=1\/iK name 2=2:=by grind [atB]
     rcases B with B | B
     .exact(C0.br (d1 B)).lv
     .exact(C0.br (d2 B).up).lv
    .rename_i hl;obtain⟨s1,w,h⟩:=oI h;obtain⟨v2,I,D,P,Q⟩:=atA o ((ih f zo).tm _ _ _ _ w u l) ((ih f zo).tm _ _ _ _ h cb (Kf ((ih f zo).tm _ _ _ _ w u l).1));refine⟨v2,I,D,P,fun S j m=>?_⟩;grind [iK,atB,C0.lv,C1.lv]
   .rename_i o;split at h
    .rename_i E;subst E;obtain⟨v,F,R,y,sa,sb,na,hC⟩:=(ih f zo).li _ _ _ _ _ h u cb l;have p1:mP s (s.add [91]) [.sg [91]]:=mP.one J J (Iv zd);have q3:=p1.app y (sep.cut (a:=[]) J y.sp Iu);refine⟨v,_,q3,fun T k K=>by rw[(K.s _).1];decide,fun S j m=>?_⟩;obtain⟨sm,d1,d2⟩:=hC S j m;exact(C2.list d1 d2 na).lv
    .rename_i E;refine atC (fun g hg=>ih g zo) ?_ c2 c3 l h;rcases q with⟨-,q⟩| q
     .exfalso;simp only[a1g,a1l,or_false] at q;rcases q with rfl | rfl | rfl | rfl | rfl
      .exact o zd
      .exact o zd
      .exact o zd
      .exact o zd
      grind
     omega
  .rename_i ed;refine atC (fun g hg=>ih g zo) ?_ c2 c3 l h;rcases q with⟨q,-⟩| q
   .exfalso
    match args,q with
    | [a,b],_=>grind
   omega
 .intro ts s s' h p l;cases ts with
  | nil=>
   simp only[kX] at h;injection h with h;injection h with h;subst h;exact⟨l,[],⟨by simp [nk],zs,trivial,a2h _⟩,trivial,fun S j o=>CR.nil⟩
  | cons t ts=>
   rw[kX] at h;obtain⟨sy,h3,h4⟩:=oI h;obtain⟨v1,It,U,nt,ct⟩:=(ih f zo).tm _ _ _ _ h3 p.1 (Kf l);obtain⟨v2,Ir,W,sr,cr⟩:=(ih f zo).ar _ _ _ h4 p.2 v1;have p2:mP s (s.add [44]) [.sg [44]]:=mP.one J J (Iv zd);have q1:=U.app W (sep.app U.sp sr);have q3:=p2.app q1 (sep.cut (a:=[]) J q1.sp Iu);refine⟨v2,.sg [44]::It++Ir,q3,⟨by simp [Item.Ez],q1.sp⟩,fun S j o=>?_⟩;exact CR.cons (ct S j (W.pre.trans o)).zero (cr S j o)
 .intro c a b s s' h u cb l;rw[oZ] at h;obtain⟨s1,w,h⟩:=oI h;obtain⟨v1,F,r,na,z⟩:=(ih f zo).tm _ _ _ _ w u (Kf l);rw[Lm] at h;have Hb:∀ {s':Ws},Wb (ix [] f b 0 (s1.add [124])) (fun s=>O (O (s.add [93])))=O (O s')->PB nv a b c s s':=by
   intro s' h;obtain⟨s2,H,h⟩:=oI h;injection h with h;injection h with h;subst h;obtain⟨v2,R,pb,nb,L⟩:=(ih f zo).tm _ _ _ _ H cb (Kf v1);have p1:mP s1 (s1.add [124]) [.sg [124]]:=mP.one J J (Iv zd);have p3:mP s2 (s2.add [93]) [.sg [93]]:=mP.one J J (Iv zd);have q2:=pb.app p3 (sep.cut J Iu pb.sp);have q3:=p1.app q2 (sep.cut (a:=[]) J q2.sp Iu);have st:sep A (Item.sg [124]::(R++[.sg [93]])):=⟨by simp [Item.Ez],q2.sp⟩;refine⟨v2,F,_,r.app q3 (sep.app r.sp st),r.sp,st,na,fun S j m=>⟨s1.seen,(z S j (pb.pre.trans m)).zero,CL.bar (L S j m).zero⟩⟩
  have UQ:b = .atom [91,93]->PB nv a b c s (s1.add [93]):=by
   rintro rfl;have p1:mP s1 (s1.add [93]) [.sg [93]]:=mP.one J J (Iv zd);refine⟨v1,F,[.sg [93]],r.app p1 (sep.cut J Iu r.sp),r.sp,⟨by simp [Item.Ez],trivial⟩,na,fun S j m=>⟨s1.seen,(z S j m).zero,CL.nil⟩⟩
  cases b with
  | atom x=>
   grind
  | int n=>grind
  | var i=>grind
  | comp name args=>
   simp only at h;split at h
   .rename_i e d;split at h
    .rename_i E;subst E;have M:=cb;unfold Bg at M;obtain⟨v2,X,Id,y,sc,sd,nc,hC⟩:=(ih f zo).li _ _ _ _ _ h M.2.2.1 M.2.2.2.1 v1;have p1:mP s1 (s1.add [44]) [.sg [44]]:=mP.one J J (Iv zd);have q3:=p1.app y (sep.cut (a:=[]) J y.sp Iu);have st:sep A (Item.sg [44]::(X++Id)):=⟨by simp [Item.Ez],y.sp⟩;refine⟨v2,F,_,r.app q3 (sep.app r.sp st),r.sp,st,na,fun S j m=>?_⟩;obtain⟨sm,d1,d2⟩:=hC S j m;exact⟨s1.seen,(z S j (y.pre.trans m)).zero,(CL.cons d1 d2:CL S (.sg [44]::X++Id) _ _ _)⟩
    grind
   grind
def aUt(kP:nv<=12)(f:Nat):Rd nv f:=by
 induction f using Nat.strongRecOn with
 | _ f ih=>simp_all [rd]
end
def small(s:Bs):Prop:=∃ c r,s=c::r/\cls c=115
def V9(x:Ex):Prop:=(x.kind=97->x.args=[]/\(x.name=[91,93]\/small x.name))/\(x.kind=99->x.name∈[[46],[43],[45],[42],[47,47]]\/small x.name)
structure a05(T:List Tok)(f:Nat):Prop where
 Bx:∀ k v d x k' v',lC T f k v d=O (.ok x k' v')->V9 x
 list:∀ k v d x k' v',oq T f k v d=O (.ok x k' v')->V9 x
 oper:∀ l k v d x k' v',gW T f l k v d=O (.ok x k' v')->V9 x
 more:∀ l y k v d x k' v',V9 y->mS T f l y k v d=O (.ok x k' v')->V9 x
def rn(s:Ws):Ws:={ s with seen:=a1t s.seen.length }
theorem Pl(s:Ws)(x:Bs):rn (s.add x)=(rn s).add x:=rfl
def atG(n k:Nat):(a1t n).idxOf? k=if k<n then O k else none:=by
 induction n with
 | zero=>simp
 | succ n ih=>
  rw[List.range_succ,List.idxOf?,List.findIdx?_append];rw[List.idxOf?] at ih;grind
def aUu{S:List Nat}{s:Ws}(a:(AO s i).seen <+: S):AO (rn s) (S.idxOf i)=rn (AO s i):=by
 unfold AO at a ⊢;cases hx:s.seen.idxOf? i with
 | some k=>
  rw[hx] at a;obtain⟨d,e,b⟩:=aty hx;have c:S.idxOf i=k:=by rw[aab (p:=s.seen) a b,e]
  rw[c];simp only[rn,atG,zip d];rfl
 | none=>
  rw[hx] at a;have b:=atz hx;have f:s.seen++[i] <+: S:=a;have c:S.idxOf i=s.seen.length:=by
   rw[aab f zs,List.idxOf_append,bI b];simp
  simp_all [rn,atG,bI,Nat.lt_irrefl,List.length_range,a1f,a1i,a1v,List.range_succ]
structure Rn(S:List Nat)(f:Nat):Prop where
 tm:∀ t least s s',ix [] f t least s=O (O s')->s.seen <+: s'.seen/\(s'.seen <+: S->ix [] f (lT S t) least (rn s)=O (O (rn s')))
 cp:∀ name args least s s',rB [] f name args least s=O (O s')->s.seen <+: s'.seen/\(s'.seen <+: S->rB [] f name (oK S args) least (rn s)=O (O (rn s')))
 ar:∀ c ts s s',kX [] f c ts s=O (O s')->s.seen <+: s'.seen/\(s'.seen <+: S->kX [] f c (oK S ts) (rn s)=O (O (rn s')))
 li:∀ c a b s s',oZ [] f c a b s=O (O s')->s.seen <+: s'.seen/\(s'.seen <+: S->oZ [] f c (lT S a) (lT S b) (rn s)=O (O (rn s')))
theorem aUv(S:List Nat)(f:Nat)(ih:∀ g,g<f->Rn S g):Rn S f:=by
 cases f with
 | zero=>exact⟨(by grind [ix]),(by grind [rB]),(by grind [kX]),(by grind [oZ])⟩
 | succ f=>
 have k:=ih f zo;refine⟨?_,?_,?_,?_⟩
 .intro t least s s' h;rw[ix] at h;split at h
  .grind
  rename_i B;rw[Lm] at h;have go:∀ {u:Option (Option Ws)},(match O (lT S t) with
    | none=>V
    | some (.atom a)=>O (O ({ (rn s) with fuel:=(rn s).fuel-1 }.add a))
    | some (.int n)=>O (O ({ (rn s) with fuel:=(rn s).fuel-1 }.add (kN n)))
    | some (.var i)=>O (O (AO { (rn s) with fuel:=(rn s).fuel-1 } i))
    | some (.comp name args)=>rB [] f name args least { (rn s) with fuel:=(rn s).fuel-1 })=u->ix [] (f+1) (lT S t) least (rn s)=u:=fun{u} hu=>by
   rw[ix,bI (show ¬ (rn s).fuel=0 from B),Lm];exact hu
  cases t with
  | atom a=>
   injection h with h;injection h with h;subst h;exact⟨a2h _,fun j=>go J⟩
  | int n=>
   injection h with h;injection h with h;subst h;exact⟨a2h _,fun j=>go J⟩
  | var i=>
   injection h with h;injection h with h;subst h;refine⟨?_,fun j=>go ?_⟩
   .unfold AO;split
    .exact a2h _
    grind
   .have:=aUu (s:={ s with fuel:=s.fuel-1 }) j;exact congrArg (fun x=>O (O x)) this
  | comp name args=>
   obtain⟨l,p⟩:=k.cp _ _ _ { s with fuel:=s.fuel-1 } _ h;exact⟨l,fun j=>go (p j)⟩
 .intro name args least s s' h;rw[rB.eq_def] at h ⊢;dsimp only at h ⊢;have q:∀ {args:List Tm} {s':Ws},Wb (kX [] f 40 args (s.add name)) (fun s=>O (O (s.add [41])))=O (O s')->s.seen <+: s'.seen/\(s'.seen <+: S->Wb (kX [] f 40 (oK S args) ((rn s).add name)) (fun s=>O (O (s.add [41])))=O (O (rn s'))):=by
   intro args s' h;obtain⟨s1,l,h⟩:=oI h;injection h with h;injection h with h;subst h;obtain⟨g1,g2⟩:=k.ar _ _ _ _ l;exact⟨g1,fun j=>by rw[<- Pl,g2 j];rfl⟩
  split at h
  .rename_i a b;simp only[oK];split at h
   .rename_i j;rw[zip j];split at h
    .rename_i w;rw[zip w];obtain⟨s1,l,h⟩:=oI h;obtain⟨s2,p,h⟩:=oI h;injection h with h;injection h with h;subst h;obtain⟨g1,g2⟩:=k.tm _ _ _ _ l;obtain⟨g3,g4⟩:=k.tm _ _ _ _ p;refine⟨g1.trans g3,fun j=>?_⟩;rw[<- Pl,g2 (a35 g3 j)];simp only[Wb];rw[<- Pl,g4 j];rfl
    .rename_i w;rw[bI w];obtain⟨s1,l,h⟩:=oI h;obtain⟨g1,g2⟩:=k.tm _ _ _ _ l;obtain⟨g3,g4⟩:=k.tm _ _ _ _ h;refine⟨g1.trans g3,fun j=>?_⟩;rw[g2 (a35 g3 j)];grind [Wb,Pl]
   .rename_i j;rw[bI j];split at h
    .rename_i m;rw[zip m];exact k.li _ _ _ _ _ h
    .rename_i m;rw[bI m];exact q h
  .rename_i C;have D:∀ a b,oK S args=[a,b]->False:=fun a b e=>by
    match args,e with
    | [x,y],_=>grind
    | [],e=>grind [oK]
    | [x],e=>grind [oK]
    | x::y::z::r,e=>grind [oK]
   grind
 .intro c ts s s' h;cases ts with
  | nil=>
   grind [kX,a2h,oK]
  | cons t ts=>
   rw[kX] at h;obtain⟨s1,l,h⟩:=oI h;obtain⟨g1,g2⟩:=k.tm _ _ _ _ l;obtain⟨g3,g4⟩:=k.ar _ _ _ _ h;refine⟨g1.trans g3,fun j=>?_⟩;grind [oK,kX,Pl,a35,Wb]
 .intro c a b s s' h;rw[oZ] at h;obtain⟨s1,l,h⟩:=oI h;obtain⟨g1,g2⟩:=k.tm _ _ _ _ l;rw[Lm] at h;suffices E:s1.seen <+: s'.seen/\(s'.seen <+: S->(match O (lT S b) with
   | none=>V
   | some (.comp name args)=>match args with
    | [c,d]=>if name=[46] then oZ [] f 44 c d (rn s1) else Wb (ix [] f (lT S b) 0 ((rn s1).add [124])) fun s=>O (O (s.add [93]))
    | _=>Wb (ix [] f (lT S b) 0 ((rn s1).add [124])) fun s=>O (O (s.add [93]))
   | some (.atom x)=>if x=[91,93] then O (O ((rn s1).add [93])) else Wb (ix [] f (lT S b) 0 ((rn s1).add [124])) fun s=>O (O (s.add [93]))
   | some _=>Wb (ix [] f (lT S b) 0 ((rn s1).add [124])) fun s=>O (O (s.add [93])))=O (O (rn s'))) by
   refine⟨g1.trans E.1,fun j=>?_⟩;grind [oZ,Pl,a35,Wb,Lm]
  have o:∀ {s':Ws},Wb (ix [] f b 0 (s1.add [124])) (fun s=>O (O (s.add [93])))=O (O s')->s1.seen <+: s'.seen/\(s'.seen <+: S->Wb (ix [] f (lT S b) 0 ((rn s1).add [124])) (fun s=>O (O (s.add [93])))=O (O (rn s'))):=by
   intro s' h;obtain⟨s2,p,h⟩:=oI h;injection h with h;injection h with h;subst h;obtain⟨g3,g4⟩:=k.tm _ _ _ _ p;exact⟨g3,fun j=>by rw[<- Pl,g4 j];rfl⟩
  cases b with
  | atom x=>
   simp only[lT] at h o ⊢;split at h
   .rename_i hx;injection h with h;injection h with h;subst h;exact⟨a2h _,fun _=>by rw[zip hx];rfl⟩
   grind
  | int n=>exact o h
  | var i=>exact o h
  | comp name args=>
   simp only at h;simp only[lT] at o ⊢;split at h
   .rename_i c d;simp only[oK] at o ⊢;split at h
    .rename_i m;rw[zip m];exact k.li _ _ _ _ _ h
    .rename_i m;rw[bI m];exact o h
   .rename_i C;have D:∀ a b,oK S args=[a,b]->False:=fun a b e=>by
     match args,e with
     | [x,y],_=>grind
     | [],e=>grind [oK]
     | [x],e=>grind [oK]
     | x::y::z::r,e=>grind [oK]
    grind
def aUx(S:List Nat)(f:Nat):Rn S f:=by
 induction f using Nat.strongRecOn with
 | _ f ih=>grind [aUv]
def aUy(kP:nv<=12){t:Tm}{s:Ws}(ht:Bg nv t)(h:ix [] f t 0 ⟨c,[],[]⟩=O (O s)) :
  ∃ T,lex s.out = .inr T/\∀ F r,gW T F 0 0 [] 0=O r->E4 r\/∃ x k,r = .ok x k (names s.seen.length)/\(tk T k).kind=0/\ix [] f (made (a1t s.seen.length) x) 0 ⟨c,[],[]⟩=O (O (rn s))/\made (a1t s.seen.length) x=lT s.seen t:=by
 obtain⟨v,I,p,-,hC⟩:=(aUt kP f).tm t 0 ⟨c,[],[]⟩ s h ht ⟨List.nodup_nil,fun _ h=>by cases h⟩;have d:s.out=nk I:=by rw[p.out];rfl
 have g:=X1 I G 0 ((nk I).length+1) p.ok p.sp zo;refine⟨Ln I 0,by grind [lex],fun F r hr=>?_⟩;obtain⟨g1,g2⟩:=At.of (T:=Ln I 0) (l:=I) (k:=0) (p:=0) J;rw[a2e] at g2;have hx:∀ x,dQ (Ln I 0) I.length x=false:=(by grind [dQ]);have a:∀ l,pz (Ln I 0) l I.length=none:=(by grind [pz,List.find?_eq_none]);rcases(hC s.seen v.1 (a2h _)).zero.full (k:=0) g1 (by rw[a2e];exact hx _) (by rw[a2e];exact a _) (by rw[a2e];exact a _) hr with e | ⟨x,e,b⟩
 .grind
 .refine .inr ⟨x,I.length,zg,g2,?_,b⟩;rw[b];have:=((aUx s.seen f).tm _ _ _ _ h).2 (a2h _);exact this
end P
