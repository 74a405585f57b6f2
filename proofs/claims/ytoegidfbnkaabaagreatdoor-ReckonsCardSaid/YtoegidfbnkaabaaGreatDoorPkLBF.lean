/- A part of one proof (KR2, KR3, ShX7, KL1, KA2, KA3, KL4, KL2, KL3, KDec, PureRk, PureRq, PureC3, PureH, PureC4, PureC5, PureRr). -/
import Derived.Test.YtoegidfbnkaabaaGreatDoorPkLBE
import Derived.Lib.LaidTab
import Derived.LaidLaws
import Derived.Shelf.Vars
import Derived.ProofKit
import Derived.LaidMore
import Derived.OpenShut
import Derived.LaidHandle
import Derived.LaidSub
import Derived.MakeChecks
import Derived.Stop.Joined
import Derived.Test.YtoegidfbnkaabaaGreatDoorRows
import Derived.JoinedOf
import Derived.ChangeMaps5
import Derived.Lay
import Derived.KernelRfl
set_option linter.all false
set_option maxRecDepth 100000
set_option maxHeartbeats 8000000
open Option renaming some → O, none → V
open Go renaming Value → Y, World → Z
open Bool renaming true → A, false → G
open Go.Obj renaming cells → ae
open Go.Ending renaming returned → ah
open Go.Value renaming nilIface → ai, iface → aj, tuple → ak, pointer → aq
open Option.some renaming injEq → a1o, inj → a1w
open Go.Calls renaming mono → a1r
open List renaming getElem?_eq_getElem → a1u, length_append → a1v, length_cons → a1x, drop_eq_getElem_cons → a1y, mem_cons → a1z, mem_cons_self → a1A, not_mem_nil → a1E, mem_singleton → a1K, append_assoc → a1M, cons_append → a1T, range → a1U, getD_eq_getElem?_getD → a1X, nil_append → a2d
open Prod.mk renaming injEq → a1P
open Nat renaming lt_of_lt_of_le → a1W
open Go.World renaming cell? → a19
open UInt8 renaming ofNat → a2D
open List.cons renaming injEq → a3T
open Go.Proofs.Tryz renaming prog → bbN
open Go.Proofs.Tryz
namespace Go.Proofs.YtoegidfbnkaabaaGreatDoor
open P
open Go.RowKit Sx
variable{D:Nat->Prop}{E:En}{W w w' w1:Z}{c d e f g k n nv qb xb:Nat}{s:Bs}{v:Y}{vars:List Bs}
def P.aTf{x:Bd}{vs:List Bs}(h:tU rP s = .ok x k vs):vs.length<=12/\iR x<=5800:=by
 obtain⟨d,f⟩:=P.YU h;refine⟨d.1,?_⟩;unfold tU at h;split at h
 .grind
 .split at h
  .grind
  .rename_i T b;have a:=Tt b;have g:CH T:=⟨Nt _ _ _ _ (by rw[S6,b]),fun u hu hk=>by
    obtain⟨c,r,e,-⟩:=(a.tok u hu).2.2.1 hk;grind,fun u hu hk=>((a.tok u hu).2.1 hk).2.1⟩
   have i:=a.len;grind [P.anj,anj]
def P.as7{cs:List Cl}{vs:List Bs}(h:P.program s = .ok cs k vs):cs.length<=40/\∀ c∈cs,P.qM c:=by
 unfold P.program at h;split at h
 .grind
 .split at h
  .grind
  .rename_i T b;have a:=Tt b;have d:CH T:=⟨Nt _ _ _ _ (by rw[S6,b]),fun u hu hk=>by
    obtain⟨c,r,e,-⟩:=(a.tok u hu).2.2.1 hk;grind,fun u hu hk=>((a.tok u hu).2.1 hk).2.1⟩
   have f:=a.len;exact aIl d (fun u hu hk=>(a.tok u hu).2.2.2.1 hk) zo h
def P.aTg{cs:List Cl}{x:Bd}{t:Bs}(b:∀ c∈cs,P.qM c)(d:cs.length<=40)(hx:eX nv 2900 x)(f:iR x<=5800)(mX:nv<=12)(h:x8 cs x nv=O t):TH t:=by
 unfold x8 at h;split at h
 .grind
 .rename_i l e;split at h
  .grind
  .rename_i a g;cases h;exact aID (anI b d e).1 (by grind [P.XQ,P.fi.nil,fG,XQ,fi.nil]) zo
def as8(w:Z)(v:Y)(c:Nat)(a:Int):Prop:=(∃ b,v = aj 73 (ptr b)/\w.heap[b]?=aO #[zi (c:Int),zi a] 77)\/(v = aj 27 (zi (c:Int))/\a=-1)
def ZY(names:List Bs)(w w':Z)(qb:Nat)(E:En)(st:E.St):Prop:=UB names w w' qb E st/\KN names/\∀ k l,E.told k = .ok l->l.length=names.length
def aik(cs:List Cl)(q:Bs)(machine:Bool)(w:Z)(e:Ending)(w':Z):Prop:=Ext w w'/\match KY cs q machine with
 | .err c a=>∃ v,e = ah (ak #[aq V,v])/\as8 w' v c a
 | .ok E st names=>∃ qb,e = ah (ak #[ptr qb,ai])/\ZY names w w' qb E st
theorem P.as9(m:Vm):∀ (l:List Nat) (r:List Tm),m.iK l = .ok r->r.length=l.length
 | [],r,h=>by
  unfold Vm.iK at h;cases h;rfl
 | k::l,r,h=>by
  unfold Vm.iK at h;split at h
  .split at h
   .rename_i a b;cases h;rw[a1x,a1x,P.as9 m l a b]
   grind
  grind
def aTh(q:Bs)(machine:Bool){cs:List Cl}(Q:q.length<=100000)(S:IN w)(hC:mY w w.heap.size)(hV:B0 w)(T:lZ w)(hL:F7 w)(hx:Jj w xb cs)(o:∀ c∈cs,P.qM c)(U:cs.length<=40) :
  Calls bbN 26 #[pp xb,aT q,.bool machine] w (aik cs q machine w):=by
 cases machine with
 | false=>
  refine(aMV q Q S hC hx (fun c F=>(o c F).cl) (fun c F=>by have:=(o c F).name;omega) zo zo zo).mono ?_;rintro e w' ⟨g,h⟩;refine⟨g,?_⟩;unfold KY;cases hr:tU rP q with
  | err c a=>
   rw[hr] at h;obtain⟨b,rfl,r⟩:=h;exact⟨_,J,.inl yH⟩
  | ok x k vs=>
   rw[hr] at h;obtain⟨qb,rfl,r⟩:=h;refine⟨qb,J,r,(P.YU hr).1,fun k l h=>?_⟩;have h:Except.ok ((a1U vs.length).map Tm.var)=Except.ok l:=h;grind
 | true=>
  suffices H:∀ R:Ending->Z->Prop,(∀ e w',aik cs q A w e w'->R e w')->Calls bbN 26 #[pp xb,aT q,.bool A] w R from H _ zg;intro R d;unfold aik KY at d;refine aoM ?_;refine bH ?_;refine(aps q w Q S hC).mono ?_;rintro e w1 ⟨g,i⟩;have s1:=g.size;cases hr:tU rP q with
  | err c a=>
   rw[hr] at i d;obtain⟨b,rfl,r⟩:=i;refine bH ?_;exact d _ _ ⟨g,_,J,.inl yH⟩
  | ok x k vs=>
   rw[hr] at i d;simp only[if_true] at d;obtain⟨b,rfl,-,W,qxb,X,vc,hq,nW,K0⟩:=i;obtain⟨v,fV,g1,g2,g3⟩:=hx.iX (eO.ed g);obtain⟨sa,sc,rfl⟩:=g2.sl;have l1:=bg g1;obtain⟨Es,BP⟩:=P.YU hr;obtain⟨-,Rl⟩:=P.aTf hr;refine cJ @g1 ?_;refine a1r (aRp g2 g3 o U hq zg ⟨[],.inl ⟨J,J⟩,by unfold eQ;rfl⟩ (dJ.mono zg yH _ _ nW) BP Rl W (T.ext g)) ?_;rintro e w2 ⟨I,f⟩;have s2:=I.size;have s:=g.trans I;cases u:x8 cs x vs.length with
   | none=>
    rw[u] at f d;have f:e = ah (ak #[aT [],.bool G]):=f;subst f;refine bH ?_;exact d _ _ ⟨s,_,J,.inr ⟨J,J⟩⟩
   | some t=>
    rw[u] at f d;have f:e = ah (ak #[aT t,.bool A]):=f;subst f;have j:=P.aTg o U BP Rl W u;refine bH ?_;refine a1r (aTd t (hV.ext s) (T.ext s) (hL.ext s) fun ps c n K=>(anp K j).2.1.sl) ?_;rintro e w3 ⟨eH,B⟩;have s3:=eH.size;unfold P.runT at d;dsimp only at d;cases C:rp t with
    | error ca=>
     obtain⟨c,a⟩:=ca;rw[C] at B d;dsimp only at d;obtain⟨b',rfl,r⟩:=B;refine bH ?_;refine⟨fun _ w'=>w'=w3,?_,?_⟩
     .exact eT
     .rintro z E rfl dd;exact d _ _ ⟨yF,_,J,.inl yH⟩
    | ok y=>
     obtain⟨ps,c,n⟩:=y;rw[C] at B d;dsimp only at d;obtain⟨qb,vb,kb,ab,pb,rfl,L,a0T,ee,M,K3,hEb,a0V,hm⟩:=B;have Aw:=aI6 u C;subst Aw;obtain⟨K,vC,TC⟩:=anp C j;have BK:=(I.trans eH).ext _ _ hq;have m:w3.heap[qb]?=aO #[aj 111 (pp vb),pq vb 1,.func (.func 36) #[pp vb] #[],bW,ai] 121:=L;have lq:=bg m;refine bH ?_;refine⟨fun _ w'=>w'=bQ w3 qb (ae #[aj 111 (pp vb),pq vb 1,.func (.func 36) #[pp vb] #[],.slice X vs.length vc,ai] 121),?_,?_⟩
     .exact lM BK m
     .rintro z E jo dd;have N:Ext M E:=yF;have g4:E.heap[qb]?=aO (YK (Q9 ps vs.length vb kb ab pb) (.slice X vs.length vc) V) 121:=yH;have Ha:Ext w1 E:=yF;clear jo;refine d _ _ ⟨yF,qb,J,⟨Q9 ps vs.length vb kb ab pb,(by grind [aqN,vmD,am2.cls]),ee,by have:=K3.size;omega,P.aTb vC TC,fun _=>0,fun D hD=>⟨⟨_,g4,K0.mono zg (by grind [bB.ext])⟩,fun _=>?_⟩⟩,Es,fun k l h=>?_⟩
      .exact(aqN _ _ _ _ _ _ (fun p i=>(K p i).cls) zo).ext zg N
      .have h:k.iK (a1U vs.length) = .ok l:=h;grind [P.as9,List.length_range]
def aTk{a:Int}(h:as8 w v c a)(d:CJ w):Calls bbN 23 #[v] w fun e w'=>Ext w w'/\e = ah (ak #[zi (c:Int),zi a]):=by
 rcases h with⟨b,rfl,f⟩| ⟨rfl,rfl⟩
 .exact amH b c a w f d
 .exact apS c w d
def ZZ(cs:List Cl)(q:Bs)(machine:Bool)(w:Z)(e:Ending)(w':Z):Prop:=Ext w w'/\match KY cs q machine with
 | .err c a=>e = ah (ak #[aq V,.int .i64 (c:Int),.int .i64 a])
 | .ok E st names=>∃ qb,e = ah (ak #[ptr qb,.int .i64 0,.int .i64 (-1)])/\ZY names w w' qb E st
def aTl(q:Bs)(machine:Bool){cs:List Cl}(h:q.length<=100000)(i:IN w)(hC:mY w w.heap.size)(j:B0 w)(k:lZ w)(l:F7 w)(m:CJ w)(hx:Jj w xb cs)(n:∀ c∈cs,P.qM c)(o:cs.length<=40) :
  Calls bbN 15 #[pp xb,aT q,.bool machine] w (ZZ cs q machine w):=by
 suffices H:∀ R:Ending->Z->Prop,(∀ e w',ZZ cs q machine w e w'->R e w')->Calls bbN 15 #[pp xb,aT q,.bool machine] w R from H _ zg;intro R b;refine aKQ ?_;refine(aTh q machine h i hC j k l hx n o).mono ?_;rintro e w1 ⟨p,d⟩;unfold ZZ at b;cases hr:KY cs q machine with
 | err c a=>
  rw[hr] at d b;obtain⟨v,rfl,f⟩:=d;refine bH ?_;refine(aTk f (m.ext p)).mono ?_;rintro e w2 ⟨g,rfl⟩;refine bH ?_;exact b _ _ yF
 | ok E st names=>
  rw[hr] at d b;obtain⟨qb,rfl,f,r⟩:=d;refine bH ?_;refine(adq w1).mono ?_;rintro e w2 ⟨g,rfl⟩;refine bH ?_;exact b _ _ ⟨yF,qb,J,f.ext g,r⟩
open Go.Proofs.YtoegidfbnkaabaaGreatDoor.Sx
section
variable{p0 p1 p2 p3 p4 p5 p6 p7:Y}{w:Z}{R:Ending->Z->Prop}
def aTm:=cz w R [p0,p1] (gc [] [(2001,[0])] [6]) func11
def atc:=cz w R [p0] (gc [] [] [7,20]) func18
def aTn:=cz w R [p0,p1,p2] (gc [] [] [2,21,26,32]) func20
def aTo:=cz w R [p0,p1,p2,p3,p4] (gc [] [(5001,[11]),(7001,[12]),(19000,[79]),(20015,[15,16])] [4,10,16,34,38,50,51,52,64,77,78,79,83,84,88,89,93,94,115,119,124,125,140,154,157,158,159]) func5
end
structure HH(w:Z):Prop where
 two:IN w
 cmp:mY w w.heap.size
 num:B0 w
 pow:lZ w
 len:F7 w
 err:CJ w
 gp:4<w.heap.size
 ge:0<w.heap.size
theorem HH.ext{w w':Z}(h:HH w)(a:Ext w w'):HH w':=
 ⟨h.two.ext a,⟨a1W h.cmp.lt a.size,(h.cmp.ext fun b o _=>a.ext b o).cell⟩,h.num.ext a,h.pow.ext a,h.len.ext a,h.err.ext a,a1W h.gp a.size,a1W h.ge a.size⟩
def aTp{X:Ez E}(L:Jh X){q b:Qs E}{a:Bs×Nat}(e:q.1=V->X.Good c q.2/\nC (E.sr q.2).tr)(g:c<=700)(h:AK E vars d f q=O (a,b)):b.1=V->X.Good (c+1) b.2:=by
 unfold AK at h;split at h
 .grind
 .rename_i he;obtain⟨e,ht⟩:=e he;split at h
  .grind
  .grind
  .grind
  .rename_i k i;split at h
   .grind
   .split at h
    .grind
    .grind
    .simp only[a1o,a1P] at h;obtain⟨-,rfl⟩:=h;exact fun _=>(L.EV e g ht i).2 _
def Live(names:List Bs)(w1 w:Z)(qb:Nat)(E:En)(q:Qs E)(c:Nat):Prop:=
 ∃ X:Ez E,(Jh X/\YT X)/\qb≠X.eb/\w1.heap.size<=qb/\Ext w1 w/\(q.1=V->X.Good c q.2)/\KN names/\(∀ k l,E.told k = .ok l->l.length=names.length)/\∃ ρ,EA X (fun b=>w1.heap.size<=b) ρ qb names w q
def ZY.live{st:E.St}(h:ZY vars w w' qb E st)(a:Ext w w'):Live vars w w' qb E (V,st) 0:=by
 obtain⟨⟨X,L,b,c,f,ρ,g⟩,d,e⟩:=h;exact⟨X,L,b,c,a,zg,d,e,ρ,yH⟩
def aTq(h:Ext w1 w)(a:Lv D qb w w')(hD:∀ b,D b->w1.heap.size<=b)(e:w1.heap.size<=qb):Ext w1 w':=
 ⟨a.os.trans h.os,a.tape.trans h.tape,a.output.trans h.output,Nat.le_trans h.size a.size,fun b o c _=>a.block b o (h.ext b o c) (by
  have:=bg c;rintro (⟨d,-⟩| d)<;>grind)⟩
def aTr{q j:Qs E}{i:Bs×Nat}(h:Live vars w1 w qb E q c)(a:HH w1)(k:c<=700)(hr:AK E vars d f q=O (i,j)) :
  Calls bbN 16 #[ptr qb] w fun e w'=>e = ah (ak #[aT i.1,zi ((i.2:Nat):Int)])/\Live vars w1 w' qb E j (c+1):=by
 obtain⟨X,L,l,m,b,n,g,o,ρ,p⟩:=h;have s1:=b.size;refine(aM1 L.1 p yH (by have:=a.gp;omega) (by have:=a.ge;omega) (a.pow.ext b) (a.err.ext b) l (by have:=a.gp;omega) (by have:=a.ge;omega) n k (fun nm r=>⟨(g.2 nm r).1,by have:=(g.2 nm r).2;omega⟩) g.1 o hr).mono ?_;rintro e w' ⟨s,rfl,eM,t⟩;refine⟨J,X,L,l,m,aTq b s yH m,?_,g,o,eM,t⟩;refine aTp L.1 (fun he=>⟨n he,?_⟩) k hr;obtain⟨cs,tv,-,u⟩:=L.1.st (p.live he);exact u.ok
open Go.ChangeShapes Go.WideShapes Go.ChangeAt Go.WideMaps Go.WideElems
def atd{P:Program}{name:String}{t:Nat}{ss:List (List UInt8)}(d:P.globalNamed name=O g)(ht:(P.globals[g]?).map (·.type)=O t)
  (hu:P.underlying t=O (.array n e)) (he:P.underlying e=O .string) (j:P.cellsOf e=1) (C:P.cellsOf t=n)
  (h:laidMet P [(name,.agg (ss.map fun s=>.lit (.string s)))] W):∃ cs T z,W.heap[g]?=O (ae cs T z)/\cs.toList=ss.map fun s=>.string ⟨s.toArray⟩:=by
 obtain⟨ps,⟨D,E,cs,f,p,q,k,l,hv,o,-,-⟩,-,-⟩:=h;obtain rfl:=a1w (d.symm.trans k);obtain rfl:=a1w (ht.symm.trans l);have r:∃ T z,W.heap[g]?=O (ae cs T z):=by
  grind [World.var?,a1o]
 obtain⟨T,z,u⟩:=r;obtain⟨xs,m,rfl,hx,F,H,w⟩:=DataW.trod_array hu o;simp only[a1P,DataW.agg.injEq] at hx;have hlen:ss.length=xs.length:=by have:=congrArg List.length hx.1;simpa using this
 refine⟨cs,T,z,u,?_⟩;refine List.ext_getElem zg fun i x I=>?_;have hi:i<n:=zo;have a:=w i hi;have y:(cs.toList.drop (i*P.cellsOf e)).take (P.cellsOf e)=[cs.toList[i]]:=by
  rw[j,Nat.mul_one,a1y x];rfl
 rw[y,a1u zo] at a;obtain⟨s,b,B,-⟩:=DataW.trod_string he a;simp only[a3T,and_true] at b;have c:(ss.map fun s=>(DataW.lit (.string s):DataW Unit))[i]' zg=(xs.map (·.1))[i]' zg:=by
  grind
 simp only[List.getElem_map,B,DataW.lit.injEq,Lit.string.injEq] at c;rw[b,List.getElem_map,c]
def Rz{P:Program}{l:List (String×DataW Unit)}{name:String}{d:DataW Unit}(h:laidMetH P l W)(a:(l.filter fun x=>x.1 == name)=[(name,d)])(b:d.handleName?.isNone=A) :
  laidMet P [(name,d)] W:=by
 have c:=h.filter fun x=>x.1 == name;grind [MakeChecks.laidMetH_plain]
def aTs:Tryz.prog.globalNamed "horn/syntax.signs" = O 1:=zk
def ate:Tryz.prog.globalNamed "horn/syntax.levels" = O 2:=zk
def aTt:Tryz.prog.globalNamed "horn/syntax.compare" = O 3:=zk
def aTu:Tryz.prog.globalNamed "errors.errorType" = O 0:=zk
def Tryz.rt:(Tryz.prog.cutTypes.find? (·.1 == "internal/reflectlite.rtype")).map (·.2)=O 219:=zk
def aTv:((a1U (476-100)).filter fun t=>Tryz.prog.rowNamed t [101,114,114,111,114])=[57]:=zk
theorem Tryz.size:Tryz.prog.types.size=476-100:=zk
def aTw{l:List (String×DataW Unit)}(h:laidMetH bbN l W)(c:(l.filter fun x=>x.1 == "errors.errorType")=[("errors.errorType",Rows.laid_errors_errorType)]):CJ W:=by
 have a:=h.filter fun x=>x.1 == "errors.errorType";rw[c] at a;have d:laidMet bbN [] W/\handlesMet bbN [("errors.errorType",Rows.laid_errors_errorType)] W:=a;obtain⟨name,u,ty,e,f,j,k,b⟩:=d.2 _ (a1K.2 J);have g:name=[101,114,114,111,114]:=(a1w e).symm;subst g;obtain rfl:=a1w (Tryz.rt.symm.trans f);have hm:ty∈(a1U (476-100)).filter fun t=>Tryz.prog.rowNamed t [101,114,114,111,114]:=(by grind [Tryz.size]);rw[aTv] at hm;obtain rfl:=a1K.1 hm;have i:typeHandle bbN 57=pq 12 57:=zk;rw[i] at b;unfold CJ;simpa using World.var?_cell aTu b 0
def aTx{l:List (String×DataW Unit)}(h:laidMetH bbN l W)(b:(l.filter fun x=>x.1 == "horn/syntax.signs")=[("horn/syntax.signs",Rows.laid_horn_syntax_signs)]):M9 W:=by
 have c:=Rz h b J;obtain⟨cs,T,z,d,a⟩:=atd (ss:=nH) aTs (t:=_) (e:=9) (n:=23) J J underlying9 zk zk c;refine⟨cs,T,z,d,?_,?_⟩
 .rw[<- Array.length_toList,a];decide
 .rw[a];rfl
def aTy{l:List (String×DataW Unit)}(h:laidMetH bbN l W)(b:(l.filter fun x=>x.1 == "horn/syntax.compare")=[("horn/syntax.compare",Rows.laid_horn_syntax_compare)]):mY W W.heap.size:=by
 have c:=Rz h b J;obtain⟨cs,T,z,a,d⟩:=atd (ss:=Mr) aTt (t:=_) (e:=9) (n:=9) J J underlying9 zk zk c;refine⟨bg a,fun j f=>?_⟩;have g:cs[j]?=cs.toList[j]?:=zg;simp only[a19,a];rw[bM zs,g,d,List.getElem?_map,a1X,a1u (show j<Mr.length from f)];rfl
def aTz{P:Program}{t:Nat}{ss:List (List UInt8)}{x:List MemPlace}(hu:P.underlying t=O (.slice e))(he:P.underlying e=O .string)(d:P.cellsOf e=1)(g:0<ss.length)
  (h:DataW.trod (fun _=>()) P W 0 (fun _=>A) G f t [v]=O (.slice (ss.map fun s=>.lit (.string s)) [],x)) :
  ∃ b o c,b<W.heap.size/\v = .slice (O ⟨b,o,V⟩) ss.length c/\∀ j,j<ss.length->W.cell? ⟨b,o+j,V⟩=O (.string ⟨(ss.getD j []).toArray⟩):=by
 obtain⟨a,cap,i,-,k⟩:=open_row hu d h;simp only[a3T,and_true,List.length_map] at i;have key:∀ j,j<ss.length->W.cell? (a.add j)=O (.string ⟨(ss.getD j []).toArray⟩):=fun j l=>by
  obtain⟨u,n,q,m,c2⟩:=k j (.lit (.string ss[j])) zg;obtain⟨s,d1,d2,-⟩:=DataW.trod_string he c2;simp only[a3T,and_true] at d1;simp only[a1P,DataW.lit.injEq,Lit.string.injEq] at d2;rw[m,d1,a1X,a1u l,Option.getD_some,d2.1]
 have w:=key 0 g;obtain⟨b,o,sp⟩:=a;have p:sp=none:=by
  cases sp with
  | none=>rfl
  | some y=>
   grind [a19,Addr.add]
 subst p;have r:∀ j,(⟨b,o,V⟩:Addr).add j=⟨b,o+j,V⟩:=(by grind [Addr.add]);grind [a19,Array.getElem?_eq_some_iff]
def aTA{l:List (String×DataW Unit)}(h:laidMetH bbN l W)(g:(l.filter fun x=>x.1 == "horn/syntax.levels")=[("horn/syntax.levels",Rows.laid_horn_syntax_levels)]):Al W W.heap.size:=by
 obtain⟨ps,⟨H,I,cs,f,p,q,j,k,hv,r,-,-⟩,-,-⟩:=Rz h g J;obtain rfl:=a1w (ate.symm.trans j);obtain rfl:=a1w ((show(Tryz.prog.globals[2]?).map (·.type)=O _ from J).symm.trans k);obtain⟨xs,m,rfl,hx,u,K,w⟩:=DataW.trod_array (n:=2) (e:=39) J r;have y:∃ T z,W.heap[2]?=O (ae cs T z):=by
  simp only[World.var?,ate,Option.bind_some] at hv;split at hv
  .simp only[a1o] at hv;subst hv;exact⟨_,_,by assumption⟩
  .cases hv
 obtain⟨T,z,a⟩:=y;have B:Tryz.prog.cellsOf 39=1:=zk;have L:cs.toList.length=2:=by rw[u];kernel_rfl
 simp only[a1P,Rows.laid_horn_syntax_levels,DataW.agg.injEq] at hx;refine⟨bg a,fun i hi=>?_⟩;have d:=w i hi;have C:(cs.toList.drop (i*Tryz.prog.cellsOf 39)).take (Tryz.prog.cellsOf 39)=[cs.toList[i]]:=by
  rw[B,Nat.mul_one,a1y zo];rfl
 rw[C,a1u zo] at d;have D:xs[i].1 = .slice ((P.ops i).map fun s=>.lit (.string s)) []:=by
  have:(xs.map (·.1))[i]' zg=xs[i].1:=zs;rw[<- this];simp only[<- hx.1]
  match i,hi with
  | 0,_=>rfl
  | 1,_=>rfl
 obtain⟨b,o,c,E,M,F⟩:=aTz (ss:=P.ops i) (x:=xs[i].2) (t:=39) (e:=9) underlying39 underlying9 zk (by grind [P.ops]) (by rw[d,<- D]);refine⟨b,o,c,E,?_,F⟩;simp only[a19,a];grind
def aTB:Tryz.prog.globalNamed "strconv.ErrSyntax" = O 6:=zk
def aTC:Tryz.prog.globalNamed "strconv.ErrRange" = O 7:=zk
def aTD{l:List (String×DataW Unit)}(h:laidMetH bbN l W)(a:(l.filter fun x=>x.1 == "internal/strconv.uint64pow10")=[("internal/strconv.uint64pow10",Rows.laid_internal_strconv_uint64pow10)]):lZ W:=by
 have b:=Rz h a J;exact Lib.tabIs_of_head (zs:=Lib.pow10Tab) (k:=.u64) (n:=20) aei (t:=_) (e:=261) J J J zk zk b
def atf{nm a:String}{d:DataW Unit}{ms:Array (String×TypeId)}{t:TypeId}(b:Tryz.prog.globalNamed nm=O g)(ht:(Tryz.prog.globals[g]?).map (·.type)=O t)(hu:Tryz.prog.underlying t=O (.interface ms))(h:laidMet bbN [(nm,.iface a d)] W):∃ t1 p1,W.cell? ⟨g,0,V⟩=O (aj t1 p1):=by
 obtain⟨ps,⟨k,l,cs,f,p,q,c,e,hv,i,-,-⟩,-,-⟩:=h;obtain rfl:=a1w (b.symm.trans c);obtain rfl:=a1w (ht.symm.trans e);obtain⟨f1,u,v,m,-⟩:=iface_of_trod hu i;have j:cs=#[aj u v]:=zg;subst j;exact⟨u,v,by simpa using World.var?_cell b hv 0⟩
def aTF(h:W.ShapedOpen bbN):F7 W:=cell_of_shapedOpen_int (g:=5) (t:=3) (k:=.i64) h (Nat.le_of_ble_eq_true zk) (zero:=#[zi 0]) zk J zk zk zk
def aTG{l:List (String×DataW Unit)}(h:laidMetH bbN l W)(c:W.ShapedOpen bbN)(d:(l.filter fun x=>x.1 == "horn/syntax.signs")=[("horn/syntax.signs",Rows.laid_horn_syntax_signs)])
  (e:(l.filter fun x=>x.1 == "horn/syntax.levels")=[("horn/syntax.levels",Rows.laid_horn_syntax_levels)]) (f:(l.filter fun x=>x.1 == "horn/syntax.compare")=[("horn/syntax.compare",Rows.laid_horn_syntax_compare)])
  (g:(l.filter fun x=>x.1 == "internal/strconv.uint64pow10")=[("internal/strconv.uint64pow10",Rows.laid_internal_strconv_uint64pow10)]) (i:(l.filter fun x=>x.1 == "errors.errorType")=[("errors.errorType",Rows.laid_errors_errorType)])
  (j:(l.filter fun x=>x.1 == "strconv.ErrSyntax")=[("strconv.ErrSyntax",Rows.laid_strconv_ErrSyntax)]) (k:(l.filter fun x=>x.1 == "strconv.ErrRange")=[("strconv.ErrRange",Rows.laid_strconv_ErrRange)]):HH W:=by
 have b:=aTw h i;have m:=aTD h g;obtain⟨t1,p1,n⟩:=atf aTB (t:=57) J underlying57 (Rz h j J);obtain⟨t2,p2,o⟩:=atf aTC (t:=57) J underlying57 (Rz h k J);have lt:∀ {a:Addr} {v:Y},W.cell? a=O v->a.block<W.heap.size:=(by grind [a19,bg]);refine⟨⟨aTA h e,aTx h d⟩,aTy h f,⟨t1,p1,t2,p2,n,o⟩,m,aTF c,b,?_,lt b⟩;grind
end Go.Proofs.YtoegidfbnkaabaaGreatDoor
namespace Go.Proofs.YtoegidfbnkaabaaGreatDoor
open P
open Go.ChangeShapes Go.WideShapes Go.RowKit
variable{fn:Func}{xE:Bool}{w w' w0:Z}
def Tryz.own:ownKnob Tryz.prog.godebug=none:=zk
def aTH(h:Ext w w')(may:MemPlace->Prop):w.keptBut w' may:=by
 refine⟨h.os,h.output,fun i hi=>?_⟩;have e:=h.ext i _ (Array.getElem?_eq_getElem hi);grind
def aTI{P:Program}{laid:List (String×DataW Unit)}(a:w'.heap=(w0.layVars P laid).heap)(b:w0.layFits P laid []=A)(hi:w0.layIfaces P laid w'=A):laidMet P laid w':=by
 have c:(laid.filter fun x=>(laid.map (·.1)).contains x.1)=laid:=List.filter_eq_self.2 zg;have d:(laid.filter fun x=>!(laid.map (·.1)).contains x.1)=[]:=List.filter_eq_nil_iff.2 zg;exact laidMet_layVars (w0:=w0) (laid.map (·.1)) [] zg zg zg (by grind [LaidIn.none])
noncomputable def wH(os:Os):Z:=
 let w0:=World.holding bbN os ⟨#[],#[],[]⟩
 { w0 with heap:=w0.heap.modify 0 fun
  | ae _ t frozen=>ae #[aj 219 (.agg #[aq (O ⟨12,57,V⟩)])] t frozen
  | o=>o }
noncomputable def Z0(l:List (String×DataW Unit))(os:Os):Z:=(wH os).layVars bbN (l.filter fun x=>x.2.handleName?.isNone)
def aTJ(l:List (String×DataW Unit))(os:Os):(Z0 l os).os=os:=World.layVars_os _ _ _
def aTK{H:Type}{enc:TypeId×Y->H}{a:Assume}{C:Checked}{os:Os}{f:FuncId}{s:ChangeSpec}{conds:List PathCond}{fresh handsOn again:Bool}{X:Z->Array Y->Prop}
  (n:∀ (w w':Z) (args:Array Y),w.heap=w'.heap->X w args->X w' args)
  (own:ownKnob C.prog.godebug=V) (started:os.Started) (b:C.prog.inits.idxOf? f=V) (c:C.prog.funcs[f]?=O fn)
  (witness:∃ (w:Z) (tape:Tape) (i:Input),w.os=os/\(w.forCall tape i).Shaped C.prog/\i.vars=[]/\Input.okWide C.prog (w.forCall tape i) .any w.heap.size f i /\
   ((s.pre enc C.prog fn conds xE (w.forCall tape i).memory i.args/\X (w.forCall tape i).memory i.args)/\sizedMet enc C.prog fn (OpenSpec.ofChange s) xE (w.forCall tape i).memory i.args)/\a.holds C.prog (lone (Frame.enter C.prog f i.args .normal) [] (w.forCall tape i)))
  (d:∀ (W:Z) (base:Nat) (args:Array Y) (ds gs:List (DataW H)) (before:List MemPlace),
   (∀ (j:Nat) t v,fn.params[j]?=O t->args[j]?=O v->Value.okWide C.prog W .any base t v)->DataW.Whole enc C.prog fn.params.toList s.vars xE W args.toList ds gs before ->
   (DataW.weightsEach C.prog (fn.params.toList++s.plain.varTypes C.prog) (ds++gs)).all (·<=reachBytes)=A->X W args->W.ShapedOpen C.prog ->
   Calls C.prog f args W fun e m=>∃ v,e = ah v/\s.post enc C.prog fn xE fresh handsOn again W args v m) :
  ReturnsInHanded a C os f .any (fun w args=>(s.pre enc C.prog fn conds xE w args/\X w args)/\sizedMet enc C.prog fn (OpenSpec.ofChange s) xE w args) (s.post enc C.prog fn xE fresh handsOn again):=by
 refine returnsInHanded_of_calls own started b witness ?_;intro w tape i _ o _ p g _;obtain⟨_,_,_,h,k,_,_,_,_,q⟩:=p;obtain rfl:h=fn:=a1w (k.symm.trans c);obtain⟨⟨⟨ds,gs,before,hw,-⟩,hx⟩,r⟩:=g;have l:=DataW.Whole.of_heap (w':=w.forCall tape i) (by rfl) hw;refine(d (w.forCall tape i) w.heap.size i.args ds gs before q l (r.weights hw) (n _ _ _ (by rfl) hx) o).mono fun e m ⟨v,he,u⟩=>?_;grind [ChangeSpec.post_blind]
def aTQ(os:Os)(args:Array Y):laidMetH bbN Rows.knownRow.laid ((Z0 Rows.knownRow.laid os).forCall (fun _ _=>0) ⟨#[],args,[]⟩).memory:=
 laidMetH_of_parts (aTI (w0:=wH os) (by simp [World.memory,World.forCall,Input.heap,Z0]) zk zk) zk
end Go.Proofs.YtoegidfbnkaabaaGreatDoor
namespace Go.Proofs.YtoegidfbnkaabaaGreatDoor
open P
open Go.RowKit Sx
variable{F:Nat->Prop}{K:Y->Prop}{X:Y->Z->Prop}{d f how k n xb z:Nat}{s:Bs}{v:Y}{vs:List Y}{w:Z}{y:Operand}
theorem aTR{cs:List Cl}(a:w.heap[xb]?=aO #[v] 72)(b:fJ F w 79 v vs)(c:km F w vs cs):Jj w xb cs:=
 ⟨v,vs,a,b.mono zg yH,km.mono zg (fun _ _ _ _ _ d=>d) _ _ c⟩
def aTS(s:Bs){w:Z}(f:s.length<=100000)(b:HH w):Calls bbN 12 #[.string (bs s)] w fun e w'=>Ext w w'/\match P.program s with
  | .err c a=>e = ah (ak #[aq V,.int .i64 (c:Int),.int .i64 (a:Int)])
  | .ok cs _ _=>∃ xb,e = ah (ak #[ptr xb,.int .i64 0,.int .i64 (-1)])/\Jj w' xb cs:=by
 refine(aHG s w f ⟨b.two.Gt,b.cmp,b.two.sig⟩ b.err).mono ?_;rintro e w' ⟨g,d⟩;refine⟨g,?_⟩;cases hr:P.program s with
 | err c a=>grind
 | ok cs k v=>
  rw[hr] at d;obtain⟨xb,bv,vs,rfl,h,-,i,j⟩:=d;exact⟨xb,J,(by grind [aTR])⟩
def aTT(q:Bs)(b:Bool){cs:List Cl}{v:List Bs}(d:q.length<=100000)(a:HH w)(hx:Jj w xb cs)(c:P.program s = .ok cs k v) :
  Calls bbN 15 #[pp xb,aT q,.bool b] w (ZZ cs q b w):=
 aTl q b d a.two a.cmp a.num a.pow a.len a.err hx (P.as7 c).2 (P.as7 c).1
def aim(s q:Bs)(g:Bool){i:Bs×Nat}(o:s.length<=100000)(p:q.length<=100000)(j:HH w)(h:P.firstT d f s q g=O i) :
  Calls bbN 20 #[aT s,aT q,.bool g] w fun e w'=>Ext w w'/\e = ah (ak #[aT i.1,zi ((i.2:Nat):Int)]):=by
 unfold P.firstT at h;refine aTn ?_;refine(aTS s o j).mono ?_;rintro e w1 ⟨l,b⟩;split at h
 .rename_i e0 a0 hr;cases h;rw[hr] at b;have b:e = ah (ak #[aq V,zi (e0:Int),zi (a0:Int)]):=b;subst b;refine bH ?_;exact yF
 .rename_i cs k v hr;rw[hr] at b;obtain⟨xb,rfl,hx⟩:=b;refine bH ?_;refine a1r (aTT q g p (j.ext l) hx hr) ?_;rintro e w2 ⟨n,c⟩;have x:=l.trans n;split at h
  .rename_i e0 a0 m;cases h;rw[m] at c;have c:e = ah (ak #[aq V,zi (e0:Int),zi a0]):=c;subst c;refine bH ?_;exact yF
  .rename_i E st names m;rw[m] at c;obtain⟨qb,rfl,r⟩:=c;have t:=r.live n;obtain⟨⟨a,y⟩,u,rfl⟩:=Option.map_eq_some_iff.1 h;refine bH ?_;refine a1r (aTr t (j.ext l) zo u) ?_;rintro e w3 ⟨rfl,X,-,-,-,z,-⟩;refine bH ?_;exact yF
def OV(c:Int)(n:Nat)(d:-9223372036854775808<=c/\c<=9223372036854775807)(f:0<n)(g:n<=9000000000)(w:Z):Calls bbN 11 #[zi c,zi (n:Int)] w fun e w'=>e = ah (zi ((((if c<0 then -(c+1) else c).toNat % n:Nat)):Int))/\w'=w:=by
 refine aTm ?_;refine⟨fun z w'=>w'=w/\z 0=zi (if c<0 then -(c+1) else c),?_,?_⟩
 .by_cases h:c<0
  .refine cJ h ?_;grind
  .exact fh h
 .rintro z w' ⟨rfl,a⟩ i;rw[a];have b:(n:Int)≠0:=zo;rw[WE _ _ _ b];grind
def ath{P:Program}{t:TypeId}(h:P.underlying t=O .bool){x:Operand}{a b:Bool}:RD P (bo .eql t x y (.bool a) (.bool b)) w K X=K (.bool (a == b)):=by
 have k:∀ d:Nat,(Op.equalIn (d+1) t (.bool a) (.bool b)).run P w = .ok (a == b) w:=fun d=>by
  simp [Op.equalIn,run_underlying h]
 have c:(Op.equal t (.bool a) (.bool b)).run P w = .ok (a == b) w:=k 9999;exact gQ (by cases a<;>cases b<;>simp [bo,eqGuard,binOp,c])
def P.ati:∀ (f g n:Nat),n<f->n<g->sY f n=sY g n
 | 0,_,_,h,_=>zg
 | _+1,0,_,_,h=>zg
 | f+1,g+1,n,a,b=>by
  unfold sY;split
  .rfl
  .rw[P.ati f g (n / 10) zo zo]
def P.aTU(h:¬ n<10):dL n=dL (n / 10)++[a2D (48+n % 10)]:=by
 show sY (n+1) n=sY (n / 10+1) (n / 10)++_;rw[sY,bM h,P.ati n (n / 10+1) (n / 10) zo zo]
theorem P.aTV(h:n<10):dL n=[a2D (48+n)]:=by
 show sY (n+1) n=_;rw[sY,zip h]
def atj(d:Nat)(h:d<10):List.drop d (List.take (d+1) ([48,49,50,51,52,53,54,55,56,57]:Bs))=[a2D (48+d)]:=by
 have:∀ d:Fin 10,List.drop d.val (List.take (d.val+1) ([48,49,50,51,52,53,54,55,56,57]:Bs))=[a2D (48+d.val)]:=zd;exact this ⟨d,h⟩
def atk(w:Z):∀ (n:Nat),n<=9223372036854775807->Calls bbN 18 #[zi (n:Nat)] w fun e w'=>e = ah (aT (dL n))/\w'=w:=by
 intro n;induction n using Nat.strongRecOn with
 | _ n ih=>
  intro i;refine atc ?_;have d:¬ (n:Int)<0:=zo;have hm:(n:Int).tmod 10=((n % 10:Nat):Int):=zg;have f:(n:Int).tdiv 10=((n / 10:Nat):Int):=zg;have g:((n % 10:Nat):Int).toNat=n % 10:=zo;have a:(((n % 10:Nat):Int)+1).toNat=n % 10+1:=zo;have hlt:n % 10<10:=zo;have b:=atj (n % 10) hlt;simp only[List.take_succ_cons] at b;by_cases h:n<10
  .have c:(n:Int)<10:=zo;refine dB @WE @Sq d (zA hm (zA f (zA @g (zA @a b)))) ?_;grind [P.aTV,Nat.mod_eq_of_lt]
  .have c:¬ (n:Int)<10:=zo;refine dB @WE @Sq d (zA hm (zA f (zA @g (zA @a b)))) ?_;refine(ih (n / 10) zo zo).mono ?_;rintro e w' ⟨rfl,rfl⟩;refine bH ?_;have j:(dL (n / 10)).length<=19:=(by grind [Tv]);rw[B9 _ _ zg,P.aTU h,a,atj (n % 10) hlt];grind
def Z1(n:Int)(b:-9223372036854775808<n)(c:n<=9223372036854775807)(w:Z):Calls bbN 18 #[zi n] w fun e w'=>e = ah (aT (gX n))/\w'=w:=by
 by_cases a:n<0
 .refine atc ?_;have hw:IntKind.i64.wrap (0-n)=(n.natAbs:Int):=by grind [we]
  have d:¬ n=(n.natAbs:Int):=zo;refine cJ hw ?_;refine(atk w n.natAbs zo).mono ?_;rintro e w' ⟨rfl,rfl⟩;refine bH ?_;have f:(dL n.natAbs).length<=19:=(by grind [Tv]);rw[B9 _ _ zg];unfold gX;grind
 .have e:n=(n.natAbs:Int):=zo;have:=atk w n.natAbs zo;rw[<- e] at this;refine this.mono ?_;rintro e w' ⟨rfl,rfl⟩;unfold gX;grind
namespace P
def RA(t:Tok)(r:Option (Sum Nat (List Tok))):Option (Sum Nat (List Tok)):=match r with
 | some (.inr l)=>O (.inr (t::l))
 | x=>x
def atl{w r:Bs}{p:Nat}(hw:G2 w)(hr:∀ c,r.head?=O c->cls c=0):jk (f+1) (w++r) p=RA ⟨lK w,w,p⟩ (jk f r (p+w.length)):=by
 obtain⟨a,d⟩:=hw;cases w with
 | nil=>exact absurd J a
 | cons c w=>
  have b:=d c a1A;have e:blank c=false:=by
   cases h:blank c with
   | false=>rfl
   | true=>
    unfold blank at h;simp only[Bool.or_eq_true,beq_iff_eq] at h;rcases h with rfl | rfl<;>exact absurd b zd
  have ht:(c::w++r).takeWhile (fun x=>cls x≠0)=c::w:=by
   have key:∀ (l:Bs),(∀ x∈l,cls x≠0)->(l++r).takeWhile (fun x=>cls x≠0)=l:=by
    intro l;induction l with
    | nil=>
     intro _;cases r with
     | nil=>rfl
     | cons y r=>rw[a2d,List.takeWhile_cons,bM (by have:=hr y J;simpa using this)]
    | cons y l ih=>
     intro h;rw[a1T,List.takeWhile_cons,zip (by simpa using h y a1A),ih fun x hx=>h x (List.mem_cons_of_mem _ hx)]
   grind
  have g:(c::w++r).drop (c::w).length=r:=zs;rw[a1T,jk,<- a1T,e];simp only[Bool.false_eq_true,if_false];rw[zip b,ht,bM a,g];grind [RA,jk]
def aTX{r:Bs}{p:Nat}:jk (f+1) (32::r) p=jk f r (p+1):=rfl
def aTY{s r:Bs}{p:Nat}(a:s∈NG)(hr:r.head?≠O 62):jk (f+1) (s++r) p=RA ⟨4,s,p⟩ (jk f r (p+s.length)):=by
 have h:=aIQ a hr;have b:(s++r).drop s.length=r:=zs;simp only[NG,a1z,a1E,or_false] at a;rcases a with rfl | rfl | rfl | rfl | rfl | rfl | rfl | rfl | rfl | rfl;all_goals
  rw[a1T,jk,<- a1T];rw[bM zd,bM zd,bM (fun h=>absurd h.1 zd),h];simp only[b];unfold RA;generalize jk f r _=y;cases y with
  | none=>rfl
  | some x=>cases x<;>rfl
def aTZ{p:Nat}:jk (f+2) [46] p=O (.inr [⟨4,[46],p⟩,⟨0,[],p+1⟩]):=rfl
def lex_lt{r:Bs}{p:Nat}:jk (f+1) (60::32::r) p=RA ⟨4,[60],p⟩ (jk f (32::r) (p+1)):=by
 have h:nH.find? (fun x=>x.isPrefixOf ((60:UInt8)::32::r))=O [60]:=rfl;have a:((60:UInt8)::32::r).drop [(60:UInt8)].length=32::r:=rfl;rw[jk];rw[bM zd,bM zd,bM (fun h=>absurd h.1 zd),h];grind [RA,jk]
inductive Pc where
 | wd (x:Bs)
 | sg (x:Bs)
 | lt
 | bl
 | nm (x:Bs)
def Pc.text:Pc->Bs
 | .wd s=>s
 | .sg s=>s
 | .lt=>[60]
 | .bl=>[32]
 | .nm x=>x
def mP:List Pc->Bs
 | []=>[46]
 | x::r=>x.text++mP r
def F9:List Pc->Nat->List Tok
 | [],p=>[⟨4,[46],p⟩,⟨0,[],p+1⟩]
 | .wd s::r,p=>⟨lK s,s,p⟩::F9 r (p+s.length)
 | .sg s::r,p=>⟨4,s,p⟩::F9 r (p+s.length)
 | .lt::r,p=>⟨4,[60],p⟩::F9 r (p+1)
 | .bl::r,p=>F9 r (p+1)
 | .nm s::r,p=>⟨3,s,p⟩::F9 r (p+s.length)
def ur:List Pc->Prop
 | []=>True
 | .wd s::r=>(G2 s/\∀ c,(mP r).head?=O c->cls c=0)/\ur r
 | .sg s::r=>(s∈NG/\(mP r).head?≠O 62)/\ur r
 | .lt::r=>(mP r).head?=O 32/\ur r
 | .bl::r=>ur r
 | .nm s::r=>(lK s=3/\G2 s/\∀ c,(mP r).head?=O c->cls c=0)/\ur r
def RB:∀ (L:List Pc) (f p:Nat),ur L->jk (f+L.length+2) (mP L) p=O (.inr (F9 L p))
 | [],f,p,_=>aTZ
 | .wd s::r,f,p,h=>by
  rw[a1x,show f+(r.length+1)+2=f+r.length+2+1 by omega];show jk _ (s++mP r) p=_;rw[atl h.1.1 h.1.2,RB r f _ h.2];rfl
 | .sg s::r,f,p,h=>by
  rw[a1x,show f+(r.length+1)+2=f+r.length+2+1 by omega];show jk _ (s++mP r) p=_;rw[aTY h.1.1 h.1.2,RB r f _ h.2];rfl
 | .lt::r,f,p,h=>by
  rw[a1x,show f+(r.length+1)+2=f+r.length+2+1 by omega];obtain⟨y,c⟩:∃ y,mP r=32::y:=by
   have:=h.1;cases d:mP r with
   | nil=>grind
   | cons a b=>grind
  show jk _ (60::mP r) p=_;have ih:=RB r f (p+1) h.2;rw[c] at ih ⊢;rw[lex_lt,ih];rfl
 | .bl::r,f,p,h=>by
  rw[a1x,show f+(r.length+1)+2=f+r.length+2+1 by omega];show jk _ (32::mP r) p=_;rw[aTX,RB r f _ h];rfl
 | .nm s::r,f,p,h=>by
  rw[a1x,show f+(r.length+1)+2=f+r.length+2+1 by omega];show jk _ (s++mP r) p=_;rw[atl h.1.2.1 h.1.2.2,RB r f _ h.2,h.1.1];rfl
def RC:∀ (L:List Pc),ur L->L.length+1<=(mP L).length
 | [],_=>by simp [mP]
 | .wd s::r,h=>by
  have:=RC r h.2;have a:s≠[]:=fun e=>h.1.1.1 (by rw[e];rfl);grind [List.length_pos_iff,mP,Pc.text,a1v,a1x]
 | .sg s::r,h=>by
  have:=RC r h.2;have a:0<s.length:=by
   have:=h.1.1;simp only[NG,a1z,a1E,or_false] at this;grind
  grind [mP,Pc.text,a1v,a1x]
 | .lt::r,h=>by
  have:=RC r h.2;grind [mP,Pc.text,a1v,a1x,List.length_nil]
 | .bl::r,h=>by
  have:=RC r h;grind [mP,Pc.text,a1v,a1x,List.length_nil]
 | .nm s::r,h=>by
  have:=RC r h.2;have a:s≠[]:=fun e=>h.1.2.1.1 (by rw[e];rfl);grind [List.length_pos_iff,mP,Pc.text,a1v,a1x]
def atm{L:List Pc}(h:ur L):lex (mP L) = .inr (F9 L 0):=by
 have a:=RC L h;have b:=RB L ((mP L).length+1-(L.length+2)) 0 h;grind [mP,lex]
def Gb(n:Int):List Pc:=if n<0 then [.sg [45],.wd (dL n.natAbs)] else [.wd (dL n.natAbs)]
def ain:∀ (a B:List Pc),mP (a++B)=(a.map Pc.text).flatten++mP B
 | [],B=>rfl
 | x::a,B=>by
  show x.text++mP (a++B)=_;rw[ain a B,List.map_cons,List.flatten_cons,a1M]
def atn(n:Int):((Gb n).map Pc.text).flatten=gX n:=by
 grind [Gb,gX,Pc.text]
def aT0(n:Nat):∃ c r,dL n=c::r/\digit c=true:=by
 obtain⟨c,r,h,-⟩:=TI (n+1) n zo;exact⟨c,r,h,(by grind [KU,a1A])⟩
def aio(n:Nat)(r:Bs):(dL n++r).head?≠O 62:=by
 obtain⟨c,t,h,a⟩:=aT0 n;rw[h];intro e;injection e with e;have e:c=62:=e;subst e;exact absurd a zd
theorem ur.num{n:Int}(d:-999999999<=n)(f:n<=999999999){L:List Pc}(a:ur L)(b:∀ c,(mP L).head?=O c->cls c=0):ur (Gb n++L)/\(mP (Gb n++L)).head?≠O 62:=by
 obtain⟨-,hw⟩:=I0 (n:=n.natAbs) zo;unfold Gb;split
 .refine⟨⟨⟨zd,?_⟩,⟨hw,b⟩,a⟩,by intro e;injection e with e;grind⟩;exact aio _ _
 .exact⟨⟨⟨hw,b⟩,a⟩,aio _ _⟩
def pN:Nat->Bs
 | 0=>[43]
 | 1=>[45]
 | 2=>[42]
 | 3=>[47,47]
 | _=>[109,111,100]
def OW:Nat->Bs
 | 0=>[43]
 | 1=>[45]
 | 2=>[42]
 | 3=>[47,47]
 | _=>[32,109,111,100,32]
def JM:Nat->List Pc
 | 0=>[.sg [43]]
 | 1=>[.sg [45]]
 | 2=>[.sg [42]]
 | 3=>[.sg [47,47]]
 | _=>[.bl,.wd [109,111,100],.bl]
def ato(h:Nat):((JM h).map Pc.text).flatten=OW h:=by
 unfold JM OW;split<;>rfl
def VX(how:Nat)(x y:Int)(z:Nat):List Pc:=.wd [88]::.bl::.wd [105,115]::.bl::(Gb x++(JM how++(Gb y++[.sg [43],.wd (dL z)])))
def VY(how:Nat)(x y:Int)(z:Nat):List Pc:=Gb x++(JM how++(Gb y++[.bl,.lt,.bl,.wd (dL z)]))
def Mi(how:Nat)(x y:Int)(z:Nat):Bs:=((((([88,32,105,115,32]++gX x)++OW how)++gX y)++[43])++dL z)++[46]
def OX(how:Nat)(x y:Int)(z:Nat):Bs:=(((((gX x++OW how)++gX y)++[32,60,32]))++dL z)++[46]
def aT1(how:Nat)(x y:Int)(z:Nat):mP (VX how x y z)=Mi how x y z:=by
 unfold VX Mi;simp only[mP,Pc.text,ain,atn,ato,a1M,a1T,a2d]
def aT2(how:Nat)(x y:Int)(z:Nat):mP (VY how x y z)=OX how x y z:=by
 unfold VY OX;simp only[mP,Pc.text,ain,atn,ato,a1M,a1T,a2d]
def atp{L:List Pc}(a:ur L)(b:(mP L).head?≠O 62):ur (JM how++L)/\∀ c,(mP (JM how++L)).head?=O c->cls c=0:=by
 unfold JM;split
 .exact⟨⟨⟨zd,b⟩,a⟩,fun c h=>by cases h;decide⟩
 .exact⟨⟨⟨zd,b⟩,a⟩,fun c h=>by cases h;decide⟩
 .exact⟨⟨⟨zd,b⟩,a⟩,fun c h=>by cases h;decide⟩
 .exact⟨⟨⟨zd,b⟩,a⟩,fun c h=>by cases h;decide⟩
 .exact⟨⟨⟨⟨zd,zd⟩,fun c h=>by cases h;decide⟩,a⟩,fun c h=>by cases h;decide⟩
structure j8(x:Int):Prop where
 lo:-999999999<=x
 hi:x<=999999999
def aT3{x y:Int}(hx:j8 x)(a:j8 y)(b:z<=999999999):ur (VX how x y z):=by
 obtain⟨-,hw⟩:=I0 (n:=z) b;have d:ur [.sg [43],.wd (dL z)]:=⟨⟨zd,aio _ _⟩,⟨hw,fun c h=>by cases h;decide⟩,trivial⟩;obtain⟨e,f⟩:=ur.num a.lo a.hi d (fun c h=>by cases h;decide);obtain⟨g,i⟩:=atp (how:=how) e f;obtain⟨j,k⟩:=ur.num hx.lo hx.hi g i;exact⟨⟨⟨zd,zd⟩,fun c h=>by cases h;decide⟩,⟨⟨zd,zd⟩,fun c h=>by cases h;decide⟩,j⟩
def aT4{x y:Int}(hx:j8 x)(a:j8 y)(b:z<=999999999):ur (VY how x y z):=by
 obtain⟨-,hw⟩:=I0 (n:=z) b;have d:ur [.bl,.lt,.bl,.wd (dL z)]:=⟨J,⟨hw,fun c h=>by cases h;decide⟩,trivial⟩;obtain⟨e,f⟩:=ur.num a.lo a.hi d (fun c h=>by cases h;decide);obtain⟨g,i⟩:=atp (how:=how) e f;exact(ur.num hx.lo hx.hi g i).1
def VZ(x:Int):Ex:=.mk 110 [] x 0 []
def Z2(op:Bs)(x y:Int)(z:Int):List Ex:=[.mk 99 op 0 0 [VZ x,VZ y],VZ z]
def RE(op:Bs)(x y z:Int):Bd:=.mk 103 [105,115] [.mk 118 [] 0 0 [],.mk 99 [43] 0 0 (Z2 op x y z)] []
def JO(op:Bs)(x y z:Int):Bd:=.mk 103 [60] (Z2 op x y z) []
def Z3{x:Int}:(x<0->- num (dL x.natAbs)=x)/\(¬ x<0->num (dL x.natAbs)=x):=by
 grind [NI]
def isQ{x y:Int}(hx:j8 x)(d:j8 y)(e:z<=999999999):∃ k,rP (F9 (VX how x y z) 0) = .ok (RE (pN how) x y z) k [[88]]:=by
 obtain⟨l,-⟩:=I0 (n:=x.natAbs) (by have:=hx.lo;have:=hx.hi;omega);obtain⟨m,-⟩:=I0 (n:=y.natAbs) (by have:=d.lo;have:=d.hi;omega);obtain⟨o,-⟩:=I0 (n:=z) e;have f:num (dL z)=z:=NI z;obtain⟨nx,g⟩:=@Z3 x;obtain⟨h,i⟩:=@Z3 y;have w1:lK [88]=2:=zd;have w2:lK [105,115]=1:=zd;have w3:lK [109,111,100]=1:=zd;unfold RE Z2 VZ VX Gb JM pN;generalize dL x.natAbs=a at *;generalize dL y.natAbs=B at *;generalize dL z=C at *;rw[<- f];clear f e hx d;by_cases b:x<0<;>by_cases c:y<0;all_goals
  first | rw[zip b] | rw[bM b]
  first | rw[zip c] | rw[bM c]
  first | have ex:=nx b | have ex:=g b
  first | have j:=h c | have j:=i c
  clear nx g h i b c;subst ex j;split<;>simp only[a1T,a2d,F9,l,m,o,w1,w2,w3]<;>exact⟨_,J⟩
def ltQ{x y:Int}(hx:j8 x)(d:j8 y)(e:z<=999999999):∃ k,rP (F9 (VY how x y z) 0) = .ok (JO (pN how) x y z) k []:=by
 obtain⟨l,-⟩:=I0 (n:=x.natAbs) (by have:=hx.lo;have:=hx.hi;omega);obtain⟨m,-⟩:=I0 (n:=y.natAbs) (by have:=d.lo;have:=d.hi;omega);obtain⟨o,-⟩:=I0 (n:=z) e;have f:num (dL z)=z:=NI z;obtain⟨nx,g⟩:=@Z3 x;obtain⟨h,i⟩:=@Z3 y;have w3:lK [109,111,100]=1:=zd;unfold JO Z2 VZ VY Gb JM pN;generalize dL x.natAbs=a at *;generalize dL y.natAbs=B at *;generalize dL z=C at *;rw[<- f];clear f e hx d;by_cases b:x<0<;>by_cases c:y<0;all_goals
  first | rw[zip b] | rw[bM b]
  first | rw[zip c] | rw[bM c]
  first | have ex:=nx b | have ex:=g b
  first | have j:=h c | have j:=i c
  clear nx g h i b c;subst ex j;split<;>simp only[a1T,a2d,F9,l,m,o,w3]<;>exact⟨_,J⟩
mutual
def V3 (nv:Nat):Tm->Prop
 | .atom s=>s=[91,93]\/(lK s=1/\G2 s)
 | .int n=>-999999999<=n/\n<=999999999
 | .var i=>i<nv
 | .comp name args=>((args.length=2/\name∈[[43],[45],[42],[47,47],[46]])\/(lK name=1/\G2 name))/\args≠[]/\ais nv args
 termination_by structural t=>t
def ais (nv:Nat):List Tm->Prop
 | []=>True
 | t::r=>V3 nv t/\ais nv r
 termination_by structural t=>t
end
def VS(nv:Nat)(s:Ws):Prop:=s.seen.Nodup/\∀ i∈s.seen,i<nv
def CLv(S:List Nat)(least:Nat)(I:List Item)(s0 s1:List Nat)(t:Tm):Prop:=if least<=1 then C0 S I s0 s1 t else if least=2 then C1 S I s0 s1 t else C2 S I s0 s1 t
structure Pcs(s s':Ws)(I:List Item):Prop where
 out:s'.out=s.out++aIP I
 ok:∀ i∈I,i.ok
 sp:sep G I
 pre:s.seen <+: s'.seen
def atq(I:List Item):Prop:=∀ T k,At T k I->dZ T k [93]=G
def PT(nv:Nat)(t:Tm)(least:Nat)(s s':Ws):Prop:=VS nv s'/\∃ I,Pcs s s' I/\atq I/\∀ S:List Nat,S.Nodup->s'.seen <+: S->CLv S least I s.seen s'.seen t
def PA(nv:Nat)(ts:List Tm)(s s':Ws):Prop:=VS nv s'/\∃ I,Pcs s s' I/\sep A I/\∀ S:List Nat,S.Nodup->s'.seen <+: S->CR S I s.seen s'.seen ts
def PB(nv:Nat)(a b:Tm)(c:UInt8)(s s':Ws):Prop:=VS nv s'/\∃ d e,Pcs (s.add [c]) s' (d++e)/\sep G d/\sep A e/\atq d/\∀ S:List Nat,S.Nodup->s'.seen <+: S->∃ sm,C0 S d s.seen sm a/\CL S e sm s'.seen b
section
variable{nv:Nat}(mX:nv<=12)
include mX
structure Rd(nv f:Nat):Prop where
 tm:∀ t least s s',lB [] f t least s=O (O s')->V3 nv t->VS nv s->PT nv t least s s'
 cp:∀ name args least s s',yZ [] f name args least s=O (O s')->V3 nv (.comp name args)->VS nv s->PT nv (.comp name args) least s s'
 ar:∀ ts s s',sZ [] f 44 ts s=O (O s')->ais nv ts->VS nv s->PA nv ts s s'
 li:∀ c a b s s',vw [] f c a b s=O (O s')->V3 nv a->V3 nv b->VS nv s->PB nv a b c s s'
end
def small(s:Bs):Prop:=∃ c r,s=c::r/\cls c=115
def V4(x:Ex):Prop:=(x.kind=97->x.args=[]/\(x.name=[91,93]\/small x.name))/\(x.kind=99->x.name∈[[46],[43],[45],[42],[47,47]]\/small x.name)
structure a0Z(T:List Tok)(f:Nat):Prop where
 Cp:∀ k v d x k' v',oP T f k v d=O (.ok x k' v')->V4 x
 list:∀ k v d x k' v',qu T f k v d=O (.ok x k' v')->V4 x
 oper:∀ l k v d x k' v',iZ T f l k v d=O (.ok x k' v')->V4 x
 more:∀ l y k v d x k' v',V4 y->pj T f l y k v d=O (.ok x k' v')->V4 x
def rn(s:Ws):Ws:={ s with seen:=a1U s.seen.length }
structure Rn(S:List Nat)(f:Nat):Prop where
 tm:∀ t least s s',lB [] f t least s=O (O s')->s.seen <+: s'.seen/\(s'.seen <+: S->lB [] f (KV S t) least (rn s)=O (O (rn s')))
 cp:∀ name args least s s',yZ [] f name args least s=O (O s')->s.seen <+: s'.seen/\(s'.seen <+: S->yZ [] f name (TJ S args) least (rn s)=O (O (rn s')))
 ar:∀ c ts s s',sZ [] f c ts s=O (O s')->s.seen <+: s'.seen/\(s'.seen <+: S->sZ [] f c (TJ S ts) (rn s)=O (O (rn s')))
 li:∀ c a b s s',vw [] f c a b s=O (O s')->s.seen <+: s'.seen/\(s'.seen <+: S->vw [] f c (KV S a) (KV S b) (rn s)=O (O (rn s')))
mutual
def RF (nv:Nat):Ex->Prop
 | .mk kind name n k args=>(kind=97/\(name=[91,93]\/(lK name=1/\G2 name)))\/(kind=110/\-999999999<=n/\n<=999999999)\/(kind=118/\k<nv) \/
  (kind=99/\((args.length=2/\name∈[[43],[45],[42],[47,47],[46]])\/(lK name=1/\G2 name))/\args≠[]/\RG nv args)
 termination_by structural x=>x
def RG (nv:Nat):List Ex->Prop
 | []=>True
 | x::r=>RF nv x/\RG nv r
 termination_by structural x=>x
end
structure TkW(T:List Tok):Prop where
 word:∀ u∈T,u.kind=1->lK u.text=1/\G2 u.text
 num:∀ u∈T,u.kind=3->u.text.all digit=A/\u.text.length<=9
structure COk(T:List Tok)(f:Nat):Prop where
 Cp:∀ k v d x k' v',oP T f k v d=O (.ok x k' v')->RF v'.length x/\v.length<=v'.length
 args:∀ k v d a acc x k' v',RG v.length acc->oQ T f k v d a acc=O (.ok x k' v')->RG v'.length x/\v.length<=v'.length/\x≠[]
 list:∀ k v d x k' v',qu T f k v d=O (.ok x k' v')->RF v'.length x/\v.length<=v'.length
 elems:∀ k v d acc x k' v',RG v.length acc->q8 T f k v d acc=O (.ok x k' v')->RG v'.length x/\v.length<=v'.length
 oper:∀ l k v d x k' v',iZ T f l k v d=O (.ok x k' v')->RF v'.length x/\v.length<=v'.length
 more:∀ l y k v d x k' v',RF v.length y->pj T f l y k v d=O (.ok x k' v')->RF v'.length x/\v.length<=v'.length
def Gc:Cl:=⟨[97],[],.mk 103 [116,114,117,101] [] [],[]⟩
def att:program pA = .ok [Gc] 2 []:=zk
def atu(z:Int):Bs×Nat:=([88,32,61,32]++gX z,0)
def OZ(how:Nat)(x y z:Int):Bs×Nat:=match reckon (pN how) x y with
 | .ok v=>atu (wrap64 (v+z))
 | .error _=>([],9)
theorem isWalk:∀ {how:Nat} (_:how<5) (x y z:Int),(AK (KM [Gc] 1) [[88]] 2000 20000 (V,Wk.new (RE (pN how) x y z) 1)).map Prod.fst=O (OZ how x y z)
 | 0,_,x,y,z=>zk
 | 1,_,x,y,z=>zk
 | 2,_,x,y,z=>zk
 | 3,_,x,.ofNat 0,z=>zk
 | 3,_,x,.ofNat (n+1),z=>zk
 | 3,_,x,.negSucc n,z=>zk
 | 4,_,x,.ofNat 0,z=>zk
 | 4,_,x,.ofNat (n+1),z=>zk
 | 4,_,x,.negSucc n,z=>zk
def HT(how:Nat)(x y z:Int):Co:=⟨7,[⟨[110,101,119],[],V,[0]⟩,⟨[109,97,114,107],[],V,[1]⟩,⟨[112,117,116],[],O (.int x),[2]⟩,⟨[112,117,116],[],O (.int y),[3]⟩,⟨[109,97,107,101],pN how,V,[4,2,3]⟩,⟨[112,117,116],[],O (.int z),[5]⟩,⟨[109,97,107,101],[43],V,[6,4,5]⟩,⟨[116,101,115,116],[105,115],V,[0,6]⟩,⟨[100,111,110,101],[],V,[]⟩]⟩
def B4(how:Nat)(x y z:Int):Co:=⟨5,[⟨[109,97,114,107],[],V,[0]⟩,⟨[112,117,116],[],O (.int x),[1]⟩,⟨[112,117,116],[],O (.int y),[2]⟩,⟨[109,97,107,101],pN how,V,[3,1,2]⟩,⟨[112,117,116],[],O (.int z),[4]⟩,⟨[116,101,115,116],[60],V,[3,4]⟩,⟨[100,111,110,101],[],V,[]⟩]⟩
def aUa(x y z:Int):zb [] (RE (pN how) x y z) 1 A=O (HT how x y z):=zk
def aUb(x y z:Int):zb [] (JO (pN how) x y z) 0 A=O (B4 how x y z):=zk
theorem aUc(l:List Pd):∀ {how:Nat} (_:how<5) (x y z:Int),(AK (KX l 1) [[88]] 2000 20000 (V,zf (HT how x y z))).map Prod.fst=O (OZ how x y z)
 | 0,_,x,y,z=>zk
 | 1,_,x,y,z=>zk
 | 2,_,x,y,z=>zk
 | 3,_,x,.ofNat 0,z=>zk
 | 3,_,x,.ofNat (n+1),z=>zk
 | 3,_,x,.negSucc n,z=>zk
 | 4,_,x,.ofNat 0,z=>zk
 | 4,_,x,.ofNat (n+1),z=>zk
 | 4,_,x,.negSucc n,z=>zk
def ltK:Wk:=⟨0,⟨[],999995⟩,[],[]⟩
def HU(how:Nat)(x y:Int):Int:=match reckon (pN how) x y with
 | .ok v=>v
 | .error _=>0
def ltW:∀ {how:Nat} (_:how<5) (x y z:Int) (_:how<3\/y≠0),kq [Gc] 2000 20000 A { Wk.new (JO (pN how) x y z) 0 with sr:=⟨[],1000000⟩ }=kq [Gc] 2000 19999 (Fg [60] (HU how x y) z) ltK
 | 0,_,x,y,z,_=>zk
 | 1,_,x,y,z,_=>zk
 | 2,_,x,y,z,_=>zk
 | 3,_,x,.ofNat 0,z,h=>zg
 | 3,_,x,.ofNat (n+1),z,_=>zk
 | 3,_,x,.negSucc n,z,_=>zk
 | 4,_,x,.ofNat 0,z,h=>zg
 | 4,_,x,.ofNat (n+1),z,_=>zk
 | 4,_,x,.negSucc n,z,_=>zk
def V5(b:Bool):Bs×Nat:=if b then([116,114,117,101],0) else([],6)
theorem aUf(a:how<5)(x y z:Int)(b:how<3\/y≠0):(AK (KM [Gc] 0) [] 2000 20000 (V,Wk.new (JO (pN how) x y z) 0)).map Prod.fst=O (V5 (Fg [60] (HU how x y) z)):=by
 have h:=ltW a x y z b;have e:(KM [Gc] 0).nx 2000 20000 ((KM [Gc] 0).fu (Wk.new (JO (pN how) x y z) 0) 1000000)=kq [Gc] 2000 20000 A { Wk.new (JO (pN how) x y z) 0 with sr:=⟨[],1000000⟩ }:=rfl;unfold AK;simp only;rw[e,h];cases Fg [60] (HU how x y) z
 .rfl
 .rfl
def aUg(l:List Pd)(d f:Nat)(p:Bool×Vm):Out (Bool×Vm):=if p.1 then xh l d f p.2 else match p.2.back with
 | none=>V
 | some (G,m)=>O (.ok (G,m))
 | some (A,m)=>xh l d f m
def ltM(how:Nat)(x y z:Int):Vm:=⟨0,⟨[],999990⟩,[⟨B4 how x y z,[.level 0,.term (.int x),.term (.int y),.term (.comp (pN how) [.int x,.int y]),.term (.int z)],0,V,0,A⟩],0,6,[]⟩
def ltV(l:List Pd):∀ {how:Nat} (_:how<5) (x y z:Int) (_:how<3\/y≠0),IT l 2000 20000 { zf (B4 how x y z) with sr:=⟨[],1000000⟩ }=aUg l 2000 19994 (Fg [60] (HU how x y) z,ltM how x y z)
 | 0,_,x,y,z,_=>zk
 | 1,_,x,y,z,_=>zk
 | 2,_,x,y,z,_=>zk
 | 3,_,x,.ofNat 0,z,h=>zg
 | 3,_,x,.ofNat (n+1),z,_=>zk
 | 3,_,x,.negSucc n,z,_=>zk
 | 4,_,x,.ofNat 0,z,h=>zg
 | 4,_,x,.ofNat (n+1),z,_=>zk
 | 4,_,x,.negSucc n,z,_=>zk
theorem aUj(l:List Pd)(a:how<5)(x y z:Int)(b:how<3\/y≠0):(AK (KX l 0) [] 2000 20000 (V,zf (B4 how x y z))).map Prod.fst=O (V5 (Fg [60] (HU how x y) z)):=by
 have h:=ltV l a x y z b;have e:(KX l 0).nx 2000 20000 ((KX l 0).fu (zf (B4 how x y z)) 1000000)=IT l 2000 20000 { zf (B4 how x y z) with sr:=⟨[],1000000⟩ }:=rfl;unfold AK;simp only;rw[e,h];cases Fg [60] (HU how x y) z
 .rfl
 .rfl
def V6(w:Bs):Bool:=w.all fun x=>x != 32 && x != 10
theorem Z5{w:Bs}(h:V6 w=A):KW w:=by
 unfold V6 at h;rw[List.all_eq_true] at h;exact⟨fun x hx e=>zg,fun x hx e=>zg⟩
def Gd{i:In}(a:V6 i.word=A)(c:(qd i ((kS i.word).getD []) i.s).all V6=A)(b:rm n (i.word::qd i ((kS i.word).getD []) i.s)=O i):Fy n i:=
 ⟨Z5 a,(by grind [Z5,List.all_eq_true]),b⟩
def wdI(z:Int):KW (gX z):=by
 unfold gX;split
 .have h:=NJ z.natAbs;refine⟨fun x hx=>?_,fun x hx=>?_⟩
  .rcases a1z.1 hx with rfl | hx
   .grind
   .exact h.1 x hx
  .rcases a1z.1 hx with rfl | hx
   .grind
   .exact h.2 x hx
 grind [NJ]
theorem RH{s:Nat}{z:Int}(a:s<n)(b:n<=100000)(c:-9223372036854775808<=z/\z<=9223372036854775807):Fy n ⟨[112,117,116],[],O (.int z),[s]⟩:=by
 refine⟨(by grind [Z5,V6]),fun w h=>?_,?_⟩
 .have h:w∈[dL s,gX z]:=h;rcases a1z.1 h with rfl | h
  .exact NJ s
  .rcases a1z.1 h with rfl | h
   .exact wdI z
   grind
 .show rm n ([112,117,116]::[dL s,gX z])=_;have d:=XY a b;have f:BG (gX z)=O (.int z):=by grind [BG,ad7]
  have e:lY n [115,99] [dL s,gX z] ⟨[112,117,116],[],V,[]⟩=O (⟨[112,117,116],[],O (.int z),[s]⟩,[]):=by grind [lY]
  show(match lY n [115,99] [dL s,gX z] ⟨[112,117,116],[],V,[]⟩with
   | some (i,[])=>if (([112,117,116]:Bs)=[109,97,107,101]\/([112,117,116]:Bs)=[115,112,108,105,116])/\i.s.length<2\/([112,117,116]:Bs)=mr/\jw i.name≠i.s.length then V else O i
   | _=>V)=_
  rw[e];rfl
def A7:Pd:=⟨[97],0,[⟨1,[⟨[109,97,114,107],[],V,[0]⟩,⟨[116,101,115,116],[116,114,117,101],V,[]⟩,⟨[114,101,116],[],V,[]⟩]⟩]⟩
def atv:xg [Gc] []=O [A7]:=rfl
theorem atw:PdR A7:=by
 refine⟨Z5 zd,J,zd,fun c a=>?_⟩;simp only[A7,a1K] at a;subst a;refine⟨zg,fun i hi=>?_⟩;simp only[a1z,a1E,or_false] at hi;rcases hi with rfl | rfl | rfl<;>exact Gd zd (by decide +kernel) zk
def aUl(a:how<5){x y z:Int}(hx:j8 x)(b:j8 y)(c:j8 z):∀ i∈(HT how x y z).ins,Fy 7 i:=by
 obtain⟨x0,x1⟩:=hx;obtain⟨d,e⟩:=b;obtain⟨z0,f⟩:=c;intro i hi;simp only[HT,a1z,a1E,or_false] at hi;rcases hi with rfl | rfl | rfl | rfl | rfl | rfl | rfl | rfl | rfl
 .exact Gd zd (by decide +kernel) zk
 .exact Gd zd (by decide +kernel) zk
 .grind [RH]
 .grind [RH]
 .match how,a with
  | 0,_ | 1,_ | 2,_ | 3,_ | 4,_=>exact Gd zd (by decide +kernel) zk
 .grind [RH]
 .exact Gd zd (by decide +kernel) zk
 .exact Gd zd (by decide +kernel) zk
 .exact Gd zd (by decide +kernel) zk
def aUm(a:how<5){x y z:Int}(hx:j8 x)(b:j8 y)(c:j8 z):∀ i∈(B4 how x y z).ins,Fy 5 i:=by
 obtain⟨x0,x1⟩:=hx;obtain⟨d,e⟩:=b;obtain⟨z0,f⟩:=c;intro i hi;simp only[B4,a1z,a1E,or_false] at hi;rcases hi with rfl | rfl | rfl | rfl | rfl | rfl | rfl
 .exact Gd zd (by decide +kernel) zk
 .grind [RH]
 .grind [RH]
 .match how,a with
  | 0,_ | 1,_ | 2,_ | 3,_ | 4,_=>exact Gd zd (by decide +kernel) zk
 .grind [RH]
 .exact Gd zd (by decide +kernel) zk
 .exact Gd zd (by decide +kernel) zk
def Ml{x:Int}(h:j8 x):(gX x).length<=11:=by
 obtain⟨a,b⟩:=h;have:=Nq x.natAbs 8 zo (x.natAbs+1) zo;grind [gX,dL,a1x]
end P
