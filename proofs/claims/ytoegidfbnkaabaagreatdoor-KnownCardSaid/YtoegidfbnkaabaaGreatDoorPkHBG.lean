/- A part of one proof (KR2, KR3, ShX7, KL1, KA2, KA3, KL2, KL3, KA4, KA4b, KA5). -/
import Derived.Test.YtoegidfbnkaabaaGreatDoorPkHBF
import Derived.Lib.LaidTab
import Derived.LaidLaws
import Derived.Shelf.Vars
import Derived.ProofKit
import Derived.LaidMore
import Derived.OpenShut
import Derived.LaidHandle
import Derived.LaidSub
import Derived.MakeChecks
import Derived.Stop.Joined
import Derived.Test.YtoegidfbnkaabaaGreatDoorRows
import Derived.JoinedOf
import Derived.ChangeMaps5
import Derived.Lay
import Derived.Test.YtoegidfbnkaabaaGreatDoorTie
import Derived.Test.YtoegidfbnkaabaaGreatDoorCards
import Derived.SevenTiedAt
set_option linter.all false
set_option maxRecDepth 100000
set_option maxHeartbeats 8000000
open Option renaming some → O, none → V
open Go renaming Value → Y, World → Z
open Bool renaming true → A, false → G
open Go.Obj renaming cells → ae
open Go.Ending renaming returned → ah
open Go.Value renaming nilIface → ai, iface → aj, tuple → ak, pointer → aq
open Option.some renaming injEq → aZ9, inj → a0g
open Go.Calls renaming mono → a0c
open List renaming getElem?_eq_getElem → a0e, drop_eq_getElem_cons → a0h, length_cons → a0j, range → a0C, getD_eq_getElem?_getD → a0F, mem_of_getElem? → a06, getElem?_append_right → a19
open Prod.mk renaming injEq → a0y
open Nat renaming lt_of_lt_of_le → a0E
open Go.World renaming cell? → a0O
open Array renaming getElem?_toList → a1n
open List.cons renaming injEq → a2z
open Go.OpenSpec renaming ofChange → a36
open Go.Proofs.Tryz renaming prog → bal
open Go.Proofs.Tryz
namespace Go.Proofs.YtoegidfbnkaabaaGreatDoor
open P
open Go.RowKit Sx
variable{D:Nat->Prop}{E:En}{W w w' w1:Z}{c d e f g k n nv qb xb:Nat}{s:Bs}{v:Y}{vars:List Bs}
def P.aSW{x:Bd}{vs:List Bs}(h:rv tl s = .ok x k vs):vs.length<=12/\iS x<=5800:=by
 obtain⟨d,f⟩:=P.X7 h;refine⟨d.1,?_⟩;unfold rv at h;split at h
 .grind
 .split at h
  .grind
  .rename_i T b;have a:=O2 b;have g:Bb T:=⟨Kd _ _ _ _ (by rw[OT,b]),fun u hu hk=>by
    obtain⟨c,r,e,-⟩:=(a.tok u hu).2.2.1 hk;grind,fun u hu hk=>((a.tok u hu).2.1 hk).2.1⟩
   have i:=a.len;grind [P.amp,amp]
def P.asn{cs:List Cl}{vs:List Bs}(h:P.program s = .ok cs k vs):cs.length<=40/\∀ c∈cs,P.qn c:=by
 unfold P.program at h;split at h
 .grind
 .split at h
  .grind
  .rename_i T b;have a:=O2 b;have d:Bb T:=⟨Kd _ _ _ _ (by rw[OT,b]),fun u hu hk=>by
    obtain⟨c,r,e,-⟩:=(a.tok u hu).2.2.1 hk;grind,fun u hu hk=>((a.tok u hu).2.1 hk).2.1⟩
   have f:=a.len;exact aHH d (fun u hu hk=>(a.tok u hu).2.2.2.1 hk) zo h
def P.aSX{cs:List Cl}{x:Bd}{t:Bs}(b:∀ c∈cs,P.qn c)(d:cs.length<=40)(hx:eV nv 2900 x)(f:iS x<=5800)(g:nv<=12)(h:Cj cs x nv=O t):SO t:=by
 unfold Cj at h;split at h
 .grind
 .rename_i l e;split at h
  .grind
  .rename_i a i;cases h;exact aHZ (amM b d e).1 (by grind [P.WX,P.eZ.nil,ft,WX,eZ.nil]) zo
def aso(w:Z)(v:Y)(c:Nat)(a:Int):Prop:=(∃ b,v = aj 73 (ptr b)/\w.heap[b]?=aN #[zi (c:Int),zi a] 77)\/(v = aj 27 (zi (c:Int))/\a=-1)
def Za(names:List Bs)(w w':Z)(qb:Nat)(E:En)(st:E.St):Prop:=TJ names w w' qb E st/\Kn names/\∀ k l,E.told k = .ok l->l.length=names.length
def ahv(cs:List Cl)(q:Bs)(machine:Bool)(w:Z)(e:Ending)(w':Z):Prop:=Ext w w'/\match Ix cs q machine with
 | .err c a=>∃ v,e = ah (ak #[aq V,v])/\aso w' v c a
 | .ok E st names=>∃ qb,e = ah (ak #[ptr qb,ai])/\Za names w w' qb E st
theorem P.asp(m:Vm):∀ (l:List Nat) (r:List Tm),m.iL l = .ok r->r.length=l.length
 | [],r,h=>by
  unfold Vm.iL at h;cases h;rfl
 | k::l,r,h=>by
  unfold Vm.iL at h;split at h
  .split at h
   .rename_i a b;cases h;rw[a0j,a0j,P.asp m l a b]
   grind
  grind
def aSY(q:Bs)(machine:Bool){cs:List Cl}(Q:q.length<=100000)(S:DA w)(hC:mF w w.heap.size)(hV:AI w)(T:kJ w)(hL:Ei w)(hx:Qg w xb cs)(o:∀ c∈cs,P.qn c)(U:cs.length<=40) :
  Calls bal 26 #[pp xb,aM q,.bool machine] w (ahv cs q machine w):=by
 cases machine with
 | false=>
  refine(aMG q Q S hC hx (fun c F=>(o c F).cl) (fun c F=>by have:=(o c F).name;omega) zo zo zo).mono ?_;rintro e w' ⟨g,h⟩;refine⟨g,?_⟩;unfold Ix;cases hr:rv tl q with
  | err c a=>
   rw[hr] at h;obtain⟨b,rfl,r⟩:=h;exact⟨_,J,.inl yH⟩
  | ok x k vs=>
   rw[hr] at h;obtain⟨qb,rfl,r⟩:=h;refine⟨qb,J,r,(P.X7 hr).1,fun k l h=>?_⟩;have h:Except.ok ((a0C vs.length).map Tm.var)=Except.ok l:=h;grind
 | true=>
  suffices H:∀ R:Ending->Z->Prop,(∀ e w',ahv cs q A w e w'->R e w')->Calls bal 26 #[pp xb,aM q,.bool A] w R from H _ zg;intro R d;unfold ahv Ix at d;refine anZ ?_;refine bD ?_;refine(aoC q w Q S hC).mono ?_;rintro e w1 ⟨g,i⟩;have s1:=g.size;cases hr:rv tl q with
  | err c a=>
   rw[hr] at i d;obtain⟨b,rfl,r⟩:=i;refine bD ?_;exact d _ _ ⟨g,_,J,.inl yH⟩
  | ok x k vs=>
   rw[hr] at i d;simp only[if_true] at d;obtain⟨b,rfl,-,W,qxb,X,vc,hq,nE,Kv⟩:=i;obtain⟨v,fR,g1,g2,g3⟩:=hx.iZ (eM.ea g);obtain⟨sa,sc,rfl⟩:=g2.sl;have l1:=bf g1;obtain⟨Ct,Bq⟩:=P.X7 hr;obtain⟨-,QG⟩:=P.aSW hr;refine cG @g1 ?_;refine a0c (aQ7 g2 g3 o U hq zg ⟨[],.inl ⟨J,J⟩,by unfold eH;rfl⟩ (dJ.mono zg yH _ _ nE) Bq QG W (T.ext g)) ?_;rintro e w2 ⟨I,f⟩;have s2:=I.size;have s:=g.trans I;cases u:Cj cs x vs.length with
   | none=>
    rw[u] at f d;have f:e = ah (ak #[aM [],.bool G]):=f;subst f;refine bD ?_;exact d _ _ ⟨s,_,J,.inr ⟨J,J⟩⟩
   | some t=>
    rw[u] at f d;have f:e = ah (ak #[aM t,.bool A]):=f;subst f;have j:=P.aSX o U Bq QG W u;refine bD ?_;refine a0c (asm t (hV.ext s) (T.ext s) (hL.ext s) fun ps c n K=>(amv K j).2.1.sl) ?_;rintro e w3 ⟨eI,B⟩;have s3:=eI.size;unfold P.runT at d;dsimp only at d;cases C:qo t with
    | error ca=>
     obtain⟨c,a⟩:=ca;rw[C] at B d;dsimp only at d;obtain⟨b',rfl,r⟩:=B;refine bD ?_;refine⟨fun _ w'=>w'=w3,?_,?_⟩
     .exact eQ
     .rintro z E rfl dd;exact d _ _ ⟨yF,_,J,.inl yH⟩
    | ok y=>
     obtain⟨ps,c,n⟩:=y;rw[C] at B d;dsimp only at d;obtain⟨qb,vb,kb,ab,pb,rfl,L,aZZ,dZ,M,Kx,hEb,aZ1,hm⟩:=B;have Ae:=aIv u C;subst Ae;obtain⟨K,vn,SJ⟩:=amv C j;have Bl:=(I.trans eI).ext _ _ hq;have m:w3.heap[qb]?=aN #[aj 111 (pp vb),pq vb 1,.func (.func 36) #[pp vb] #[],bH,ai] 121:=L;have lq:=bf m;refine bD ?_;refine⟨fun _ w'=>w'=bO w3 qb (ae #[aj 111 (pp vb),pq vb 1,.func (.func 36) #[pp vb] #[],.slice X vs.length vc,ai] 121),?_,?_⟩
     .exact lT Bl m
     .rintro z E ja dd;have N:Ext M E:=yF;have g4:E.heap[qb]?=aN (XX (Qt ps vs.length vb kb ab pb) (.slice X vs.length vc) V) 121:=yH;have GP:Ext w1 E:=yF;clear ja;refine d _ _ ⟨yF,qb,J,⟨Qt ps vs.length vb kb ab pb,(by grind [ap4,vmD,al9.cls]),dZ,by have:=Kx.size;omega,P.aST vn SJ,fun _=>0,fun D hD=>⟨⟨_,g4,Kv.mono zg (by grind [bz.ext])⟩,fun _=>?_⟩⟩,Ct,fun k l h=>?_⟩
      .exact(ap4 _ _ _ _ _ _ (fun p i=>(K p i).cls) zo).ext zg N
      .have h:k.iL (a0C vs.length) = .ok l:=h;grind [P.asp,List.length_range]
def aS1{a:Int}(h:aso w v c a)(d:Al w):Calls bal 23 #[v] w fun e w'=>Ext w w'/\e = ah (ak #[zi (c:Int),zi a]):=by
 rcases h with⟨b,rfl,f⟩| ⟨rfl,rfl⟩
 .exact Wz b c a w f d
 .exact ao7 c w d
def ahw(cs:List Cl)(q:Bs)(machine:Bool)(w:Z)(e:Ending)(w':Z):Prop:=Ext w w'/\match Ix cs q machine with
 | .err c a=>e = ah (ak #[aq V,.int .i64 (c:Int),.int .i64 a])
 | .ok E st names=>∃ qb,e = ah (ak #[ptr qb,.int .i64 0,.int .i64 (-1)])/\Za names w w' qb E st
def ass(q:Bs)(machine:Bool){cs:List Cl}(h:q.length<=100000)(i:DA w)(hC:mF w w.heap.size)(j:AI w)(k:kJ w)(l:Ei w)(m:Al w)(hx:Qg w xb cs)(n:∀ c∈cs,P.qn c)(o:cs.length<=40) :
  Calls bal 15 #[pp xb,aM q,.bool machine] w (ahw cs q machine w):=by
 suffices H:∀ R:Ending->Z->Prop,(∀ e w',ahw cs q machine w e w'->R e w')->Calls bal 15 #[pp xb,aM q,.bool machine] w R from H _ zg;intro R b;refine aKp ?_;refine(aSY q machine h i hC j k l hx n o).mono ?_;rintro e w1 ⟨p,d⟩;unfold ahw at b;cases hr:Ix cs q machine with
 | err c a=>
  rw[hr] at d b;obtain⟨v,rfl,f⟩:=d;refine bD ?_;refine(aS1 f (m.ext p)).mono ?_;rintro e w2 ⟨g,rfl⟩;refine bD ?_;exact b _ _ yF
 | ok E st names=>
  rw[hr] at d b;obtain⟨qb,rfl,f,r⟩:=d;refine bD ?_;refine(Wy w1).mono ?_;rintro e w2 ⟨g,rfl⟩;refine bD ?_;exact b _ _ ⟨yF,qb,J,f.ext g,r⟩
def aS2(t:Bs){a:Nat}(f:AI w)(g:kJ w)(h:Ei w)(i:Al w)(hr:qo t = .error (c,a)) :
  Calls bal 14 #[aM t] w fun e w'=>Ext w w'/\e = ah (ak #[aq V,zi (c:Int),zi (a:Int)]):=by
 refine aLm ?_;refine(asm t f g h zg).mono ?_;rintro e w1 ⟨j,d⟩;rw[hr] at d;obtain⟨b,rfl,k⟩:=d;refine bD ?_;refine(Wz b c a w1 k (i.ext j)).mono ?_;rintro e w2 ⟨l,rfl⟩;refine bD ?_;exact yF
open Go.Proofs.YtoegidfbnkaabaaGreatDoor.Sx
section
variable{p0 p1 p2 p3 p4 p5 p6 p7:Y}{w:Z}{R:Ending->Z->Prop}
def aS3:=cz w R [p0,p1] (gc [] [(2001,[0])] [6]) func11
def aS4:=cz w R [] (gc [] [] []) func9
def aS5:=cz w R [] (gc [] [] []) func10
def aS6:=cz w R [p0,p1] (gc [(28,[29])] [(22000,[172]),(23001,[]),(25000,[190]),(26001,[]),(31000,[219]),(32002,[])] [1,4,45,55,56,76,78,79,80,81,82,102,103,104,105,125,126,133,138,155,156,171,172,180,189,190,198,218,219,225,240,241]) func3
end
structure Og(w:Z):Prop where
 two:DA w
 cmp:mF w w.heap.size
 num:AI w
 pow:kJ w
 len:Ei w
 err:Al w
 gp:4<w.heap.size
 ge:0<w.heap.size
theorem Og.ext{w w':Z}(h:Og w)(a:Ext w w'):Og w':=
 ⟨h.two.ext a,⟨a0E h.cmp.lt a.size,(h.cmp.ext fun b o _=>a.ext b o).cell⟩,h.num.ext a,h.pow.ext a,h.len.ext a,h.err.ext a,a0E h.gp a.size,a0E h.ge a.size⟩
def aS7{X:D7 E}(L:IT X){q b:Qs E}{a:Bs×Nat}(e:q.1=V->X.Good c q.2/\mH (E.sr q.2).tr)(g:c<=700)(h:Gy E vars d f q=O (a,b)):b.1=V->X.Good (c+1) b.2:=by
 unfold Gy at h;split at h
 .grind
 .rename_i he;obtain⟨e,ht⟩:=e he;split at h
  .grind
  .grind
  .grind
  .rename_i k i;split at h
   .grind
   .split at h
    .grind
    .grind
    .simp only[aZ9,a0y] at h;obtain⟨-,rfl⟩:=h;exact fun _=>(L.Ey e g ht i).2 _
def Live(names:List Bs)(w1 w:Z)(qb:Nat)(E:En)(q:Qs E)(c:Nat):Prop:=
 ∃ X:D7 E,(IT X/\X6 X)/\qb≠X.eb/\w1.heap.size<=qb/\Ext w1 w/\(q.1=V->X.Good c q.2)/\Kn names/\(∀ k l,E.told k = .ok l->l.length=names.length)/\∃ ρ,D8 X (fun b=>w1.heap.size<=b) ρ qb names w q
def Za.live{st:E.St}(h:Za vars w w' qb E st)(a:Ext w w'):Live vars w w' qb E (V,st) 0:=by
 obtain⟨⟨X,L,b,c,f,ρ,g⟩,d,e⟩:=h;exact⟨X,L,b,c,a,zg,d,e,ρ,yH⟩
def aS8(h:Ext w1 w)(a:KY D qb w w')(hD:∀ b,D b->w1.heap.size<=b)(e:w1.heap.size<=qb):Ext w1 w':=
 ⟨a.os.trans h.os,a.tape.trans h.tape,a.output.trans h.output,Nat.le_trans h.size a.size,fun b o c _=>a.block b o (h.ext b o c) (by
  have:=bf c;rintro (⟨d,-⟩| d)<;>grind)⟩
def asu{q j:Qs E}{i:Bs×Nat}(h:Live vars w1 w qb E q c)(a:Og w1)(k:c<=700)(hr:Gy E vars d f q=O (i,j)) :
  Calls bal 16 #[ptr qb] w fun e w'=>e = ah (ak #[aM i.1,zi ((i.2:Nat):Int)])/\Live vars w1 w' qb E j (c+1):=by
 obtain⟨X,L,l,m,b,n,g,o,ρ,p⟩:=h;have s1:=b.size;refine(aMM L.1 p yH (by have:=a.gp;omega) (by have:=a.ge;omega) (a.pow.ext b) (a.err.ext b) l (by have:=a.gp;omega) (by have:=a.ge;omega) n k (fun nm r=>⟨(g.2 nm r).1,by have:=(g.2 nm r).2;omega⟩) g.1 o hr).mono ?_;rintro e w' ⟨s,rfl,eL,t⟩;refine⟨J,X,L,l,m,aS8 b s yH m,?_,g,o,eL,t⟩;refine aS7 L.1 (fun he=>⟨n he,?_⟩) k hr;obtain⟨cs,tv,-,u⟩:=L.1.st (p.live he);exact u.ok
open Go.ChangeShapes Go.WideShapes Go.ChangeAt Go.WideMaps Go.WideElems
def asw{P:Program}{name:String}{t:Nat}{ss:List (List UInt8)}(d:P.globalNamed name=O g)(ht:(P.globals[g]?).map (·.type)=O t)
  (hu:P.underlying t=O (.array n e)) (he:P.underlying e=O .string) (j:P.cellsOf e=1) (D:P.cellsOf t=n)
  (h:laidMet P [(name,.agg (ss.map fun s=>.lit (.string s)))] W):∃ cs T z,W.heap[g]?=O (ae cs T z)/\cs.toList=ss.map fun s=>.string ⟨s.toArray⟩:=by
 obtain⟨ps,⟨E,F,cs,f,p,q,k,l,hv,o,-,-⟩,-,-⟩:=h;obtain rfl:=a0g (d.symm.trans k);obtain rfl:=a0g (ht.symm.trans l);have r:∃ T z,W.heap[g]?=O (ae cs T z):=by
  grind [World.var?,aZ9]
 obtain⟨T,z,u⟩:=r;obtain⟨xs,m,rfl,hx,H,I,w⟩:=DataW.trod_array hu o;simp only[a0y,DataW.agg.injEq] at hx;have hlen:ss.length=xs.length:=by have:=congrArg List.length hx.1;simpa using this
 refine⟨cs,T,z,u,?_⟩;refine List.ext_getElem zg fun i x K=>?_;have y:i<n:=zo;have a:=w i y;have B:(cs.toList.drop (i*P.cellsOf e)).take (P.cellsOf e)=[cs.toList[i]]:=by
  rw[j,Nat.mul_one,a0h x];rfl
 rw[B,a0e zo] at a;obtain⟨s,b,C,-⟩:=DataW.trod_string he a;simp only[a2z,and_true] at b;have c:(ss.map fun s=>(DataW.lit (.string s):DataW Unit))[i]' zg=(xs.map (·.1))[i]' zg:=by
  grind
 simp only[List.getElem_map,C,DataW.lit.injEq,Lit.string.injEq] at c;rw[b,List.getElem_map,c]
def QT{P:Program}{l:List (String×DataW Unit)}{name:String}{d:DataW Unit}(h:laidMetH P l W)(a:(l.filter fun x=>x.1 == name)=[(name,d)])(b:d.handleName?.isNone=A) :
  laidMet P [(name,d)] W:=by
 have c:=h.filter fun x=>x.1 == name;grind [MakeChecks.laidMetH_plain]
def aS9:Tryz.prog.globalNamed "horn/syntax.signs" = O 1:=zk
def asx:Tryz.prog.globalNamed "horn/syntax.levels" = O 2:=zk
def aTa:Tryz.prog.globalNamed "horn/syntax.compare" = O 3:=zk
def aTb:Tryz.prog.globalNamed "errors.errorType" = O 0:=zk
def Tryz.rt:(Tryz.prog.cutTypes.find? (·.1 == "internal/reflectlite.rtype")).map (·.2)=O 219:=zk
def aTc:((a0C (476-100)).filter fun t=>Tryz.prog.rowNamed t [101,114,114,111,114])=[57]:=zk
theorem Tryz.size:Tryz.prog.types.size=476-100:=zk
def aTd{l:List (String×DataW Unit)}(h:laidMetH bal l W)(c:(l.filter fun x=>x.1 == "errors.errorType")=[("errors.errorType",Rows.laid_errors_errorType)]):Al W:=by
 have a:=h.filter fun x=>x.1 == "errors.errorType";rw[c] at a;have d:laidMet bal [] W/\handlesMet bal [("errors.errorType",Rows.laid_errors_errorType)] W:=a;obtain⟨name,u,ty,e,f,j,k,b⟩:=d.2 _ (List.mem_singleton.2 J);have g:name=[101,114,114,111,114]:=(a0g e).symm;subst g;obtain rfl:=a0g (Tryz.rt.symm.trans f);have hm:ty∈(a0C (476-100)).filter fun t=>Tryz.prog.rowNamed t [101,114,114,111,114]:=(by grind [Tryz.size]);rw[aTc] at hm;obtain rfl:=List.mem_singleton.1 hm;have i:typeHandle bal 57=pq 12 57:=zk;rw[i] at b;unfold Al;simpa using World.var?_cell aTb b 0
def aTe{l:List (String×DataW Unit)}(h:laidMetH bal l W)(b:(l.filter fun x=>x.1 == "horn/syntax.signs")=[("horn/syntax.signs",Rows.laid_horn_syntax_signs)]):Mz W:=by
 have c:=QT h b J;obtain⟨cs,T,z,d,a⟩:=asw (ss:=oo) aS9 (t:=_) (e:=9) (n:=23) J J underlying9 zk zk c;refine⟨cs,T,z,d,?_,?_⟩
 .rw[<- Array.length_toList,a];decide
 .rw[a];rfl
def aTf{l:List (String×DataW Unit)}(h:laidMetH bal l W)(b:(l.filter fun x=>x.1 == "horn/syntax.compare")=[("horn/syntax.compare",Rows.laid_horn_syntax_compare)]):mF W W.heap.size:=by
 have c:=QT h b J;obtain⟨cs,T,z,a,d⟩:=asw (ss:=LH) aTa (t:=_) (e:=9) (n:=9) J J underlying9 zk zk c;refine⟨bf a,fun j f=>?_⟩;have g:cs[j]?=cs.toList[j]?:=zg;simp only[a0O,a];rw[bX zs,g,d,List.getElem?_map,a0F,a0e (show j<LH.length from f)];rfl
def aTg{P:Program}{t:Nat}{ss:List (List UInt8)}{x:List MemPlace}(hu:P.underlying t=O (.slice e))(he:P.underlying e=O .string)(d:P.cellsOf e=1)(g:0<ss.length)
  (h:DataW.trod (fun _=>()) P W 0 (fun _=>A) G f t [v]=O (.slice (ss.map fun s=>.lit (.string s)) [],x)) :
  ∃ b o c,b<W.heap.size/\v = .slice (O ⟨b,o,V⟩) ss.length c/\∀ j,j<ss.length->W.cell? ⟨b,o+j,V⟩=O (.string ⟨(ss.getD j []).toArray⟩):=by
 obtain⟨a,cap,i,-,k⟩:=open_row hu d h;simp only[a2z,and_true,List.length_map] at i;have key:∀ j,j<ss.length->W.cell? (a.add j)=O (.string ⟨(ss.getD j []).toArray⟩):=fun j l=>by
  obtain⟨u,n,q,m,c2⟩:=k j (.lit (.string ss[j])) zg;obtain⟨s,d1,d2,-⟩:=DataW.trod_string he c2;simp only[a2z,and_true] at d1;simp only[a0y,DataW.lit.injEq,Lit.string.injEq] at d2;rw[m,d1,a0F,a0e l,Option.getD_some,d2.1]
 have w:=key 0 g;obtain⟨b,o,sp⟩:=a;have p:sp=none:=by
  cases sp with
  | none=>rfl
  | some y=>
   grind [a0O,Addr.add]
 subst p;have r:∀ j,(⟨b,o,V⟩:Addr).add j=⟨b,o+j,V⟩:=(by grind [Addr.add]);grind [a0O,Array.getElem?_eq_some_iff]
def aTh{l:List (String×DataW Unit)}(h:laidMetH bal l W)(j:(l.filter fun x=>x.1 == "horn/syntax.levels")=[("horn/syntax.levels",Rows.laid_horn_syntax_levels)]):zQ W W.heap.size:=by
 obtain⟨ps,⟨I,K,cs,f,p,q,k,r,hv,u,-,-⟩,-,-⟩:=QT h j J;obtain rfl:=a0g (asx.symm.trans k);obtain rfl:=a0g ((show(Tryz.prog.globals[2]?).map (·.type)=O _ from J).symm.trans r);obtain⟨xs,m,rfl,hx,w,L,y⟩:=DataW.trod_array (n:=2) (e:=39) J u;have B:∃ T z,W.heap[2]?=O (ae cs T z):=by
  simp only[World.var?,asx,Option.bind_some] at hv;split at hv
  .simp only[aZ9] at hv;subst hv;exact⟨_,_,by assumption⟩
  .cases hv
 obtain⟨T,z,a⟩:=B;have C:Tryz.prog.cellsOf 39=1:=zk;have M:cs.toList.length=2:=by rw[w];kernel_rfl
 simp only[a0y,Rows.laid_horn_syntax_levels,DataW.agg.injEq] at hx;refine⟨bf a,fun i d=>?_⟩;have g:=y i d;have D:(cs.toList.drop (i*Tryz.prog.cellsOf 39)).take (Tryz.prog.cellsOf 39)=[cs.toList[i]]:=by
  rw[C,Nat.mul_one,a0h zo];rfl
 rw[D,a0e zo] at g;have E:xs[i].1 = .slice ((P.ops i).map fun s=>.lit (.string s)) []:=by
  have:(xs.map (·.1))[i]' zg=xs[i].1:=zs;rw[<- this];simp only[<- hx.1]
  match i,d with
  | 0,_=>rfl
  | 1,_=>rfl
 obtain⟨b,o,c,F,N,H⟩:=aTg (ss:=P.ops i) (x:=xs[i].2) (t:=39) (e:=9) underlying39 underlying9 zk (by grind [P.ops]) (by rw[g,<- E]);refine⟨b,o,c,F,?_,H⟩;simp only[a0O,a];grind
def aTi:Tryz.prog.globalNamed "strconv.ErrSyntax" = O 6:=zk
def aTj:Tryz.prog.globalNamed "strconv.ErrRange" = O 7:=zk
def aTk{l:List (String×DataW Unit)}(h:laidMetH bal l W)(a:(l.filter fun x=>x.1 == "internal/strconv.uint64pow10")=[("internal/strconv.uint64pow10",Rows.laid_internal_strconv_uint64pow10)]):kJ W:=by
 have b:=QT h a J;exact Lib.tabIs_of_head (zs:=Lib.pow10Tab) (k:=.u64) (n:=20) Xe (t:=_) (e:=261) J J J zk zk b
def asy{nm a:String}{d:DataW Unit}{ms:Array (String×TypeId)}{t:TypeId}(b:Tryz.prog.globalNamed nm=O g)(ht:(Tryz.prog.globals[g]?).map (·.type)=O t)(hu:Tryz.prog.underlying t=O (.interface ms))(h:laidMet bal [(nm,.iface a d)] W):∃ t1 p1,W.cell? ⟨g,0,V⟩=O (aj t1 p1):=by
 obtain⟨ps,⟨k,l,cs,f,p,q,c,e,hv,i,-,-⟩,-,-⟩:=h;obtain rfl:=a0g (b.symm.trans c);obtain rfl:=a0g (ht.symm.trans e);obtain⟨f1,u,v,m,-⟩:=iface_of_trod hu i;have j:cs=#[aj u v]:=zg;subst j;exact⟨u,v,by simpa using World.var?_cell b hv 0⟩
def aTm(h:W.ShapedOpen bal):Ei W:=cell_of_shapedOpen_int (g:=5) (t:=3) (k:=.i64) h (Nat.le_of_ble_eq_true zk) (zero:=#[zi 0]) zk J zk zk zk
def aTn{l:List (String×DataW Unit)}(h:laidMetH bal l W)(c:W.ShapedOpen bal)(d:(l.filter fun x=>x.1 == "horn/syntax.signs")=[("horn/syntax.signs",Rows.laid_horn_syntax_signs)])
  (e:(l.filter fun x=>x.1 == "horn/syntax.levels")=[("horn/syntax.levels",Rows.laid_horn_syntax_levels)]) (f:(l.filter fun x=>x.1 == "horn/syntax.compare")=[("horn/syntax.compare",Rows.laid_horn_syntax_compare)])
  (g:(l.filter fun x=>x.1 == "internal/strconv.uint64pow10")=[("internal/strconv.uint64pow10",Rows.laid_internal_strconv_uint64pow10)]) (i:(l.filter fun x=>x.1 == "errors.errorType")=[("errors.errorType",Rows.laid_errors_errorType)])
  (j:(l.filter fun x=>x.1 == "strconv.ErrSyntax")=[("strconv.ErrSyntax",Rows.laid_strconv_ErrSyntax)]) (k:(l.filter fun x=>x.1 == "strconv.ErrRange")=[("strconv.ErrRange",Rows.laid_strconv_ErrRange)]):Og W:=by
 have b:=aTd h i;have m:=aTk h g;obtain⟨t1,p1,n⟩:=asy aTi (t:=57) J underlying57 (QT h j J);obtain⟨t2,p2,o⟩:=asy aTj (t:=57) J underlying57 (QT h k J);have lt:∀ {a:Addr} {v:Y},W.cell? a=O v->a.block<W.heap.size:=(by grind [a0O,bf]);refine⟨⟨aTh h e,aTe h d⟩,aTf h f,⟨t1,p1,t2,p2,n,o⟩,m,aTm c,b,?_,lt b⟩;grind
end Go.Proofs.YtoegidfbnkaabaaGreatDoor
namespace Go.Proofs.YtoegidfbnkaabaaGreatDoor
open P
open Go.ChangeShapes Go.WideShapes Go.RowKit
variable{fn:Func}{FP:Bool}{w w' w0:Z}
def Tryz.own:ownKnob Tryz.prog.godebug=none:=zk
def aTo(h:Ext w w')(may:MemPlace->Prop):w.keptBut w' may:=by
 refine⟨h.os,h.output,fun i a=>?_⟩;have e:=h.ext i _ (Array.getElem?_eq_getElem a);grind
def aTp{P:Program}{laid:List (String×DataW Unit)}(a:w'.heap=(w0.layVars P laid).heap)(b:w0.layFits P laid []=A)(c:w0.layIfaces P laid w'=A):laidMet P laid w':=by
 have d:(laid.filter fun x=>(laid.map (·.1)).contains x.1)=laid:=List.filter_eq_self.2 zg;have e:(laid.filter fun x=>!(laid.map (·.1)).contains x.1)=[]:=List.filter_eq_nil_iff.2 zg;exact laidMet_layVars (w0:=w0) (laid.map (·.1)) [] zg zg zg (by grind [LaidIn.none])
noncomputable def wH(os:Os):Z:=
 let w0:=World.holding bal os ⟨#[],#[],[]⟩
 { w0 with heap:=w0.heap.modify 0 fun
  | ae _ t frozen=>ae #[aj 219 (.agg #[aq (O ⟨12,57,V⟩)])] t frozen
  | o=>o }
noncomputable def Zb(l:List (String×DataW Unit))(os:Os):Z:=(wH os).layVars bal (l.filter fun x=>x.2.handleName?.isNone)
def aTq(l:List (String×DataW Unit))(os:Os):(Zb l os).os=os:=World.layVars_os _ _ _
def aTr{H:Type}{enc:TypeId×Y->H}{a:Assume}{C:Checked}{os:Os}{f:FuncId}{s:ChangeSpec}{conds:List PathCond}{fresh handsOn again:Bool}{X:Z->Array Y->Prop}
  (n:∀ (w w':Z) (args:Array Y),w.heap=w'.heap->X w args->X w' args)
  (own:ownKnob C.prog.godebug=V) (started:os.Started) (b:C.prog.inits.idxOf? f=V) (c:C.prog.funcs[f]?=O fn)
  (witness:∃ (w:Z) (tape:Tape) (i:Input),w.os=os/\(w.forCall tape i).Shaped C.prog/\i.vars=[]/\Input.okWide C.prog (w.forCall tape i) .any w.heap.size f i /\
   ((s.pre enc C.prog fn conds FP (w.forCall tape i).memory i.args/\X (w.forCall tape i).memory i.args)/\sizedMet enc C.prog fn (a36 s) FP (w.forCall tape i).memory i.args)/\a.holds C.prog (lone (Frame.enter C.prog f i.args .normal) [] (w.forCall tape i)))
  (d:∀ (W:Z) (base:Nat) (args:Array Y) (ds gs:List (DataW H)) (before:List MemPlace),
   (∀ (j:Nat) t v,fn.params[j]?=O t->args[j]?=O v->Value.okWide C.prog W .any base t v)->DataW.Whole enc C.prog fn.params.toList s.vars FP W args.toList ds gs before ->
   (DataW.weightsEach C.prog (fn.params.toList++s.plain.varTypes C.prog) (ds++gs)).all (·<=reachBytes)=A->X W args->W.ShapedOpen C.prog ->
   Calls C.prog f args W fun e m=>∃ v,e = ah v/\s.post enc C.prog fn FP fresh handsOn again W args v m) :
  ReturnsInHanded a C os f .any (fun w args=>(s.pre enc C.prog fn conds FP w args/\X w args)/\sizedMet enc C.prog fn (a36 s) FP w args) (s.post enc C.prog fn FP fresh handsOn again):=by
 refine returnsInHanded_of_calls own started b witness ?_;intro w tape i _ o _ p g _;obtain⟨_,_,_,h,k,_,_,_,_,q⟩:=p;obtain rfl:h=fn:=a0g (k.symm.trans c);obtain⟨⟨⟨ds,gs,before,hw,-⟩,hx⟩,r⟩:=g;have l:=DataW.Whole.of_heap (w':=w.forCall tape i) (by rfl) hw;refine(d (w.forCall tape i) w.heap.size i.args ds gs before q l (r.weights hw) (n _ _ _ (by rfl) hx) o).mono fun e m ⟨v,he,u⟩=>?_;grind [ChangeSpec.post_blind]
def aTx(os:Os)(args:Array Y):laidMetH bal Rows.knownRow.laid ((Zb Rows.knownRow.laid os).forCall (fun _ _=>0) ⟨#[],args,[]⟩).memory:=
 laidMetH_of_parts (aTp (w0:=wH os) (by simp [World.memory,World.forCall,Input.heap,Zb]) zk zk) zk
end Go.Proofs.YtoegidfbnkaabaaGreatDoor
namespace Go.Proofs.YtoegidfbnkaabaaGreatDoor
open P
open Go.RowKit Sx
variable{K:Y->Prop}{X:Y->Z->Prop}{o:Nat}{w:Z}{y:Operand}
def Zc(w:Z):List Obj->Z
 | []=>w
 | o::r=>Zc (w.alloc o) r
def ahy(w:Z):∀ (l:List Obj),Ext w (Zc w l)
 | []=>bz.refl _ _
 | o::r=>((bz.refl _ w).alloc o).trans (ahy (w.alloc o) r)
def ahz:∀ (l:List Obj) (w:Z) (i:Nat) (o:Obj),l[i]?=O o->(Zc w l).heap[w.heap.size+i]?=O o
 | [],w,i,o,h=>zg
 | x::r,w,0,o,h=>by
  have h:x=o:=zg;subst h;exact(ahy (w.alloc x) r).ext _ _ yH
 | x::r,w,i+1,o,h=>by
  have:=ahz r (w.alloc x) i o zg;rw[size_alloc] at this;rw[show w.heap.size+(i+1)=w.heap.size+1+i by omega];exact this
abbrev U6:=Bs×Bs×List Bs×Nat
def ahA(l:List Bs):Obj:=ae (l.map fun s=>Value.string (bs s)).toArray 9 (0,0)
def Lz:List U6->List Obj
 | []=>[]
 | (_,_,l,_)::r=>if l=[] then Lz r else ahA l::Lz r
def Hf:Nat->List U6->List Y
 | _,[]=>[]
 | b,(s,q,l,e)::r=>[.string (bs s),.string (bs q),if l=[] then .slice V 0 0 else .slice (O ⟨b,0,V⟩) l.length l.length,.int .i64 (e:Int)]++Hf (if l=[] then b else b+1) r
def asA:∀ (l:List U6) (b i:Nat) (x:U6),l[i]?=O x->(Hf b l)[i*4]?=O (aM x.1)/\(Hf b l)[i*4+1]?=O (aM x.2.1)/\(Hf b l)[i*4+3]?=O (zi ((x.2.2.2:Nat):Int)) /\
  ((x.2.2.1=[]/\(Hf b l)[i*4+2]?=O bH)\/∃ j,(Hf b l)[i*4+2]?=O (cM (b+j) x.2.2.1.length x.2.2.1.length)/\(Lz l)[j]?=O (ahA x.2.2.1))
 | [],b,i,x,h=>zg
 | (s,q,a,e)::r,b,0,x,h=>by
  have h:(s,q,a,e)=x:=zg;subst h;refine⟨J,J,J,?_⟩;by_cases c:a=[]
  .exact .inl ⟨c,by show O (if a=[] then _ else _)=_;grind⟩
  .refine .inr ⟨0,by show O (if a=[] then _ else _)=_;grind,?_⟩;unfold Lz;grind
 | (s,q,a,e)::r,b,i+1,x,h=>by
  have ih:=asA r (if a=[] then b else b+1) i x zg;have d:∀ k,(Hf b ((s,q,a,e)::r))[(i+1)*4+k]?=(Hf (if a=[] then b else b+1) r)[i*4+k]?:=(by grind [Hf,a19]);have g:=d 0;rw[Nat.add_zero,Nat.add_zero] at g;rw[g,d 1,d 2,d 3];refine⟨ih.1,ih.2.1,ih.2.2.1,?_⟩;rcases ih.2.2.2 with h | ⟨j,f,m⟩
  .grind
  .by_cases c:a=[]
   .rw[zip c] at f ⊢;refine .inr ⟨j,f,?_⟩;unfold Lz;grind
   .rw[bX c] at f ⊢;refine .inr ⟨j+1,zg,?_⟩;unfold Lz;grind
def aTy(w:Z):Calls bal 9 #[] w fun e w'=>w'=Zc w (Lz DU++[ae (Hf w.heap.size DU).toArray 41 (0,0)])/\e = ah (cM (w.heap.size+(Lz DU).length) DU.length DU.length):=by
 refine aS4 ?_;refine bD ?_;exact⟨J,J⟩
abbrev Zd:=UInt8×Bs×Nat×Int
def Jk:List Zd->List Y
 | []=>[]
 | (k,s,e,a)::r=>[.int .u8 (k.toNat:Int),.string (bs s),.int .i64 (e:Int),.int .i64 a]++Jk r
theorem asB:∀ (l:List Zd) (i:Nat) (x:Zd),l[i]?=O x->(Jk l)[i*4]?=O (.int .u8 ((x.1.toNat:Nat):Int))/\(Jk l)[i*4+1]?=O (aM x.2.1)/\(Jk l)[i*4+2]?=O (zi ((x.2.2.1:Nat):Int))/\(Jk l)[i*4+3]?=O (zi x.2.2.2)
 | [],i,x,h=>zg
 | (k,s,e,a)::r,0,x,h=>by
  have h:(k,s,e,a)=x:=zg;subst h;exact⟨J,J,J,J⟩
 | (k,s,e,a)::r,i+1,x,h=>by
  have ih:=asB r i x zg;have b:∀ j,(Jk ((k,s,e,a)::r))[(i+1)*4+j]?=(Jk r)[i*4+j]?:=(by grind [Jk,a19]);have c:=b 0;grind
def aTz(w:Z):Calls bal 10 #[] w fun e w'=>w'=w.alloc (ae (Jk DV).toArray 29 (0,0))/\e = ah (cM w.heap.size DV.length DV.length):=by
 refine aS5 ?_;refine bD ?_;exact⟨J,J⟩
def aTA(c:Int)(n:Nat)(d:-9223372036854775808<=c/\c<=9223372036854775807)(f:0<n)(g:n<=9000000000)(w:Z):Calls bal 11 #[zi c,zi (n:Int)] w fun e w'=>e = ah (zi ((((if c<0 then -(c+1) else c).toNat % n:Nat)):Int))/\w'=w:=by
 refine aS3 ?_;refine⟨fun z w'=>w'=w/\z 0=zi (if c<0 then -(c+1) else c),?_,?_⟩
 .by_cases h:c<0
  .refine cG h ?_;grind
  .exact fg h
 .rintro z w' ⟨rfl,a⟩ i;rw[a];have b:(n:Int)≠0:=zo;rw[aiz _ _ _ b];grind
def aTB(w:Z):Calls bal 9 #[] w fun e w'=>Ext w w'/\∃ ab a,e = ah (cM ab 37 37)/\w'.heap[ab]?=aN a 41/\∀ (i:Nat) (x:U6),DU[i]?=O x ->
  a[i*4]?=O (aM x.1)/\a[i*4+1]?=O (aM x.2.1)/\a[i*4+3]?=O (zi ((x.2.2.2:Nat):Int))/\∃ lv,a[i*4+2]?=O lv/\fD (fun _=>True) w' 9 lv (x.2.2.1.map fun s=>aM s):=by
 refine(aTy w).mono ?_;rintro e w' ⟨rfl,rfl⟩;refine⟨ahy _ _,_,_,J,ahz _ _ _ _ (by rw[a19 (Nat.le_refl _),Nat.sub_self];rfl),fun i x hx=>?_⟩;obtain⟨d,f,g,b⟩:=asA _ w.heap.size i x hx;simp only[List.getElem?_toArray];refine⟨d,f,g,?_⟩;rcases b with⟨b,c⟩| ⟨j,b,c⟩
 .exact⟨_,c,.inl zg⟩
 .refine⟨_,b,.inr ⟨_,_,?_,trivial,ahz _ _ j (ahA x.2.2.1) ?_,?_,?_⟩⟩<;>grind
def aTC(w:Z):Calls bal 10 #[] w fun e w'=>Ext w w'/\∃ fb a,e = ah (cM fb DV.length DV.length)/\w'.heap[fb]?=aN a 29/\∀ (i:Nat) (x:Zd),DV[i]?=O x ->
  a[i*4]?=O (.int .u8 ((x.1.toNat:Nat):Int))/\a[i*4+1]?=O (aM x.2.1)/\a[i*4+2]?=O (zi ((x.2.2.1:Nat):Int))/\a[i*4+3]?=O (zi x.2.2.2):=by
 refine(aTz w).mono ?_;rintro e w' ⟨rfl,rfl⟩;refine⟨(bz.refl _ _).alloc _,_,_,J,qG J,fun i x hx=>?_⟩;grind [asB]
def asC{P:Program}{t:TypeId}(h:P.underlying t=O .bool){x:Operand}{a b:Bool}:RD P (bo .eql t x y (.bool a) (.bool b)) w K X=K (.bool (a == b)):=by
 have k:∀ d:Nat,(Op.equalIn (d+1) t (.bool a) (.bool b)).run P w = .ok (a == b) w:=fun d=>by
  simp [Op.equalIn,run_underlying h]
 have c:(Op.equal t (.bool a) (.bool b)).run P w = .ok (a == b) w:=k 9999;exact gW (by cases a<;>cases b<;>simp [bo,eqGuard,binOp,c])
def aTD{α:Type}{l:List α}{a b c d:α}(e:l[o]?=O a)(f:l[o+1]?=O b)(g:l[o+2]?=O c)(h:l[o+3]?=O d):(l.drop o).take 4=[a,b,c,d]:=by
 grind [List.getElem?_eq_some_iff,a0h]
def aTE(a:Int)(I:Bool)(w:Z)(ha:-9223372036854775808<=a/\a<=9223372036854775807)(hT:Og w):Calls bal 3 #[zi a,.bool I] w fun e w'=>Ext w w'/\e = ah (.bool A):=by
 suffices H:∀ R:Ending->Z->Prop,(∀ w',Ext w w'->R (ah (.bool A)) w')->Calls bal 3 #[zi a,.bool I] w R from H _ yF;intro R p;refine aS6 ?_;refine(aTB w).mono ?_;rintro e w1 ⟨dB,ab,IS,rfl,mf,TS⟩;refine a0c (aTC w1) ?_;rintro e w2 ⟨dM,fb,LA,rfl,PY,iH⟩;have iz:DV.length=37:=rfl;rw[iz];refine bD ?_;(try rw[show((37:Nat):Int)+((37:Nat):Int)=((74:Nat):Int) from rfl]);refine a0c (aTA a 74 ha zo zo w2) ?_;rintro e w3 ⟨rfl,rfl⟩;obtain⟨r,hr⟩:=b9 ((if a<0 then -(a+1) else a).toNat % 74);have aZ3:r<74:=zo;rw[<- hr];clear hr;have Xo:=dM.ext _ _ mf;have AB:=dB.trans dM;have C:=hT.ext AB;have q:(r:Int).toNat=r:=zo;by_cases hk:r<37
 .have Lf:¬ (r:Int) ≥ ((37:Nat):Int):=zo;have hlt:(r:Int)<((37:Nat):Int):=zo;have h0r:(0:Int)<=(r:Int):=zo;obtain⟨x,hx⟩:∃ x,DU[r]?=O x:=⟨_,a0e (show r<DU.length from hk)⟩;obtain⟨c0,K,c3,lv,c2,om⟩:=TS r x hx;have L:=a06 hx;obtain⟨cs,k,v,E,st,names,qe,c,hq,hN⟩:=aIz (m:=I) L;obtain⟨s,qs,l,d⟩:=x;simp only at c hq hN c0 K c3 om;have iA:=aIA _ L;simp only at iA;obtain⟨la,lc,M⟩:=om.sl;rw[List.length_map] at M;subst M;refine dC Lf Xo @c0 @q ?_;refine a0c (acz s w3 zo ⟨C.two.Da,C.cmp,C.two.sig⟩ C.err) ?_;rintro e h ⟨n,jt⟩;rw[c] at jt;obtain⟨xb,bv,vs,rfl,sX,-,xU,Hr⟩:=jt;have b:=C.ext n;have N:=n.ext _ _ Xo;have aZ5:=bf N;obtain⟨sZ,jh⟩:=P.asn c;refine bD ?_;refine⟨fun z w'=>w'=h,?_,?_⟩
  .refine⟨fun z w'=>w'=h/\z 172 = .bool G,?_,?_⟩
   .exact eQ
   .rintro z w' ⟨rfl,Q⟩ dd;exact fg Q
  rintro z5 t rfl dd5;refine iJ N @K @q ?_;refine a0c (ass qs I zo b.two b.cmp b.num b.pow b.len b.err ⟨bv,vs,sX,xU.mono zg yH,ko.mono zg (fun _ _ _ _ _ ho=>ho) _ _ Hr⟩ jh sZ) ?_;rintro e w6 ⟨S,o⟩;rw[hq] at o;obtain⟨qb,rfl,hB⟩:=o;have hL:=hB.live S;refine bD ?_;refine⟨fun z w'=>w'=w6,?_,?_⟩
  .refine⟨fun z w'=>w'=w6/\z 190 = .bool G,?_,?_⟩
   .exact eQ
   .rintro z w' ⟨rfl,Q⟩ dd;exact fg Q
  rintro z7 w7 rfl dd7;refine⟨fun m z w'=>∃ i q',z 29=zi ((i:Nat):Int)/\i<=l.length/\m=l.length-i/\Ext t w'/\Live names t w' qb E q' i/\MR E names 2000 20000 ((l.drop i).length+if d=0 then 0 else 1) q'=O ((l.drop i).map (fun s=>(s,0))++(if d=0 then [] else [([],d)]),qe),
   ⟨_,0,_,J,Nat.zero_le _,J,S,hL,hN⟩,?_⟩
  intro m z8 d8 w8 hI;refine toPr ?_;obtain⟨i,q',T,hi,rfl,sI,U,W⟩:=hI;have u:=sI.ext _ _ N;by_cases kS:i<l.length
  .have Va:((i:Nat):Int)<(l.length:Int):=zo;have dA:l.drop i=l[i]::l.drop (i+1):=a0h kS;rw[dA,a0j,List.map_cons,List.cons_append,show(l.drop (i+1)).length+1+(if d=0 then 0 else 1)=((l.drop (i+1)).length+if d=0 then 0 else 1)+1 by omega] at W;obtain⟨q1,tW,jv⟩:=am9 W;obtain⟨rb,rcs,e3,-,e5,e6⟩:=om.at' (j:=i) (by simpa using kS);rw[List.getElem?_map,a0e kS,Option.map_some] at e6;simp only[Value.slice.injEq] at e3;obtain⟨rfl,-,rfl⟩:=e3;have iN:((i:Nat):Int).toNat=i:=zo;have YA:=(dM.trans n).ext _ _ e5;refine dC T u @c2 (zA @q Va) ?_;refine⟨fun z w'=>Live names t w' qb E q1 (i+1),?_,?_⟩
   .refine a0c (asu U b zo tW) ?_;rintro e w9 ⟨rfl,D⟩;obtain⟨X,-,-,-,y,-⟩:=id D;have Ze:=y.ext _ _ N;have e59:=y.ext _ _ YA;have aZ6:=bf Ze;have le9:=bf e59;refine bD ?_;refine⟨fun z w'=>w'=w9/\z 219 = .bool G,?_,?_⟩
    .exact zP T Ze @c2 (zA @q (zA Va (zA @e59 (zA @e6 @iN))))
    .rintro z w' ⟨rfl,Q⟩ dd;refine cG Q ?_;omega
   .rintro z w9 D dd;obtain⟨X,-,-,-,y,-⟩:=id D;have Ek:((i:Nat):Int)+1=((i+1:Nat):Int):=zo;refine dy T @Ek ?_;exact⟨_,zo,i+1,q1,J,zo,J,y,D,jv⟩
  .have NQ:i=l.length:=zo;subst NQ;have Va:¬ (l.length:Int)<(l.length:Int):=zo;rw[List.drop_of_length_le (Nat.le_refl _)] at W;by_cases N8:d=0
   .subst N8;refine dC T u @c2 (zA @q (zA Va @c3)) ?_;exact p _ ((AB.trans n).trans sI)
   .rw[bX N8,bX N8] at W;obtain⟨q1,tW,-⟩:=am9 W;have aTI:¬ (d:Int)=0:=zo;refine dC T u @c2 (zA @q (zA Va (zA @c3 aTI))) ?_;refine a0c (asu U b zo tW) ?_;rintro e w9 ⟨rfl,D⟩;obtain⟨X,-,-,-,y,-⟩:=id D;have Ze:=y.ext _ _ N;refine iJ Ze @q @c3 ?_;exact p _ ((AB.trans n).trans y)
 .have Lf:(r:Int) ≥ ((37:Nat):Int):=zo;have aTJ:(r:Int)-37=((r-37:Nat):Int):=zo;have hlt:((r-37:Nat):Int)<((37:Nat):Int):=zo;have rn2:((r-37:Nat):Int).toNat=r-37:=zo;obtain⟨x,hx⟩:∃ x,DV[r-37]?=O x:=⟨_,a0e (show r-37<DV.length by rw[iz];omega)⟩;obtain⟨c0,K,c2,c3⟩:=iH _ x hx;have L:=a06 hx;have de:=aIC L;obtain⟨iA,-,hnz⟩:=ana x L;obtain⟨kd,s,d,pl⟩:=x;simp only at c0 K c2 c3 iA de hnz;have jc:(r-37)*4+4<=LA.size:=by
   grind
  have tZ:=aTD (l:=LA.toList) (by rw[a1n];exact c0) (by rw[a1n];exact K) (by rw[a1n];exact c2) (by rw[a1n];exact c3);refine dC Lf @aTJ @rn2 (zA PY tZ) ?_;obtain⟨h,ja⟩:=b9 (bO (w3.alloc (ae #[.int .u8 0,aM [],zi 0,zi 0] 29 (0,0))) w3.heap.size (ae #[.int .u8 (kd.toNat:Int),aM s,zi (d:Int),zi pl] 29));have Ft:bO (w3.alloc (ae #[.int .u8 0,aM [],zi 0,zi 0] 29 (0,0))) w3.heap.size (ae (ot #[.int .u8 0,aM [],zi 0,zi 0] 0 (Value.agg #[.int .u8 (kd.toNat:Int),aM s,zi (d:Int),zi pl]).cells.toList) 29 (0,0))=h:=by rw[ja];rfl
  rw[Ft];have n:Ext w3 h:=yF;have g4:h.heap[w3.heap.size]?=aN #[.int .u8 (kd.toNat:Int),aM s,zi (d:Int),zi pl] 29:=yH;clear Ft ja;have b:=C.ext n;have Ng:=AB.trans n;rcases de with⟨rfl,c⟩| ⟨rfl,a0,c,rfl⟩| ⟨rfl,a0,c,rfl⟩| ⟨rfl,a0,c,rfl⟩
  .have B:(((112:UInt8).toNat:Nat):Int)=112:=rfl;refine dy @B @g4 ?_;refine a0c (acz s h zo ⟨b.two.Da,b.cmp,b.two.sig⟩ b.err) ?_;rintro e t ⟨g,f⟩;have g5:=g.ext _ _ g4;rcases c with⟨a0,c,rfl⟩| ⟨cs,k,v,c,rfl,rfl⟩
   .rw[c] at f;have f:e = ah (ak #[aq V,zi (d:Int),zi (a0:Int)]):=f;subst f;have N8:¬ (d:Int)=0:=zo;refine dy @g5 N8 ?_;rw[asC zk];exact p _ (Ng.trans g)
   .rw[c] at f;obtain⟨xb,bv,vs,rfl,-⟩:=f;refine cG @g5 ?_;rw[asC zk];exact p _ (Ng.trans g)
  .have B:(((99:UInt8).toNat:Nat):Int)=99:=rfl;refine dy @B @g4 ?_;refine a0c (aS2 s b.num b.pow b.len b.err c) ?_;rintro e t ⟨g,rfl⟩;have g5:=g.ext _ _ g4;refine cG @g5 ?_;exact p _ (Ng.trans g)
  .have B:(((113:UInt8).toNat:Nat):Int)=113:=rfl;refine dy @B @g4 ?_;obtain⟨cs,k,v,xB⟩:=aIB;refine a0c (acz pA h zd ⟨b.two.Da,b.cmp,b.two.sig⟩ b.err) ?_;rintro e t ⟨g,f⟩;have g5:=g.ext _ _ g4;have l5:=bf g5;rw[xB] at f;obtain⟨xb,bv,vs,rfl,sX,-,xU,Hr⟩:=f;have F:=b.ext g;obtain⟨sZ,jh⟩:=P.asn xB;refine cG @g5 ?_;refine a0c (ass s I zo F.two F.cmp F.num F.pow F.len F.err ⟨bv,vs,sX,xU.mono zg yH,ko.mono zg (fun _ _ _ _ _ ho=>ho) _ _ Hr⟩ jh sZ) ?_;rintro e w6 ⟨S,o⟩;unfold Ix at o;rw[c] at o;have o:e = ah (ak #[aq V,zi (d:Int),zi (a0:Int)]):=o;subst o;have g6:=S.ext _ _ g5;refine cG @g6 ?_;exact p _ ((Ng.trans g).trans S)
  .have B:(((116:UInt8).toNat:Nat):Int)=116:=rfl;refine dy @B @g4 ?_;refine a0c (aLI s h zo b.two b.pow b.err) ?_;rintro e t ⟨g,f⟩;unfold P.term at f;rw[c] at f;have f:e = ah (ak #[aM [],zi (d:Int),zi (a0:Int)]):=f;subst f;have g5:=g.ext _ _ g4;refine cG @g5 ?_;exact p _ (Ng.trans g)
open Go.ChangeShapes Go.WideShapes Go.ChangeMaps
def aTL{n:Int}(h:(Lit.int .i64 n).wf=A):-9223372036854775808<=n/\n<=9223372036854775807:=by
 have h:(decide ((-9223372036854775808:Int)<=n) && decide (n<=9223372036854775807))=true:=h;grind
def aTM(os:Os)(started:os.Started)(H:Type)(enc:TypeId×Y->H) :
  ReturnsInHanded {} Tryz.checked os 3 .any (fun w args=>(Rows.knownSpec.pre enc bal Tryz.f3 [] G w args/\laidMetH bal Rows.knownRow.laid w)/\sizedMet enc bal Tryz.f3 (a36 Rows.knownSpec) G w args)
   (Rows.knownSpec.post enc bal Tryz.f3 G A G G):=by
 refine aTr (C:=Tryz.checked) (X:=fun w _=>laidMetH bal Rows.knownRow.laid w) (by grind [laidMetH.of_heap]) Tryz.own started zk func3
  (ChangeSpec.witness_shaped (enc:=enc) (C:=Tryz.checked) (os:=os) (X:=fun w _=>laidMetH bal Rows.knownRow.laid w) G (Zb Rows.knownRow.laid os) #[zi 0,.bool G] 8 (aTq _ _) (World.shaped_of_ZipB zk zk) zk zk zk (aTx os _)) ?_
 intro W base args ds gs before a g k l m;have c:∀ (j:Nat) t v,Tryz.f3.params[j]?=O t->args[j]?=O v->Value.okWide bal W .any base t v:=a;have d:=g;obtain⟨p,q,f,o,rfl,y,z⟩:=g;have h:DataW.TrodAll enc bal W 0 (fun _=>A) A Tryz.f3.params.toList args.toList ds p:=f;rw[Tryz.params3] at h c;obtain⟨v0,v1,d0,d1,p0,p1,rfl,rfl,rfl,r,s⟩:=trodAll_two h;obtain⟨rfl,rfl⟩:=trodVars_none o;obtain⟨n,rfl,rfl,rfl,i⟩:=open_int underlying3 (c 0 3 v0 J J) r;obtain⟨b,rfl,rfl,rfl⟩:=open_bool underlying4 (c 1 4 v1 J J) s;have u:Og W:=aTn l m zk zk zk zk zk zk zk;refine(aTE n b W (aTL i) u).mono fun e B ⟨x,he⟩=>?_;subst he;refine⟨_,J,_,_,_,[],[],[],d,?_,?_,?_,aTo x _,zg⟩
 .exact trodAll_mk1 (shut_bool underlying4 A)
 .exact trodAll_mk2 (shut_int underlying3 i) (shut_bool underlying4 b)
 .rfl
def aTQ:Rows.KnownSaid:=
 OpenClaim.holds_of_wide 3 Tryz.f3 J J J J J J J ⟨J,J,J,J,J⟩ J J J J J zk func3 zk
  (of_decide_eq_true zk) (by unfold Func.isWrapper;first | (rw[zip (by decide +kernel)];kernel_rfl) | (rw[bX (by decide +kernel)];exact⟨J,J⟩))
  (fun os started H enc _=>aTM os started H enc)
end Go.Proofs.YtoegidfbnkaabaaGreatDoor
namespace Go.Proofs.YtoegidfbnkaabaaGreatDoor
open P
open Go
theorem known_card:Rows.KnownCardSaid:=
 Claim7.holds_tied_plain_at .later [] [.data,.data,.data,.data,.handle,.sentinel,.sentinel,.data,.data,.data,.pinned] A (A, "71501c33516f01a4d740c2783eba7adf29c72c81702371d8bc22e96ca6284450") A
  aTQ zg zk zg known_row_tie J ⟨J,J⟩ zk J
  (fun f fn b a=>by
   obtain rfl:f=3:=a0g ((show Tryz.prog.funcNamed "horn/hornkeep.Known" = O 3 by kernel_rfl).symm.trans b) |>.symm;obtain rfl:fn=Tryz.f3:=(a0g (Tryz.func3.symm.trans a)).symm;exact⟨zk,fun j t ht=>by
    rw[Tryz.params3] at ht;have c:t=3\/t=4:=by
     grind
    rcases c with rfl | rfl
    .exact(show Tryz.prog.wantsStandIn 3=G by kernel_rfl)
    .exact(show Tryz.prog.wantsStandIn 4=G by kernel_rfl)⟩)
  zk
end Go.Proofs.YtoegidfbnkaabaaGreatDoor
