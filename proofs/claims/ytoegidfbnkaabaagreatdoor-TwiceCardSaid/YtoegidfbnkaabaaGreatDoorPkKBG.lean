/- A part of one proof (KR2, KR3, ShX7, KL1, KA2, KA3, KL4, KL6, PureNz, PureTt, KL8, KL9, KZTwice, KZTwiceb, KZTwicec). -/
import Derived.Test.YtoegidfbnkaabaaGreatDoorPkKBF
import Derived.Lib.LaidTab
import Derived.LaidLaws
import Derived.Shelf.Vars
import Derived.ProofKit
import Derived.LaidMore
import Derived.OpenShut
import Derived.LaidHandle
import Derived.LaidSub
import Derived.MakeChecks
import Derived.Stop.Joined
import Derived.Test.YtoegidfbnkaabaaGreatDoorRows
import Derived.JoinedOf
import Derived.ChangeMaps5
import Derived.Lay
import Derived.Test.YtoegidfbnkaabaaGreatDoorTie
import Derived.Test.YtoegidfbnkaabaaGreatDoorCards
import Derived.SevenTiedAt
set_option linter.all false
set_option maxRecDepth 100000
set_option maxHeartbeats 8000000
open Option renaming some → O, none → V
open Go renaming Value → Y, World → Z
open Bool renaming true → A, false → ae
open Go.Obj renaming cells → ah
open Go.Ending renaming returned → ai
open Go.Value renaming nilIface → aj, iface → ak, tuple → aq, pointer → au
open Option.some renaming injEq → a0z, inj → a0G
open Go.Calls renaming mono → a0C
open List renaming getElem?_eq_getElem → a0F, drop_eq_getElem_cons → a0I, getD_eq_getElem?_getD → a05, range → a09
open Prod.mk renaming injEq → a0X
open Nat renaming lt_of_lt_of_le → a01
open Go.World renaming cell? → a1f
open List.cons renaming injEq → a2Z
open Go.OpenSpec renaming ofChange → a4x
open Go.Proofs.Tryz renaming prog → baM
open Go.Proofs.Tryz
namespace Go.Proofs.YtoegidfbnkaabaaGreatDoor
open P
open Go.RowKit Sx
variable{D:Nat->Prop}{E:En}{W w w' w1:Z}{c d e f g k n nv qb xb:Nat}{s:Bs}{v:Y}{vars:List Bs}
def P.as0{x:Bd}{vs:List Bs}(h:sK q8 s = .ok x k vs):vs.length<=12/\iZ x<=5800:=by
 obtain⟨d,f⟩:=P.Ua h;refine⟨d.1,?_⟩;unfold sK at h;split at h
 .grind
 .split at h
  .grind
  .rename_i T b;have a:=SX b;have g:Cq T:=⟨MZ _ _ _ _ (by rw[Sw,b]),fun u hu hk=>by
    obtain⟨c,r,e,-⟩:=(a.tok u hu).2.2.1 hk;grind,fun u hu hk=>((a.tok u hu).2.1 hk).2.1⟩
   have i:=a.len;grind [P.ani,ani]
def P.ah4{cs:List Cl}{vs:List Bs}(h:P.program s = .ok cs k vs):cs.length<=40/\∀ c∈cs,P.qE c:=by
 unfold P.program at h;split at h
 .grind
 .split at h
  .grind
  .rename_i T b;have a:=SX b;have d:Cq T:=⟨MZ _ _ _ _ (by rw[Sw,b]),fun u hu hk=>by
    obtain⟨c,r,e,-⟩:=(a.tok u hu).2.2.1 hk;grind,fun u hu hk=>((a.tok u hu).2.1 hk).2.1⟩
   have f:=a.len;exact aIm d (fun u hu hk=>(a.tok u hu).2.2.2.1 hk) zo h
def P.as2{cs:List Cl}{x:Bd}{t:Bs}(b:∀ c∈cs,P.qE c)(d:cs.length<=40)(hx:eY nv 2900 x)(f:iZ x<=5800)(g:nv<=12)(h:Ay cs x nv=O t):Te t:=by
 unfold Ay at h;split at h
 .grind
 .rename_i l e;split at h
  .grind
  .rename_i a i;cases h;exact aIE (anG b d e).1 (by grind [P.Xo,P.fg.nil,fL,Xo,fg.nil]) zo
def as3(w:Z)(v:Y)(c:Nat)(a:Int):Prop:=(∃ b,v = ak 73 (ptr b)/\w.heap[b]?=aP #[zi (c:Int),zi a] 77)\/(v = ak 27 (zi (c:Int))/\a=-1)
def Rc(names:List Bs)(w w':Z)(qb:Nat)(E:En)(st:E.St):Prop:=Ub names w w' qb E st/\IH names/\∀ k l,E.told k = .ok l->l.length=names.length
def ah5(cs:List Cl)(q:Bs)(machine:Bool)(w:Z)(e:Ending)(w':Z):Prop:=Ext w w'/\match CD cs q machine with
 | .err c a=>∃ v,e = ai (aq #[au V,v])/\as3 w' v c a
 | .ok E st names=>∃ qb,e = ai (aq #[ptr qb,aj])/\Rc names w w' qb E st
theorem P.as4(m:Vm):∀ (l:List Nat) (r:List Tm),m.iI l = .ok r->r.length=l.length
 | [],r,h=>by
  unfold Vm.iI at h;cases h;rfl
 | k::l,r,h=>by
  unfold Vm.iI at h;split at h
  .split at h
   .rename_i a b;cases h;rw[List.length_cons,List.length_cons,P.as4 m l a b]
   grind
  grind
def aTf(q:Bs)(machine:Bool){cs:List Cl}(M:q.length<=100000)(N:Iz w)(hC:mP w w.heap.size)(hV:BI w)(Q:lP w)(hL:FT w)(hx:I3 w xb cs)(m:∀ c∈cs,P.qE c)(S:cs.length<=40) :
  Calls baM 26 #[pp xb,aW q,.bool machine] w (ah5 cs q machine w):=by
 cases machine with
 | false=>
  refine(aMY q M N hC hx (fun c E=>(m c E).cl) (fun c E=>by have:=(m c E).name;omega) zo zo zo).mono ?_;rintro e w' ⟨g,h⟩;refine⟨g,?_⟩;unfold CD;cases hr:sK q8 q with
  | err c a=>
   rw[hr] at h;obtain⟨b,rfl,o⟩:=h;exact⟨_,J,.inl yH⟩
  | ok x k vs=>
   rw[hr] at h;obtain⟨qb,rfl,o⟩:=h;refine⟨qb,J,o,(P.Ua hr).1,fun k l h=>?_⟩;have h:Except.ok ((a09 vs.length).map Tm.var)=Except.ok l:=h;grind
 | true=>
  suffices H:∀ R:Ending->Z->Prop,(∀ e w',ah5 cs q A w e w'->R e w')->Calls baM 26 #[pp xb,aW q,.bool A] w R from H _ zg;intro R d;unfold ah5 CD at d;refine aoE ?_;refine bF ?_;refine(apk q w M N hC).mono ?_;rintro e w1 ⟨g,i⟩;have s1:=g.size;cases hr:sK q8 q with
  | err c a=>
   rw[hr] at i d;obtain⟨b,rfl,o⟩:=i;refine bF ?_;exact d _ _ ⟨g,_,J,.inl yH⟩
  | ok x k vs=>
   rw[hr] at i d;simp only[if_true] at d;obtain⟨b,rfl,-,T,qxb,U,W,X,nK,KF⟩:=i;obtain⟨v,fX,g1,g2,g3⟩:=hx.iJ (eM.ed g);obtain⟨sa,sc,rfl⟩:=g2.sl;have l1:=bn g1;obtain⟨CM,yl⟩:=P.Ua hr;obtain⟨-,Lx⟩:=P.as0 hr;refine cM @g1 ?_;refine a0C (aRr g2 g3 m S X zg ⟨[],.inl ⟨J,J⟩,by unfold eT;rfl⟩ (dM.mono zg yH _ _ nK) yl Lx T (Q.ext g)) ?_;rintro e w2 ⟨F,f⟩;have s2:=F.size;have r:=g.trans F;cases s:Ay cs x vs.length with
   | none=>
    rw[s] at f d;have f:e = ai (aq #[aW [],.bool ae]):=f;subst f;refine bF ?_;exact d _ _ ⟨r,_,J,.inr ⟨J,J⟩⟩
   | some t=>
    rw[s] at f d;have f:e = ai (aq #[aW t,.bool A]):=f;subst f;have ZA:=P.as2 m S yl Lx T s;refine bF ?_;refine a0C (aTd t (hV.ext r) (Q.ext r) (hL.ext r) fun ps c n G=>(ady G ZA).2.1.sl) ?_;rintro e w3 ⟨eK,u⟩;have s3:=eK.size;unfold P.runT at d;dsimp only at d;cases B:ri t with
    | error ca=>
     obtain⟨c,a⟩:=ca;rw[B] at u d;dsimp only at d;obtain⟨b',rfl,o⟩:=u;refine bF ?_;refine⟨fun _ w'=>w'=w3,?_,?_⟩
     .exact eS
     .rintro z C rfl dd;exact d _ _ ⟨yF,_,J,.inl yH⟩
    | ok y=>
     obtain⟨ps,c,n⟩:=y;rw[B] at u d;dsimp only at d;obtain⟨qb,vb,kb,ab,pb,rfl,I,a0o,eh,K,KH,hEb,a0q,hm⟩:=u;have Ah:=aI8 s B;subst Ah;obtain⟨G,tR,Nf⟩:=ady B ZA;have xl:=(F.trans eK).ext _ _ X;have j:w3.heap[qb]?=aP #[ak 111 (pp vb),pq vb 1,.func (.func 36) #[pp vb] #[],b9,aj] 121:=I;have lq:=bn j;refine bF ?_;refine⟨fun _ w'=>w'=bT w3 qb (ah #[ak 111 (pp vb),pq vb 1,.func (.func 36) #[pp vb] #[],.slice U vs.length W,aj] 121),?_,?_⟩
     .exact lW xl j
     .rintro z C jw dd;have L:Ext K C:=yF;have g4:C.heap[qb]?=aP (Yl (QN ps vs.length vb kb ab pb) (.slice U vs.length W) V) 121:=yH;have GZ:Ext w1 C:=yF;clear jw;refine d _ _ ⟨yF,qb,J,⟨QN ps vs.length vb kb ab pb,(by grind [aqI,vmD,P.ade.cls]),eh,by have:=KH.size;omega,P.asZ tR Nf,fun _=>0,fun D hD=>⟨⟨_,g4,KF.mono zg (by grind [bD.ext])⟩,fun _=>?_⟩⟩,CM,fun k l h=>?_⟩
      .exact(aqI _ _ _ _ _ _ (fun p i=>(G p i).cls) zo).ext zg L
      .have h:k.iI (a09 vs.length) = .ok l:=h;grind [P.as4,List.length_range]
def aTi{a:Int}(h:as3 w v c a)(d:Cr w):Calls baM 23 #[v] w fun e w'=>Ext w w'/\e = ai (aq #[zi (c:Int),zi a]):=by
 rcases h with⟨b,rfl,f⟩| ⟨rfl,rfl⟩
 .exact amt b c a w f d
 .exact apM c w d
def ZB(cs:List Cl)(q:Bs)(machine:Bool)(w:Z)(e:Ending)(w':Z):Prop:=Ext w w'/\match CD cs q machine with
 | .err c a=>e = ai (aq #[au V,.int .i64 (c:Int),.int .i64 a])
 | .ok E st names=>∃ qb,e = ai (aq #[ptr qb,.int .i64 0,.int .i64 (-1)])/\Rc names w w' qb E st
def aTj(q:Bs)(machine:Bool){cs:List Cl}(h:q.length<=100000)(i:Iz w)(hC:mP w w.heap.size)(j:BI w)(k:lP w)(l:FT w)(m:Cr w)(hx:I3 w xb cs)(n:∀ c∈cs,P.qE c)(o:cs.length<=40) :
  Calls baM 15 #[pp xb,aW q,.bool machine] w (ZB cs q machine w):=by
 suffices H:∀ R:Ending->Z->Prop,(∀ e w',ZB cs q machine w e w'->R e w')->Calls baM 15 #[pp xb,aW q,.bool machine] w R from H _ zg;intro R b;refine aKU ?_;refine(aTf q machine h i hC j k l hx n o).mono ?_;rintro e w1 ⟨p,d⟩;unfold ZB at b;cases hr:CD cs q machine with
 | err c a=>
  rw[hr] at d b;obtain⟨v,rfl,f⟩:=d;refine bF ?_;refine(aTi f (m.ext p)).mono ?_;rintro e w2 ⟨g,rfl⟩;refine bF ?_;exact b _ _ yF
 | ok E st names=>
  rw[hr] at d b;obtain⟨qb,rfl,f,r⟩:=d;refine bF ?_;refine(acY w1).mono ?_;rintro e w2 ⟨g,rfl⟩;refine bF ?_;exact b _ _ ⟨yF,qb,J,f.ext g,r⟩
open Go.Proofs.YtoegidfbnkaabaaGreatDoor.Sx
section
variable{p0 p1 p2 p3 p4 p5 p6 p7:Y}{w:Z}{R:Ending->Z->Prop}
def aTk:=cz w R [p0,p1,p2] (gc [] [] [2,21,26,32]) func20
def aTl:=cz w R [] (gc [] [] [0,26,27]) func21
def aTm:=cz w R [p0,p1,p2] (gc [(13,[19])] [(2000,[34]),(3001,[]),(10000,[77]),(11001,[]),(18000,[108]),(19004,[])] [2,6,7,24,32,33,34,35,43,45,49,57,76,77,83,84,86,107,108]) func7
end
structure BL(w:Z):Prop where
 two:Iz w
 cmp:mP w w.heap.size
 num:BI w
 pow:lP w
 len:FT w
 err:Cr w
 gp:4<w.heap.size
 ge:0<w.heap.size
theorem BL.ext{w w':Z}(h:BL w)(a:Ext w w'):BL w':=
 ⟨h.two.ext a,⟨a01 h.cmp.lt a.size,(h.cmp.ext fun b o _=>a.ext b o).cell⟩,h.num.ext a,h.pow.ext a,h.len.ext a,h.err.ext a,a01 h.gp a.size,a01 h.ge a.size⟩
def as6{LO:Qs E}{X:By E}(L:Hb X){q:Qs E}{a:Bs×Nat}(b:q.1=V->X.Good c q.2/\mh (E.sr q.2).tr)(e:c<=700)(h:xe E vars d f q=O (a,LO)):LO.1=V->X.Good (c+1) LO.2:=by
 unfold xe at h;split at h
 .grind
 .rename_i he;obtain⟨b,ht⟩:=b he;split at h
  .grind
  .grind
  .grind
  .rename_i k g;split at h
   .grind
   .split at h
    .grind
    .grind
    .simp only[a0z,a0X] at h;obtain⟨-,rfl⟩:=h;exact fun _=>(L.yB b e ht g).2 _
def Live(names:List Bs)(w1 w:Z)(qb:Nat)(E:En)(q:Qs E)(c:Nat):Prop:=
 ∃ X:By E,(Hb X/\QA X)/\qb≠X.eb/\w1.heap.size<=qb/\Ext w1 w/\(q.1=V->X.Good c q.2)/\IH names/\(∀ k l,E.told k = .ok l->l.length=names.length)/\∃ ρ,xo X (fun b=>w1.heap.size<=b) ρ qb names w q
def Rc.live{st:E.St}(h:Rc vars w w' qb E st)(a:Ext w w'):Live vars w w' qb E (V,st) 0:=by
 obtain⟨⟨X,L,b,c,f,ρ,g⟩,d,e⟩:=h;exact⟨X,L,b,c,a,zg,d,e,ρ,yH⟩
def as7(h:Ext w1 w)(a:K8 D qb w w')(hD:∀ b,D b->w1.heap.size<=b)(e:w1.heap.size<=qb):Ext w1 w':=
 ⟨a.os.trans h.os,a.tape.trans h.tape,a.output.trans h.output,Nat.le_trans h.size a.size,fun b o c _=>a.block b o (h.ext b o c) (by
  have:=bn c;rintro (⟨d,-⟩| d)<;>grind)⟩
def aTn{LO:Qs E}{rP:Bs×Nat}{q:Qs E}(h:Live vars w1 w qb E q c)(a:BL w1)(i:c<=700)(hr:xe E vars d f q=O (rP,LO)) :
  Calls baM 16 #[ptr qb] w fun e w'=>e = ai (aq #[aW rP.1,zi ((rP.2:Nat):Int)])/\Live vars w1 w' qb E LO (c+1):=by
 obtain⟨X,L,j,k,b,l,g,m,ρ,n⟩:=h;have s1:=b.size;refine(apN L.1 n yH (by have:=a.gp;omega) (by have:=a.ge;omega) (a.pow.ext b) (a.err.ext b) j (by have:=a.gp;omega) (by have:=a.ge;omega) l i (fun nm o=>⟨(g.2 nm o).1,by have:=(g.2 nm o).2;omega⟩) g.1 m hr).mono ?_;rintro e w' ⟨p,rfl,eO,r⟩;refine⟨J,X,L,j,k,as7 b p yH k,?_,g,m,eO,r⟩;refine as6 L.1 (fun he=>⟨l he,?_⟩) i hr;obtain⟨cs,tv,-,s⟩:=L.1.st (n.live he);exact s.ok
open Go.ChangeShapes Go.WideShapes Go.ChangeAt Go.WideMaps Go.WideElems
def as8{P:Program}{name:String}{t:Nat}{ss:List (List UInt8)}(d:P.globalNamed name=O g)(ht:(P.globals[g]?).map (·.type)=O t)
  (hu:P.underlying t=O (.array n e)) (he:P.underlying e=O .string) (j:P.cellsOf e=1) (D:P.cellsOf t=n)
  (h:laidMet P [(name,.agg (ss.map fun s=>.lit (.string s)))] W):∃ cs T z,W.heap[g]?=O (ah cs T z)/\cs.toList=ss.map fun s=>.string ⟨s.toArray⟩:=by
 obtain⟨ps,⟨E,F,cs,f,p,q,k,l,hv,o,-,-⟩,-,-⟩:=h;obtain rfl:=a0G (d.symm.trans k);obtain rfl:=a0G (ht.symm.trans l);have r:∃ T z,W.heap[g]?=O (ah cs T z):=by
  grind [World.var?,a0z]
 obtain⟨T,z,u⟩:=r;obtain⟨xs,m,rfl,hx,G,H,w⟩:=DataW.trod_array hu o;simp only[a0X,DataW.agg.injEq] at hx;have hlen:ss.length=xs.length:=by have:=congrArg List.length hx.1;simpa using this
 refine⟨cs,T,z,u,?_⟩;refine List.ext_getElem zg fun i x I=>?_;have y:i<n:=zo;have a:=w i y;have B:(cs.toList.drop (i*P.cellsOf e)).take (P.cellsOf e)=[cs.toList[i]]:=by
  rw[j,Nat.mul_one,a0I x];rfl
 rw[B,a0F zo] at a;obtain⟨s,b,C,-⟩:=DataW.trod_string he a;simp only[a2Z,and_true] at b;have c:(ss.map fun s=>(DataW.lit (.string s):DataW Unit))[i]' zg=(xs.map (·.1))[i]' zg:=by
  grind
 simp only[List.getElem_map,C,DataW.lit.injEq,Lit.string.injEq] at c;rw[b,List.getElem_map,c]
def Rd{P:Program}{l:List (String×DataW Unit)}{name:String}{d:DataW Unit}(h:laidMetH P l W)(a:(l.filter fun x=>x.1 == name)=[(name,d)])(b:d.handleName?.isNone=A) :
  laidMet P [(name,d)] W:=by
 have c:=h.filter fun x=>x.1 == name;grind [MakeChecks.laidMetH_plain]
def aTo:Tryz.prog.globalNamed "horn/syntax.signs" = O 1:=zk
def as9:Tryz.prog.globalNamed "horn/syntax.levels" = O 2:=zk
def aTp:Tryz.prog.globalNamed "horn/syntax.compare" = O 3:=zk
def aTq:Tryz.prog.globalNamed "errors.errorType" = O 0:=zk
def Tryz.rt:(Tryz.prog.cutTypes.find? (·.1 == "internal/reflectlite.rtype")).map (·.2)=O 219:=zk
def aTr:((a09 (476-100)).filter fun t=>Tryz.prog.rowNamed t [101,114,114,111,114])=[57]:=zk
theorem Tryz.size:Tryz.prog.types.size=476-100:=zk
def aTs{l:List (String×DataW Unit)}(h:laidMetH baM l W)(c:(l.filter fun x=>x.1 == "errors.errorType")=[("errors.errorType",Rows.laid_errors_errorType)]):Cr W:=by
 have a:=h.filter fun x=>x.1 == "errors.errorType";rw[c] at a;have d:laidMet baM [] W/\handlesMet baM [("errors.errorType",Rows.laid_errors_errorType)] W:=a;obtain⟨name,u,ty,e,f,j,k,b⟩:=d.2 _ (List.mem_singleton.2 J);have g:name=[101,114,114,111,114]:=(a0G e).symm;subst g;obtain rfl:=a0G (Tryz.rt.symm.trans f);have hm:ty∈(a09 (476-100)).filter fun t=>Tryz.prog.rowNamed t [101,114,114,111,114]:=(by grind [Tryz.size]);rw[aTr] at hm;obtain rfl:=List.mem_singleton.1 hm;have i:typeHandle baM 57=pq 12 57:=zk;rw[i] at b;unfold Cr;simpa using World.var?_cell aTq b 0
def aTt{l:List (String×DataW Unit)}(h:laidMetH baM l W)(b:(l.filter fun x=>x.1 == "horn/syntax.signs")=[("horn/syntax.signs",Rows.laid_horn_syntax_signs)]):MM W:=by
 have c:=Rd h b J;obtain⟨cs,T,z,d,a⟩:=as8 (ss:=oC) aTo (t:=_) (e:=9) (n:=23) J J underlying9 zk zk c;refine⟨cs,T,z,d,?_,?_⟩
 .rw[<- Array.length_toList,a];decide
 .rw[a];rfl
def aTu{l:List (String×DataW Unit)}(h:laidMetH baM l W)(b:(l.filter fun x=>x.1 == "horn/syntax.compare")=[("horn/syntax.compare",Rows.laid_horn_syntax_compare)]):mP W W.heap.size:=by
 have c:=Rd h b J;obtain⟨cs,T,z,a,d⟩:=as8 (ss:=LX) aTp (t:=_) (e:=9) (n:=9) J J underlying9 zk zk c;refine⟨bn a,fun j f=>?_⟩;have g:cs[j]?=cs.toList[j]?:=zg;simp only[a1f,a];rw[bO zs,g,d,List.getElem?_map,a05,a0F (show j<LX.length from f)];rfl
def aTv{P:Program}{t:Nat}{ss:List (List UInt8)}{x:List MemPlace}(hu:P.underlying t=O (.slice e))(he:P.underlying e=O .string)(d:P.cellsOf e=1)(g:0<ss.length)
  (h:DataW.trod (fun _=>()) P W 0 (fun _=>A) ae f t [v]=O (.slice (ss.map fun s=>.lit (.string s)) [],x)) :
  ∃ b o c,b<W.heap.size/\v = .slice (O ⟨b,o,V⟩) ss.length c/\∀ j,j<ss.length->W.cell? ⟨b,o+j,V⟩=O (.string ⟨(ss.getD j []).toArray⟩):=by
 obtain⟨a,cap,i,-,k⟩:=open_row hu d h;simp only[a2Z,and_true,List.length_map] at i;have key:∀ j,j<ss.length->W.cell? (a.add j)=O (.string ⟨(ss.getD j []).toArray⟩):=fun j l=>by
  obtain⟨u,n,q,m,c2⟩:=k j (.lit (.string ss[j])) zg;obtain⟨s,d1,d2,-⟩:=DataW.trod_string he c2;simp only[a2Z,and_true] at d1;simp only[a0X,DataW.lit.injEq,Lit.string.injEq] at d2;rw[m,d1,a05,a0F l,Option.getD_some,d2.1]
 have w:=key 0 g;obtain⟨b,o,sp⟩:=a;have p:sp=none:=by
  cases sp with
  | none=>rfl
  | some y=>
   grind [a1f,Addr.add]
 subst p;have r:∀ j,(⟨b,o,V⟩:Addr).add j=⟨b,o+j,V⟩:=(by grind [Addr.add]);grind [a1f,Array.getElem?_eq_some_iff]
def aTw{l:List (String×DataW Unit)}(h:laidMetH baM l W)(j:(l.filter fun x=>x.1 == "horn/syntax.levels")=[("horn/syntax.levels",Rows.laid_horn_syntax_levels)]):zV W W.heap.size:=by
 obtain⟨ps,⟨H,I,cs,f,p,q,k,r,hv,u,-,-⟩,-,-⟩:=Rd h j J;obtain rfl:=a0G (as9.symm.trans k);obtain rfl:=a0G ((show(Tryz.prog.globals[2]?).map (·.type)=O _ from J).symm.trans r);obtain⟨xs,m,rfl,hx,w,K,y⟩:=DataW.trod_array (n:=2) (e:=39) J u;have B:∃ T z,W.heap[2]?=O (ah cs T z):=by
  simp only[World.var?,as9,Option.bind_some] at hv;split at hv
  .simp only[a0z] at hv;subst hv;exact⟨_,_,by assumption⟩
  .cases hv
 obtain⟨T,z,a⟩:=B;have C:Tryz.prog.cellsOf 39=1:=zk;have L:cs.toList.length=2:=by rw[w];kernel_rfl
 simp only[a0X,Rows.laid_horn_syntax_levels,DataW.agg.injEq] at hx;refine⟨bn a,fun i d=>?_⟩;have g:=y i d;have D:(cs.toList.drop (i*Tryz.prog.cellsOf 39)).take (Tryz.prog.cellsOf 39)=[cs.toList[i]]:=by
  rw[C,Nat.mul_one,a0I zo];rfl
 rw[D,a0F zo] at g;have E:xs[i].1 = .slice ((P.ops i).map fun s=>.lit (.string s)) []:=by
  have:(xs.map (·.1))[i]' zg=xs[i].1:=zs;rw[<- this];simp only[<- hx.1]
  match i,d with
  | 0,_=>rfl
  | 1,_=>rfl
 obtain⟨b,o,c,F,M,G⟩:=aTv (ss:=P.ops i) (x:=xs[i].2) (t:=39) (e:=9) underlying39 underlying9 zk (by grind [P.ops]) (by rw[g,<- E]);refine⟨b,o,c,F,?_,G⟩;simp only[a1f,a];grind
def aTx:Tryz.prog.globalNamed "strconv.ErrSyntax" = O 6:=zk
def aTy:Tryz.prog.globalNamed "strconv.ErrRange" = O 7:=zk
def aTz{l:List (String×DataW Unit)}(h:laidMetH baM l W)(a:(l.filter fun x=>x.1 == "internal/strconv.uint64pow10")=[("internal/strconv.uint64pow10",Rows.laid_internal_strconv_uint64pow10)]):lP W:=by
 have b:=Rd h a J;exact Lib.tabIs_of_head (zs:=Lib.pow10Tab) (k:=.u64) (n:=20) ad0 (t:=_) (e:=261) J J J zk zk b
def ata{nm a:String}{d:DataW Unit}{ms:Array (String×TypeId)}{t:TypeId}(b:Tryz.prog.globalNamed nm=O g)(ht:(Tryz.prog.globals[g]?).map (·.type)=O t)(hu:Tryz.prog.underlying t=O (.interface ms))(h:laidMet baM [(nm,.iface a d)] W):∃ t1 p1,W.cell? ⟨g,0,V⟩=O (ak t1 p1):=by
 obtain⟨ps,⟨k,l,cs,f,p,q,c,e,hv,i,-,-⟩,-,-⟩:=h;obtain rfl:=a0G (b.symm.trans c);obtain rfl:=a0G (ht.symm.trans e);obtain⟨f1,u,v,m,-⟩:=iface_of_trod hu i;have j:cs=#[ak u v]:=zg;subst j;exact⟨u,v,by simpa using World.var?_cell b hv 0⟩
def aTA(h:W.ShapedOpen baM):FT W:=cell_of_shapedOpen_int (g:=5) (t:=3) (k:=.i64) h (Nat.le_of_ble_eq_true zk) (zero:=#[zi 0]) zk J zk zk zk
def aTB{l:List (String×DataW Unit)}(h:laidMetH baM l W)(c:W.ShapedOpen baM)(d:(l.filter fun x=>x.1 == "horn/syntax.signs")=[("horn/syntax.signs",Rows.laid_horn_syntax_signs)])
  (e:(l.filter fun x=>x.1 == "horn/syntax.levels")=[("horn/syntax.levels",Rows.laid_horn_syntax_levels)]) (f:(l.filter fun x=>x.1 == "horn/syntax.compare")=[("horn/syntax.compare",Rows.laid_horn_syntax_compare)])
  (g:(l.filter fun x=>x.1 == "internal/strconv.uint64pow10")=[("internal/strconv.uint64pow10",Rows.laid_internal_strconv_uint64pow10)]) (i:(l.filter fun x=>x.1 == "errors.errorType")=[("errors.errorType",Rows.laid_errors_errorType)])
  (j:(l.filter fun x=>x.1 == "strconv.ErrSyntax")=[("strconv.ErrSyntax",Rows.laid_strconv_ErrSyntax)]) (k:(l.filter fun x=>x.1 == "strconv.ErrRange")=[("strconv.ErrRange",Rows.laid_strconv_ErrRange)]):BL W:=by
 have b:=aTs h i;have m:=aTz h g;obtain⟨t1,p1,n⟩:=ata aTx (t:=57) J underlying57 (Rd h j J);obtain⟨t2,p2,o⟩:=ata aTy (t:=57) J underlying57 (Rd h k J);have lt:∀ {a:Addr} {v:Y},W.cell? a=O v->a.block<W.heap.size:=(by grind [a1f,bn]);refine⟨⟨aTw h e,aTt h d⟩,aTu h f,⟨t1,p1,t2,p2,n,o⟩,m,aTA c,b,?_,lt b⟩;grind
end Go.Proofs.YtoegidfbnkaabaaGreatDoor
namespace Go.Proofs.YtoegidfbnkaabaaGreatDoor
open P
open Go.ChangeShapes Go.WideShapes Go.RowKit
variable{fn:Func}{FZ:Bool}{w w' w0:Z}
def Tryz.own:ownKnob Tryz.prog.godebug=none:=zk
def aTC(h:Ext w w')(may:MemPlace->Prop):w.keptBut w' may:=by
 refine⟨h.os,h.output,fun i a=>?_⟩;have e:=h.ext i _ (Array.getElem?_eq_getElem a);grind
def aTD{P:Program}{laid:List (String×DataW Unit)}(a:w'.heap=(w0.layVars P laid).heap)(b:w0.layFits P laid []=A)(c:w0.layIfaces P laid w'=A):laidMet P laid w':=by
 have d:(laid.filter fun x=>(laid.map (·.1)).contains x.1)=laid:=List.filter_eq_self.2 zg;have e:(laid.filter fun x=>!(laid.map (·.1)).contains x.1)=[]:=List.filter_eq_nil_iff.2 zg;exact laidMet_layVars (w0:=w0) (laid.map (·.1)) [] zg zg zg (by grind [LaidIn.none])
noncomputable def wH(os:Os):Z:=
 let w0:=World.holding baM os ⟨#[],#[],[]⟩
 { w0 with heap:=w0.heap.modify 0 fun
  | ah _ t frozen=>ah #[ak 219 (.agg #[au (O ⟨12,57,V⟩)])] t frozen
  | o=>o }
noncomputable def ZC(l:List (String×DataW Unit))(os:Os):Z:=(wH os).layVars baM (l.filter fun x=>x.2.handleName?.isNone)
def aTE(l:List (String×DataW Unit))(os:Os):(ZC l os).os=os:=World.layVars_os _ _ _
def aTF{H:Type}{enc:TypeId×Y->H}{a:Assume}{C:Checked}{os:Os}{f:FuncId}{s:ChangeSpec}{conds:List PathCond}{fresh handsOn again:Bool}{X:Z->Array Y->Prop}
  (n:∀ (w w':Z) (args:Array Y),w.heap=w'.heap->X w args->X w' args)
  (own:ownKnob C.prog.godebug=V) (started:os.Started) (b:C.prog.inits.idxOf? f=V) (c:C.prog.funcs[f]?=O fn)
  (witness:∃ (w:Z) (tape:Tape) (i:Input),w.os=os/\(w.forCall tape i).Shaped C.prog/\i.vars=[]/\Input.okWide C.prog (w.forCall tape i) .any w.heap.size f i /\
   ((s.pre enc C.prog fn conds FZ (w.forCall tape i).memory i.args/\X (w.forCall tape i).memory i.args)/\sizedMet enc C.prog fn (a4x s) FZ (w.forCall tape i).memory i.args)/\a.holds C.prog (lone (Frame.enter C.prog f i.args .normal) [] (w.forCall tape i)))
  (d:∀ (W:Z) (base:Nat) (args:Array Y) (ds gs:List (DataW H)) (before:List MemPlace),
   (∀ (j:Nat) t v,fn.params[j]?=O t->args[j]?=O v->Value.okWide C.prog W .any base t v)->DataW.Whole enc C.prog fn.params.toList s.vars FZ W args.toList ds gs before ->
   (DataW.weightsEach C.prog (fn.params.toList++s.plain.varTypes C.prog) (ds++gs)).all (·<=reachBytes)=A->X W args->W.ShapedOpen C.prog ->
   Calls C.prog f args W fun e m=>∃ v,e = ai v/\s.post enc C.prog fn FZ fresh handsOn again W args v m) :
  ReturnsInHanded a C os f .any (fun w args=>(s.pre enc C.prog fn conds FZ w args/\X w args)/\sizedMet enc C.prog fn (a4x s) FZ w args) (s.post enc C.prog fn FZ fresh handsOn again):=by
 refine returnsInHanded_of_calls own started b witness ?_;intro w tape i _ o _ p g _;obtain⟨_,_,_,h,k,_,_,_,_,q⟩:=p;obtain rfl:h=fn:=a0G (k.symm.trans c);obtain⟨⟨⟨ds,gs,before,hw,-⟩,hx⟩,r⟩:=g;have l:=DataW.Whole.of_heap (w':=w.forCall tape i) (by rfl) hw;refine(d (w.forCall tape i) w.heap.size i.args ds gs before q l (r.weights hw) (n _ _ _ (by rfl) hx) o).mono fun e m ⟨v,he,u⟩=>?_;grind [ChangeSpec.post_blind]
def aTL(os:Os)(args:Array Y):laidMetH baM Rows.knownRow.laid ((ZC Rows.knownRow.laid os).forCall (fun _ _=>0) ⟨#[],args,[]⟩).memory:=
 laidMetH_of_parts (aTD (w0:=wH os) (by simp [World.memory,World.forCall,Input.heap,ZC]) zk zk) zk
end Go.Proofs.YtoegidfbnkaabaaGreatDoor
namespace Go.Proofs.YtoegidfbnkaabaaGreatDoor
open P
open Go.RowKit Sx
variable{D F:Nat->Prop}{E:En}{M c d e f k nv qb told xb:Nat}{s:Bs}{v:Y}{vars:List Bs}{vs:List Y}{w w' w1:Z}
theorem aTM{cs:List Cl}(a:w.heap[xb]?=aP #[v] 72)(b:fO F w 79 v vs)(c:kr F w vs cs):I3 w xb cs:=
 ⟨v,vs,a,b.mono zg yH,kr.mono zg (fun _ _ _ _ _ d=>d) _ _ c⟩
def atc(s:Bs){w:Z}(f:s.length<=100000)(b:BL w):Calls baM 12 #[.string (bs s)] w fun e w'=>Ext w w'/\match P.program s with
  | .err c a=>e = ai (aq #[au V,.int .i64 (c:Int),.int .i64 (a:Int)])
  | .ok cs _ _=>∃ xb,e = ai (aq #[ptr xb,.int .i64 0,.int .i64 (-1)])/\I3 w' xb cs:=by
 refine(aHz s w f ⟨b.two.Gd,b.cmp,b.two.sig⟩ b.err).mono ?_;rintro e w' ⟨g,d⟩;refine⟨g,?_⟩;cases hr:P.program s with
 | err c a=>grind
 | ok cs k v=>
  rw[hr] at d;obtain⟨xb,bv,vs,rfl,h,-,i,j⟩:=d;exact⟨xb,J,(by grind [aTM])⟩
def Rf(q:Bs)(b:Bool){cs:List Cl}{v:List Bs}(d:q.length<=100000)(a:BL w)(hx:I3 w xb cs)(c:P.program s = .ok cs k v) :
  Calls baM 15 #[pp xb,aW q,.bool b] w (ZB cs q b w):=
 aTj q b d a.two a.cmp a.num a.pow a.len a.err hx (P.ah4 c).2 (P.ah4 c).1
def atd{rP:Bs×Nat}(s q:Bs)(g:Bool)(n:s.length<=100000)(o:q.length<=100000)(i:BL w)(h:P.firstT d f s q g=O rP) :
  Calls baM 20 #[aW s,aW q,.bool g] w fun e w'=>Ext w w'/\e = ai (aq #[aW rP.1,zi ((rP.2:Nat):Int)]):=by
 unfold P.firstT at h;refine aTk ?_;refine(atc s n i).mono ?_;rintro e w1 ⟨j,b⟩;split at h
 .rename_i e0 a0 hr;cases h;rw[hr] at b;have b:e = ai (aq #[au V,zi (e0:Int),zi (a0:Int)]):=b;subst b;refine bF ?_;exact yF
 .rename_i cs k v hr;rw[hr] at b;obtain⟨xb,rfl,hx⟩:=b;refine bF ?_;refine a0C (Rf q g o (i.ext j) hx hr) ?_;rintro e w2 ⟨m,c⟩;have u:=j.trans m;split at h
  .rename_i e0 a0 l;cases h;rw[l] at c;have c:e = ai (aq #[au V,zi (e0:Int),zi a0]):=c;subst c;refine bF ?_;exact yF
  .rename_i E st names l;rw[l] at c;obtain⟨qb,rfl,p⟩:=c;have r:=p.live m;obtain⟨⟨a,x⟩,t,rfl⟩:=Option.map_eq_some_iff.1 h;refine bF ?_;refine a0C (aTn r (i.ext j) zo t) ?_;rintro e w3 ⟨rfl,X,-,-,-,y,-⟩;refine bF ?_;exact yF
def aTN(a:BL w):Calls baM 21 #[] w fun e w'=>Ext w w'/\e = ai (.bool A):=by
 refine aTl ?_;refine(atd Xz XA ae zd zd a stW).mono ?_;rintro e w1 ⟨b,rfl⟩;refine bF ?_;refine a0C (atd Xz XA A zd zd (a.ext b) stV) ?_;rintro e w2 ⟨d,rfl⟩;have c:((0:Nat):Int)=0:=rfl;refine dB @stA.eq_1 c ?_;exact yF
def BN(w1:Z)(names:List Bs)(D:Nat->Prop)(w:Z)(qb:Nat)(E:En)(q:Qs E)(c:Nat):Prop:=
 ∃ X:By E,(Hb X/\QA X)/\qb≠X.eb/\D qb/\(∀ b,D b->w1.heap.size<=b/\b<w.heap.size)/\(q.1=V->X.Good c q.2)/\IH names/\(∀ k l,E.told k = .ok l->l.length=names.length)/\∃ ρ,xo X D ρ qb names w q
theorem xo.cut{E:En}{X:By E}(L:QA X){D D':Nat->Prop}{ρ:Nat->Nat}{qb:Nat}{names:List Bs}{w:Z}{q:Qs E}(h:xo X D ρ qb names w q)(a:∀ b,b<w.heap.size->D b->D' b):xo X D' ρ qb names w q:=
 ⟨h.cell,fun he=>L.cut (h.live he) a⟩
def Rc.apt{st:E.St}(h:Rc vars w w' qb E st)(a:Ext w1 w):BN w1 vars (fun b=>w.heap.size<=b/\b<w'.heap.size) w' qb E (V,st) 0:=by
 obtain⟨⟨X,L,c,i,j,ρ,d⟩,e,f⟩:=h;have g:=d (fun b=>w.heap.size<=b) fun _ h=>h;obtain⟨Hc,k,-⟩:=g.cell;have s1:=a.size;exact⟨X,L,c,yH,yH,zg,e,f,ρ,(by grind [xo.cut])⟩
theorem BN.ext{w1:Z}{names:List Bs}{D:Nat->Prop}{w w':Z}{qb:Nat}{E:En}{q:Qs E}{c:Nat}(h:BN w1 names D w qb E q c)(a:Ext w w'):BN w1 names D w' qb E q c:=by
 obtain⟨X,L,d,e,k,f,g,i,ρ,j⟩:=h;exact⟨X,L,d,e,fun b l=>⟨yH,a01 yH a.size⟩,f,g,i,ρ,j.ext L.1 a⟩
def ah9{LO:Qs E}{rP:Bs×Nat}{q:Qs E}(h:BN w1 vars D w qb E q c)(r:Ext w1 w)(m:BL w1)(x:c<=700)(hr:xe E vars d f q=O (rP,LO)) :
  Calls baM 16 #[ptr qb] w fun e w'=>e = ai (aq #[aW rP.1,zi ((rP.2:Nat):Int)])/\Ext w1 w'/\∃ D',BN w1 vars D' w' qb E LO (c+1) /\
   ∀ (i:Nat->Prop) (g:List Bs) (s:Nat) (n:En) (q2:Qs n) (c2:Nat),BN w1 g i w s n q2 c2->(∀ b,D b->¬ i b)->BN w1 g i w' s n q2 c2/\∀ b,D' b->¬ i b:=by
 obtain⟨X,L,y,N,P,B,p,C,ρ,t⟩:=h;have Q:=P qb N;have R:=t.cut L.2 (D':=fun b=>D b\/w.heap.size<=b) fun b _ a=>.inl a;have S:∀ b,D b\/w.heap.size<=b->w1.heap.size<=b:=yH;refine(apN L.1 R yH (by grind [BL.gp]) (by grind [BL.ge]) (m.pow.ext r) (m.err.ext r) y (by have:=m.gp;omega) (by have:=m.ge;omega) B x
  (fun nm F=>⟨(p.2 nm F).1,by have:=(p.2 nm F).2;omega⟩) p.1 C hr).mono ?_
 rintro e w' ⟨j,rfl,eO,Qk⟩;have hs:w.heap.size<=w'.heap.size:=j.size;obtain⟨Hc,U,-⟩:=t.cell;refine⟨J,as7 r j S Q.1,fun b=>(D b\/w.heap.size<=b)/\b<w'.heap.size,⟨X,L,y,yH,yH,?_,p,C,eO,(by grind [xo.cut])⟩,?_⟩
 .refine as6 L.1 (fun he=>⟨B he,?_⟩) x hr;obtain⟨cs,tv,-,W⟩:=L.1.st (t.live he);exact W.ok
 .intro i g s n q2 c2 ⟨X2,G,g1,g2,g3,g4,g5,g6,vM,g7⟩ a0s;have H:NW i w w':=⟨fun b cs T k a=>j.block _ _ a (by
    rintro (⟨-,cs',I,z,l,K⟩| rfl)
    .cases l;exact k (.inl K)
    .rw[U] at a;injection a with a;injection a with _ a _;exact k (.inr zg)),fun b o M a=>j.block _ _ a (by
    have:=(g3 b M).2;rintro (⟨l | l,-⟩| rfl)<;>grind),fun b es c a=>j.block _ _ a (by
    rintro (⟨-,cs',I,z,l,-⟩| rfl)<;>grind)⟩
  refine⟨⟨X2,G,g1,g2,yH,g4,g5,g6,vM,⟨?_,fun he=>G.2.bJ (g7.live he) H⟩⟩,fun b a M=>?_⟩
  .obtain⟨u,k1,k2⟩:=g7.cell;refine⟨u,H.own _ _ g2 k1,k2.mono zg fun b cs _ a=>j.block _ _ a ?_⟩;rintro (⟨-,cs',I,z,l,K⟩| rfl)
   .grind [absurd,lh]
   grind
  grind
namespace P
def NZ{α:Type}(r:Option (cg α)):Prop:=∀ e a,r=O (.err e a)->e≠0
theorem NZ.err{α:Type}{e a:Nat}(h:e≠0):NZ (O (.err e a:cg α)):=fun e' a' b=>zg
theorem NZ.ok{α:Type}{x:α}{k:Nat}{v:List Bs}:NZ (O (.ok x k v)):=fun _ _ h=>zg
theorem NZ.none{α:Type}:NZ (V:Option (cg α)):=fun _ _ h=>zg
theorem NZ.bind{α β:Type}{r:Option (cg α)}{g:α->Nat->List Bs->Option (cg β)}(h:NZ r)(c:∀ a k v,NZ (g a k v)):NZ (cg.bind r g):=by
 intro e a b;unfold cg.bind at b;split at b
 .grind
 .injection b with b;injection b with d f;subst d f;exact h _ _ J
 .exact c _ _ _ _ _ b
def NZ.Jv{α:Type}{T:List Tok}{s:Bs}{x:α}{v:List Bs}:NZ (mw T s x k v):=by
 grind [mw,ok,err]
theorem NZ.var{t:Tok}{v:List Bs}:NZ (O (xA t k v)):=by
 grind [xA,ok,err]
structure NzT(T:List Tok)(f:Nat):Prop where
 B7:∀ k v d,NZ (oE T f k v d)
 args:∀ k v d a acc,NZ (nW T f k v d a acc)
 list:∀ k v d,NZ (pE T f k v d)
 elems:∀ k v d acc,NZ (qk T f k v d acc)
 oper:∀ l k v d,NZ (jl T f l k v d)
 more:∀ l y k v d,NZ (oT T f l y k v d)
def nzT(T:List Tok):∀ f,NzT T f
 | 0=>⟨fun _ _ _=>by rw[oE];exact .none,fun _ _ _ _ _=>by rw[nW];exact .none,fun _ _ _=>by rw[pE];exact .none,fun _ _ _ _=>by rw[qk];exact .none,fun _ _ _ _=>by rw[jl];exact .none,fun _ _ _ _ _=>by rw[oT];exact .none⟩
 | f+1=>by
  have ih:=nzT T f;refine⟨fun k v d=>?_,fun k v d a acc=>?_,fun k v d=>?_,fun k v d acc=>?_,fun l k v d=>?_,fun l y k v d=>?_⟩
  .rw[oE];repeat' split
   all_goals first
    | exact .ok
    | exact .err zd
    | exact .var
    | exact ih.list _ _ _
    | exact .bind (ih.args _ _ _ _ _) fun _ _ _=>.Jv
    | exact .bind (ih.oper _ _ _ _) fun _ _ _=>.Jv
  .rw[nW];refine .bind (ih.oper _ _ _ _) fun x k' v'=>?_;repeat' split
   all_goals first
    | exact .ok
    | exact .err zd
    | exact ih.args _ _ _ _ _
  .rw[pE];split
   .exact .ok
   .refine .bind (ih.elems _ _ _ _) fun x k' v'=>?_;split
    .exact .bind (ih.oper _ _ _ _) fun _ _ _=>.Jv
    .exact .Jv
  .rw[qk];refine .bind (ih.oper _ _ _ _) fun x k' v'=>?_;split
   .exact ih.elems _ _ _ _
   .exact .ok
  .rw[jl];split
   .exact ih.B7 _ _ _
   .exact .bind (ih.oper _ _ _ _) fun _ _ _=>ih.more _ _ _ _ _
  .rw[oT];split
   .exact .ok
   .exact .bind (ih.oper _ _ _ _) fun _ _ _=>ih.more _ _ _ _ _
structure NzB(T:List Tok)(f:Nat):Prop where
 lit:∀ k v d,NZ (mL T f k v d)
 lits:∀ k v d acc,NZ (oF T f k v d acc)
 row:∀ k v d,NZ (ng T f k v d)
 rest:∀ k v d,NZ (oG T f k v d)
 body:∀ k v d,NZ (lM T f k v d)
def nzB(T:List Tok):∀ f,NzB T f
 | 0=>⟨fun _ _ _=>by rw[mL];exact .none,fun _ _ _ _=>by rw[oF];exact .none,fun _ _ _=>by rw[ng];exact .none,fun _ _ _=>by rw[oG];exact .none,fun _ _ _=>by rw[lM];exact .none⟩
 | f+1=>by
  have ih:=nzB T f;have it:=nzT T f;refine⟨fun k v d=>?_,fun k v d acc=>?_,fun k v d=>?_,fun k v d=>?_,fun k v d=>?_⟩
  .rw[mL];split
   .exact .err zd
   split
   .exact .ok
   split
   .exact .bind (ih.lit _ _ _) fun _ _ _=>.ok
   split
   .exact .bind (ih.body _ _ _) fun _ _ _=>.Jv
   .refine .bind (it.oper _ _ _ _) fun x k' v'=>?_;split
    .exact .bind (it.oper _ _ _ _) fun _ _ _=>.ok
    .repeat' split
     all_goals first
      | exact .ok
      | exact .err zd
  .rw[oF];refine .bind (ih.lit _ _ _) fun x k' v'=>?_;split
   .exact ih.lits _ _ _ _
   .exact .ok
  .rw[ng];exact .bind (ih.lits _ _ _ _) fun _ _ _=>.ok
  .rw[oG];split
   .exact .err zd
   .exact ih.body _ _ _
  .rw[lM];refine .bind (ih.row _ _ _) fun a c v1=>?_;split
   .refine .bind (ih.row _ _ _) fun b e v2=>?_;split
    .exact .bind (ih.rest _ _ _) fun _ _ _=>.ok
    .exact .ok
   .split
    .exact .bind (ih.rest _ _ _) fun _ _ _=>.ok
    .exact .ok
def NZ.tail{T:List Tok}{name:Bs}{args:List Ex}{a:Nat}{v:List Bs}:NZ (FY T f name args a k v):=by
 unfold FY;split
 .exact .err zd
 .split
  .exact .bind ((nzB T f).body _ _ _) fun _ _ _=>.Jv
  .exact .Jv
def NZ.clause{T:List Tok}:NZ (BR T f k):=by
 unfold BR;split
 .split
  .exact .bind ((nzT T f).args _ _ _ _ _) fun _ _ _=>.bind .Jv fun _ _ _=>.tail
  .exact .tail
 .exact .err zd
def atf{T:List Tok}:∀ (f k:Nat) (acc:List Cl),NZ (Bg T f k acc)
 | 0,_,_=>by unfold Bg;exact .none
 | f+1,k,acc=>by
  unfold Bg;split
  .exact .ok
  split
  .grind [NZ.err]
  .exact .bind .clause fun _ _ _=>atf f _ _
theorem atg{α:Type}{g:List Tok->cg α}(b:∀ T,NZ (O (g T))){s:Bs}{a:Nat}(h:sK g s = .err e a):e≠0:=by
 unfold sK at h;split at h
 .grind
 .split at h
  .grind
  .exact b _ _ _ (by rw[h])
theorem ath(T:List Tok):NZ (O (q8 T)):=by
 unfold q8;obtain⟨r,hr⟩:=(totB T (ur T)).body 0 [] 0 (by grind [ur]);have c:=(nzB T (ur T)).body 0 [] 0;rw[hr] at c ⊢;cases r with
 | err e a=>omega
 | ok b k v=>
  simp only;have hm:NZ (mw T [46] b k v):=.Jv;obtain⟨q,d⟩:=Io T [46] b k v;grind [NZ.err,NZ.ok]
theorem aTR{s:Bs}{a:Nat}(h:program s = .err e a):e≠0:=by
 unfold program at h;split at h
 .grind
 .split at h
  .grind
  .rename_i T _;have:=atf (T:=T) (T.length+1) 0 [];rw[aci,h] at this;exact this _ _ J
structure Vu(E:En)(G:Nat->E.St->Prop):Prop where
 tot:∀ {c s},G c s->c<=700->∃ d f r,E.nx d f (E.fu s 1000000)=O r
 mono:∀ {d f d' f' s r},E.nx d f s=O r->d<=d'->f<=f'->E.nx d' f' s=O r
 nC:∀ {c s f},G c (E.fu s f)->mi (E.sr s).tr
 yB:∀ {c d f s k},G c s->c<=700->E.nx d f (E.fu s 1000000)=O (.ok (A,k))->∀ f',G (c+1) (E.fu k f')
def ati{E:En}{G:Nat->E.St->Prop}(T:Vu E G)(names:List Bs){q:Qs E}(a:q.1=V->G c q.2)(g:c<=700):∃ d f r,xe E names d f q=O r:=by
 obtain⟨e,s⟩:=q;cases e with
 | some e=>exact⟨0,0,_,J⟩
 | none=>
  have a:=a J;obtain⟨d,f,r,h⟩:=T.tot a g;cases r with
  | error t=>exact⟨d,f,(([],t.no),(O t.no,s)),by grind [xe]⟩
  | ok p=>
   obtain⟨b,k⟩:=p;cases b with
   | false=>exact⟨d,f,(([],6),(O 6,k)),by grind [xe]⟩
   | true=>
    cases j:E.told k with
    | error t=>exact⟨d,f,(([],t.no),(O t.no,k)),by grind [xe]⟩
    | ok l=>
     obtain⟨d2,x,i⟩:=ac9 (T.nC (T.yB a g h 0)) names l ⟨(E.sr k).fuel,[],[]⟩;have m:=T.mono h (Nat.le_max_left d d2) (Nat.le_refl f);have n:=Mon.more (W6 (E.sr k).tr names l _) i (Nat.le_max_right d d2);cases x with
     | none=>exact⟨max d d2,f,(([],11),(O 11,k)),by grind [xe]⟩
     | some s=>exact⟨max d d2,f,((if s.out=[] then [116,114,117,101] else s.out,0),(V,E.fu k s.fuel)),by grind [xe]⟩
def atj{E:En}{G:Nat->E.St->Prop}(T:Vu E G){v':List Bs}{q b:Qs E}{a:Bs×Nat}(e:q.1=V->G c q.2)(g:c<=700)(h:xe E v' d f q=O (a,b)):b.1=V->G (c+1) b.2:=by
 unfold xe at h;split at h
 .grind
 .rename_i he;have e:=e he;split at h
  .grind
  .grind
  .grind
  .rename_i k i;split at h
   .grind
   .split at h
    .grind
    .grind
    .simp only[a0z,a0X] at h;obtain⟨-,rfl⟩:=h;exact fun _=>T.yB e g i _
def aid(M:Nat)(c:Nat)(s:Wk):Prop:=kP M (c*1000000) { s with sr:={ s.sr with fuel:=0 } }/\jC s.sr
def aid.full{s:Wk}(h:aid M c s):kP M (c*1000000+1000000) { s with sr:={ s.sr with fuel:=1000000 } }:=by
 obtain⟨⟨a,b,d⟩,-⟩:=h;have g2:s.sr.tr.length+0<=c*1000000:=b;exact⟨⟨a.todo,a.ag,a.marks,a.mono⟩,by show s.sr.tr.length+1000000<=_;omega,zg⟩
def wkT{base:List Cl}(fx:∀ c∈base,sN M c):Vu (Pq base nv) (aid M) where
 tot:=by
  intro c s hg hc;exact Xc fx _ A _ (Nat.lt_succ_self _) (by simp only[if_true];exact hg.full) ⟨hg.2.nC,hg.2.ok⟩
 mono:=fun h hd hf=>Xa h hd hf
 nC:=fun h=>h.2.nC
 yB:=by
  intro c d f s k hg hc h f';have h:ju base d f A { s with sr:={ s.sr with fuel:=1000000 } }=O (.ok (A,k)):=h;obtain⟨g1,g2,-,g4⟩:=S5 (B:=c*1000000+1000000) (M:=M) fx f A { s with sr:={ s.sr with fuel:=1000000 } } _ hg.full ⟨hg.2.nC,hg.2.ok⟩ h;simp only[if_true] at g1;obtain⟨q1,q2,q3⟩:=g1;have e2:k.sr.tr.length+k.sr.fuel<=c*1000000+1000000:=q2;have e3:k.br.length+k.sr.fuel<=c*1000000+1000000:=q3;exact⟨⟨⟨q1.todo,q1.ag,q1.marks,q1.mono⟩,by show k.sr.tr.length+0<=(c+1)*1000000;omega,by show k.br.length+0<=(c+1)*1000000;omega⟩,g2.nC,g2.ok⟩
def aie(told:Nat)(c:Nat)(m:Vm):Prop:=gi (c*1000000) { m with sr:={ m.sr with fuel:=0 } }/\iY told m/\∃ x,m.fs[m.f]?=O x/\x.ask=A
def aie.full{s:Vm}(h:aie told c s):gi (c*1000000+1000000) { s with sr:={ s.sr with fuel:=1000000 } }:=by
 obtain⟨a,-⟩:=h;have g1:s.sr.tr.length+0<=c*1000000:=a.cW;have g2:s.br.length+0<=c*1000000:=a.mR;exact⟨a.f,a.fr,a.ag,a.marks,a.mono,by show s.sr.tr.length+1000000<=_;omega,zg,a.pc,a.uD,a.vB⟩
def vmT{preds:List Pd}(mU:∀ p∈preds,∀ c∈p.clauses,vA c):Vu { St:=Vm,sr:=fun m=>m.sr,nv:=fun m=>m.n,fu:=fun m f=>{ m with sr:={ m.sr with fuel:=f } },nx:=fun d f m=>Cy preds d f m,told:=fun m=>m.iI (a09 told) } (aie told) where
 tot:=by
  intro c s hg hc;obtain⟨-,hl,-⟩:=id hg;exact aIf mU hg.full (show iY told { s with sr:={ s.sr with fuel:=1000000 } } from⟨hl.tr,hl.fr,hl.ag,⟨hl.sr.nC,hl.sr.ok⟩,hl.ask⟩)
 mono:=fun h hd hf=>aIg h hd hf
 nC:=fun h=>h.2.1.sr.nC
 yB:=by
  intro c d f s k hg hc h f';obtain⟨-,hl,-⟩:=id hg;obtain⟨h1,h2,h3,h4⟩:=anc mU hg.full (show iY told { s with sr:={ s.sr with fuel:=1000000 } } from⟨hl.tr,hl.fr,hl.ag,⟨hl.sr.nC,hl.sr.ok⟩,hl.ask⟩) h;have g1:k.sr.tr.length+k.sr.fuel<=c*1000000+1000000:=h1.cW;have g2:k.br.length+k.sr.fuel<=c*1000000+1000000:=h1.mR;exact⟨⟨h1.f,h1.fr,h1.ag,h1.marks,h1.mono,by show k.sr.tr.length+0<=(c+1)*1000000;omega,zg,h1.pc,h1.uD,h1.vB⟩,⟨h2.tr,h2.fr,h2.ag,⟨h2.sr.nC,h2.sr.ok⟩,h2.ask⟩,h4 J⟩
end P
def P.atk{cs:List Cl}{q:Bs}{m:Bool}{st:E.St}{names v:List Bs}(g:P.program s = .ok cs k v)(h:CD cs q m = .ok E st names):∃ G,Vu E G/\G 0 st:=by
 obtain⟨i,b⟩:=P.ah4 g;unfold CD at h;cases hr:sK q8 q with
 | err c a=>grind
 | ok x w vs=>
  rw[hr] at h;dsimp only at h;obtain⟨z,d⟩:=P.Ua hr;obtain⟨j,l⟩:=P.as0 hr;cases m with
  | false=>
   have h:Xy.ok (Pq cs vs.length) (Wk.new x vs.length) vs = .ok E st names:=h;cases h;exact⟨_,wkT (M:=2900) fun c o=>(b c o).cl,P.apK d⟩
  | true=>
   simp only[if_true] at h;cases e:Ay cs x vs.length with
   | none=>grind
   | some t=>
    rw[e] at h;have p:=P.as2 b i d l j e;unfold P.runT at h;dsimp only at h;cases f:ri t with
    | error B=>grind
    | ok y=>
     obtain⟨ps,c,n⟩:=y;rw[f] at h;have h:Xy.ok (vmE ps n) (GQ c) vs = .ok E st names:=h;cases h;obtain⟨C,r,u⟩:=ady f p;exact⟨_,vmT (told:=n) (by grind [cls,ade.cls]),P.asZ r u⟩
theorem P.aTU{cs:List Cl}{q:Bs}{m:Bool}{a:Int}(h:CD cs q m = .err e a):e≠0:=by
 unfold CD at h;cases hr:sK q8 q with
 | err c b=>
  grind [P.atg,P.ath,atg,ath]
 | ok x d vs=>
  rw[hr] at h;dsimp only at h;cases m with
  | false=>grind
  | true=>
   simp only[if_true] at h;grind [Ay,P.runT,ri]
def P.ZE:Bs:=[116,114,117,101,32,59,32,116,114,117,101,32,59,32,116,114,117,101,46]
def P.aTV(cs:List Cl):∃ E st names,CD cs P.ZE ae = .ok E st names:=by
 have h:(match sK q8 P.ZE with | .ok _ _ _=>A | .err _ _=>ae)=true:=by decide +kernel
 unfold CD;split at h
 .rename_i x k vs hr;rw[hr];exact⟨_,_,_,J⟩
 grind
def aTW(s q:Bs)(F:Bool)(hl:s.length+q.length<=4611686018427387904)(hT:BL w):Calls baM 7 #[aW s,aW q,.bool F] w fun e w'=>Ext w w'/\e = ai (.bool A):=by
 suffices H:∀ R:Ending->Z->Prop,(∀ w',Ext w w'->R (ai (.bool A)) w')->Calls baM 7 #[aW s,aW q,.bool F] w R from H _ yF;intro R hR;refine aTm ?_;refine(aTN hT).mono ?_;rintro e w1 ⟨dC,rfl⟩;refine bF ?_;by_cases hlen:s.length+q.length<=4096
 .refine⟨fun z w'=>w'=w1,?_,?_⟩
  .refine⟨fun z w'=>w'=w1/\z 34 = .bool ae,?_,?_⟩
   .have hi:¬ (s.length:Int)+(q.length:Int) > 4096:=zo;exact fj hi
   .rintro z w' ⟨rfl,j⟩ I;exact fj j
  rintro z w2 rfl I;have Q:=hT.ext dC;refine a0C (atc s zo Q) ?_;rintro e w3 ⟨eK,K⟩;have CL:=dC.trans eK;cases k:P.program s with
  | err c a=>
   rw[k] at K;have K:e = ai (aq #[au V,zi ((c:Nat):Int),zi (a:Int)]):=K;subst K;have hc:¬ ((c:Nat):Int)=0:=by grind [aTR]
   refine cM hc ?_;grind
  | ok cs kk v=>
   rw[k] at K;obtain⟨xb,rfl,S⟩:=K;have m:=Q.ext eK;refine bF ?_;refine a0C (Rf q F zo m S k) ?_;rintro e w4 ⟨l,L⟩;obtain⟨E3,st3,p,xl⟩:=P.aTV cs;cases T:CD cs q F with
   | err c a=>
    rw[T] at L;have L:e = ai (aq #[au V,zi ((c:Nat):Int),zi a]):=L;subst L;have hc:¬ ((c:Nat):Int)=0:=by grind [P.aTU]
    refine bF ?_;refine a0C (Rf q F zo (m.ext l) (S.iJ (eM.ed l)) k) ?_;rintro e w5 ⟨M,u⟩;rw[T] at u;have u:e = ai (aq #[au V,zi ((c:Nat):Int),zi a]):=u;subst u;have n:=l.trans M;refine bF ?_;refine a0C (Rf P.ZE ae zd (m.ext n) (S.iJ (eM.ed n)) k) ?_;rintro e w6 ⟨U,W⟩;rw[xl] at W;obtain⟨x,rfl,-⟩:=W;refine bF ?_;refine⟨fun _ _=>False,?_,fun _ _ h=>h.elim⟩;refine⟨fun z w'=>w'=w6/\z 77 = .bool A,?_,?_⟩
    .exact eS
    .rintro z w' ⟨rfl,j⟩ I;refine dB j hc ?_;exact hR _ ((CL.trans n).trans U)
   | ok E st names=>
    rw[T] at L;obtain⟨X,rfl,hB1⟩:=L;have Vv:=hB1.apt (bD.refl _ _);refine bF ?_;refine a0C (Rf q F zo (m.ext l) (S.iJ (eM.ed l)) k) ?_;rintro e w5 ⟨M,u⟩;rw[T] at u;obtain⟨Rg,rfl,hB2⟩:=u;have y:=hB2.apt l;have Vv:=Vv.ext M;have n:=l.trans M;refine bF ?_;refine a0C (Rf P.ZE ae zd (m.ext n) (S.iJ (eM.ed n)) k) ?_;rintro e w6 ⟨U,W⟩;rw[xl] at W;obtain⟨x,rfl,hB3⟩:=W;have hA3:=hB3.apt n;have Vv:=Vv.ext U;have y:=y.ext U;have pX:=n.trans U;obtain⟨G,hG,hG0⟩:=P.atk k T;obtain⟨G3,oB,aT1⟩:=P.atk k xl;refine bF ?_;refine⟨fun z w'=>w'=w6,?_,?_⟩
    .refine⟨fun z w'=>w'=w6/\z 77 = .bool ae,?_,?_⟩
     .exact eS
     .rintro z w' ⟨rfl,j⟩ I;exact fj j
    rintro z7 w7 rfl dd7;refine⟨fun t z w'=>∃ c q1 q3 D1 D2 D3,t=4-c/\c<=4/\z 19=zi ((c:Nat):Int)/\Ext w3 w'/\BN w3 names D1 w' X E q1 c/\BN w3 names D2 w' Rg E q1 c/\BN w3 p D3 w' x E3 q3 c /\
      (∀ b,D1 b->¬ D2 b)/\(∀ b,D1 b->¬ D3 b)/\(∀ b,D2 b->¬ D3 b)/\(q1.1=V->G c q1.2)/\(q3.1=V->G3 c q3.2),
     ⟨_,0,_,_,_,_,_,J,zo,J,pX,Vv,y,hA3,(fun b g i=>by have:=l.size;omega),(fun b g i=>by have:=l.size;have:=M.size;omega),(fun b g i=>by have:=M.size;omega),fun _=>hG0,fun _=>aT1⟩,?_⟩
    intro t z dz w8 hI;refine toPr ?_;obtain⟨c,q1,q3,D1,D2,D3,rfl,hc4,B,ti,hX,hY,hZ,d12,d13,d23,vi,xN⟩:=hI;by_cases hlt:c<4
    .have yf:((c:Nat):Int)<4:=zo;obtain⟨d,f,r,hr⟩:=ati hG names vi zo;obtain⟨ans,NK⟩:=r;obtain⟨d',f',r',ll⟩:=ati oB p xN zo;obtain⟨a0v,CP⟩:=r';refine dB B yf ?_;refine⟨fun z w'=>∃ C N D,Ext w3 w'/\BN w3 names C w' X E NK (c+1)/\BN w3 names N w' Rg E NK (c+1)/\BN w3 p D w' x E3 CP (c+1)/\(∀ b,C b->¬ N b)/\(∀ b,C b->¬ D b)/\(∀ b,N b->¬ D b),?_,?_⟩
     .refine a0C (ah9 hX ti m zo hr) ?_;rintro e w9 ⟨rfl,ml,C,Zv,o⟩;obtain⟨hY9,QR⟩:=o _ _ _ _ _ _ hY d12;obtain⟨hZ9,QU⟩:=o _ _ _ _ _ _ hZ d13;refine bF ?_;refine a0C (ah9 hZ9 ml m zo ll) ?_;rintro e jA ⟨rfl,C7,D,aT4,o⟩;obtain⟨yw,e31⟩:=o _ _ _ _ _ _ Zv fun b g i=>QU b i g;obtain⟨aT5,e32⟩:=o _ _ _ _ _ _ hY9 fun b g i=>d23 b i g;refine bF ?_;refine a0C (ah9 aT5 C7 m zo hr) ?_;rintro e jE ⟨rfl,vQ,N,ato,o⟩;obtain⟨atp,e21⟩:=o _ _ _ _ _ _ yw fun b g i=>QR b i g;have a0y:∀ b,C b->¬ D b:=zg;obtain⟨atq,e23⟩:=o _ _ _ _ _ _ aT4 fun b g i=>e32 b i g;refine bF ?_;refine⟨fun z w'=>w'=jE/\z 108 = .bool ae,?_,?_⟩
      .exact eS
      .rintro z w' ⟨rfl,j⟩ I;refine cM j ?_;exact yF
     .rintro z jE ⟨C,N,D,vQ,atp,ato,atq,QR,QU,e23⟩ I;have EA:((c:Nat):Int)+1=((c+1:Nat):Int):=zo;refine dB B @EA ?_;exact⟨_,zo,c+1,NK,CP,C,N,D,J,zo,J,vQ,atp,ato,atq,QR,QU,e23,atj hG vi zo hr,atj oB xN zo ll⟩
    .have yf:¬ ((c:Nat):Int)<4:=zo;refine dB B yf ?_;exact hR _ (CL.trans ti)
 .refine⟨fun _ _=>False,?_,fun _ _ h=>h.elim⟩;refine⟨fun z w'=>w'=w1/\z 34 = .bool A,?_,?_⟩
  .have hi:(s.length:Int)+(q.length:Int) > 4096:=zo;exact fj hi
  .rintro z w' ⟨rfl,j⟩ I;refine cM j ?_;grind
open Go.ChangeShapes Go.WideShapes Go.ChangeMaps
def aT7(os:Os)(started:os.Started)(H:Type)(enc:TypeId×Y->H) :
  ReturnsInHanded {} Tryz.checked os 7 .any (fun w args=>(Rows.twiceSpec.pre enc baM Tryz.f7 [] ae w args/\laidMetH baM Rows.twiceRow.laid w)/\sizedMet enc baM Tryz.f7 (a4x Rows.twiceSpec) ae w args)
   (Rows.twiceSpec.post enc baM Tryz.f7 ae A ae ae):=by
 refine aTF (C:=Tryz.checked) (X:=fun w _=>laidMetH baM Rows.twiceRow.laid w) (by grind [laidMetH.of_heap]) Tryz.own started zk func7
  (ChangeSpec.witness_shaped (enc:=enc) (C:=Tryz.checked) (os:=os) (X:=fun w _=>laidMetH baM Rows.twiceRow.laid w) ae (ZC Rows.twiceRow.laid os) #[aW [],aW [],.bool ae] 8 (aTE _ _) (World.shaped_of_ZipB zk zk) zk zk zk (aTL os _)) ?_
 intro W base args ds gs before b h c k l;have a:∀ (j:Nat) t v,Tryz.f7.params[j]?=O t->args[j]?=O v->Value.okWide baM W .any base t v:=b;have d:=h;obtain⟨p,q,f,m,rfl,y,z⟩:=h;have i:DataW.TrodAll enc baM W 0 (fun _=>A) A Tryz.f7.params.toList args.toList ds p:=f;rw[Tryz.params7] at i a;obtain⟨v0,v1,v2,d0,d1,d2,p0,p1,p2,rfl,rfl,rfl,n,g,o⟩:=trodAll_three i;obtain⟨rfl,rfl⟩:=trodVars_none m;obtain⟨s0,rfl,rfl,rfl,r⟩:=open_string underlying9 (a 0 9 v0 J J) n;obtain⟨s1,rfl,rfl,rfl,s⟩:=open_string underlying9 (a 1 9 v1 J J) g;obtain⟨b2,rfl,rfl,rfl⟩:=open_bool underlying4 (a 2 4 v2 J J) o;have u:BL W:=aTB k l zk zk zk zk zk zk zk;refine(aTW s0.data.toList s1.data.toList b2 (by have g:(decide (s0.data.toList.length<=reachBytes) && (decide (s1.data.toList.length<=reachBytes) && A))=true:=c;unfold reachBytes at g;grind) u).mono fun e B ⟨x,he⟩=>?_;subst he;refine⟨_,J,_,_,_,[],[],[],d,?_,?_,?_,aTC x _,zg⟩
 .exact trodAll_mk1 (shut_bool underlying4 A)
 .exact trodAll_mk3 (shut_string underlying9 r) (shut_string underlying9 s) (shut_bool underlying4 b2)
 .rfl
def aUc:Rows.TwiceSaid:=
 OpenClaim.holds_of_wide 7 Tryz.f7 J J J J J J J ⟨J,J,J,J,J⟩ J J J J J zk func7 zk
  (of_decide_eq_true zk) (by unfold Func.isWrapper;first | (rw[zip (by decide +kernel)];kernel_rfl) | (rw[bO (by decide +kernel)];exact⟨J,J⟩))
  (fun os started H enc _=>aT7 os started H enc)
end Go.Proofs.YtoegidfbnkaabaaGreatDoor
namespace Go.Proofs.YtoegidfbnkaabaaGreatDoor
open P
open Go
theorem twice_card:Rows.TwiceCardSaid:=
 Claim7.holds_tied_plain_at .later [] [.data,.data,.data,.data,.handle,.sentinel,.sentinel,.data,.data,.data,.pinned] A (A, "71501c33516f01a4d740c2783eba7adf29c72c81702371d8bc22e96ca6284450") A
  aUc zg zk zg twice_row_tie J ⟨J,J⟩ zk J
  (fun f fn b a=>by
   obtain rfl:f=7:=a0G ((show Tryz.prog.funcNamed "horn/hornkeep.Twice" = O 7 by kernel_rfl).symm.trans b) |>.symm;obtain rfl:fn=Tryz.f7:=(a0G (Tryz.func7.symm.trans a)).symm;exact⟨zk,fun j t ht=>by
    rw[Tryz.params7] at ht;have c:t=4\/t=9:=by
     grind
    rcases c with rfl | rfl
    .exact(show Tryz.prog.wantsStandIn 4=ae by kernel_rfl)
    .exact(show Tryz.prog.wantsStandIn 9=ae by kernel_rfl)⟩)
  zk
end Go.Proofs.YtoegidfbnkaabaaGreatDoor
