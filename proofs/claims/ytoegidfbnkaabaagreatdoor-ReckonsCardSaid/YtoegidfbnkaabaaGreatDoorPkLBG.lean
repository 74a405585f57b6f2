/- A part of one proof (PureRt, KL11, KZReckons, KZReckonsb, KZReckonsc). -/
import Derived.Test.YtoegidfbnkaabaaGreatDoorPkLBF
import Derived.Carry
import Derived.OpenShut
import Derived.Test.YtoegidfbnkaabaaGreatDoorTie
import Derived.Test.YtoegidfbnkaabaaGreatDoorCards
import Derived.SevenTiedAt
set_option linter.all false
set_option maxRecDepth 100000
set_option maxHeartbeats 8000000
open Option renaming some → O
open Go renaming Value → Y, World → Z
open Bool renaming true → A, false → G
open Go.Ending renaming returned → ah
open Go.Calls renaming mono → a1r
open Nat renaming le_trans → a1t
open List renaming length_append → a1v, length_cons → a1x, length_nil → a1L, length → a3C, pairwise_singleton → a5F
open Go.DataW renaming Trod → a5U
open Go.Proofs.Tryz renaming prog → bbO
open Go.Proofs.Tryz
namespace Go.Proofs.YtoegidfbnkaabaaGreatDoor
open P
variable{base how z:Nat}{xE:Bool}{w:Z}
namespace P
theorem atx(how:Nat):(OW how).length<=5:=by
 unfold OW;split<;>decide
theorem aiv{x y:Int}(hx:j8 x)(a:j8 y)(b:z<=999999999):(Mi how x y z).length<=100/\(OX how x y z).length<=100:=by
 have c:=Ml hx;have d:=Ml a;have e:=Nq z 8 zo (z+1) zo;grind [atx,Mi,OX,a1v,a1x,a1L,dL]
def aUn{x y:Int}(hx:j8 x)(a:j8 y)(b:z<=999999999):∃ k,tU rP (Mi how x y z) = .ok (RE (pN how) x y z) k [[88]]:=by
 obtain⟨k,h⟩:=isQ (how:=how) hx a b;refine⟨k,?_⟩;unfold tU;rw[bM (by grind [aiv]),<- aT1,atm (aT3 hx a b)];omega
def aUo{x y:Int}(hx:j8 x)(a:j8 y)(b:z<=999999999):∃ k,tU rP (OX how x y z) = .ok (JO (pN how) x y z) k []:=by
 obtain⟨k,h⟩:=ltQ (how:=how) hx a b;refine⟨k,?_⟩;unfold tU;rw[bM (by have:=(aiv (how:=how) hx a b).2;omega),<- aT2,atm (aT4 hx a b)];omega
theorem aty{x y:Int}(a:how<5)(hx:j8 x)(b:j8 y)(c:z<=999999999):(oW [A7] (HT how x y z) 1).length<=65536/\(oW [A7] (B4 how x y z) 0).length<=65536:=by
 have e:=Ml hx;have f:=Ml b;have g:=Ml (x:=(z:Int)) ⟨zo,zo⟩;have d:∀ k:Nat,k<8->(dL k).length<=11:=fun k hk=>by
  have:=Nq k 8 zo (k+1) zo;grind [dL]
 have d0:=d 0 zo;have d1:=d 1 zo;have d2:=d 2 zo;have d3:=d 3 zo;have d4:=d 4 zo;have d5:=d 5 zo;have d6:=d 6 zo;have d7:=d 7 zo
 match how,a with
 | 0,_ | 1,_ | 2,_ | 3,_ | 4,_=>
  constructor
  .simp [oW,HT,tn,AI,kM,qd,kS,AH,rU,A7,pN,rS,tj,pF,kE,mr,xf,jR,jm];omega
  .simp [oW,B4,tn,AI,kM,qd,kS,AH,rU,A7,pN,rS,tj,pF,kE,mr,xf,jR,jm];omega
theorem aUp{x y:Int}(a:how<5)(hx:j8 x)(b:j8 y)(c:z<=999999999)(names:List Bs):runT (oW [A7] (HT how x y z) 1) names = .ok (KX [A7] 1) (zf (HT how x y z)) names:=by
 have h:=anV (l:=[A7]) (ask:=HT how x y z) (told:=1) (by grind [List.mem_singleton,atw]) (a5F ..) (show 7<65 by omega) (aUl a hx b ⟨zo,zo⟩) (show 1<=7 by omega) (by grind [aty]);grind [runT]
theorem aUq{x y:Int}(a:how<5)(hx:j8 x)(b:j8 y)(c:z<=999999999)(names:List Bs):runT (oW [A7] (B4 how x y z) 0) names = .ok (KX [A7] 0) (zf (B4 how x y z)) names:=by
 have h:=anV (l:=[A7]) (ask:=B4 how x y z) (told:=0) (by grind [List.mem_singleton,atw]) (a5F ..) (show 5<65 by omega) (aUm a hx b ⟨zo,zo⟩) zo (aty a hx b c).2;grind [runT]
def aUr{x y:Int}(a:Bool)(d:how<5)(hx:j8 x)(b:j8 y)(c:z<=999999999):firstT 2000 20000 pA (Mi how x y z) a=O (OZ how x y z):=by
 obtain⟨k,hr⟩:=aUn (how:=how) hx b c;unfold firstT;rw[att];unfold KY;cases a
 .simp only[hr,Bool.false_eq_true,if_false];grind [isWalk]
 .simp only[hr,if_true];have e:x8 [Gc] (RE (pN how) x y z) (a3C [([88]:Bs)])=O (oW [A7] (HT how x y z) 1):=by
   unfold x8;rw[atv,show(a3C [([88]:Bs)])=1 from J,aUa]
  grind [aUp,aUc]
def aUs{x y:Int}(a:Bool)(d:how<5)(hx:j8 x)(b:j8 y)(c:z<=999999999)(e:how<3\/y≠0):firstT 2000 20000 pA (OX how x y z) a=O (V5 (Fg [60] (HU how x y) z)):=by
 obtain⟨k,hr⟩:=aUo (how:=how) hx b c;unfold firstT;rw[att];unfold KY;cases a
 .simp only[hr,Bool.false_eq_true,if_false];grind [aUf]
 .simp only[hr,if_true];have f:x8 [Gc] (JO (pN how) x y z) (a3C ([]:List Bs))=O (oW [A7] (B4 how x y z) 0):=by
   unfold x8;rw[atv,show(a3C ([]:List Bs))=0 from J,aUb]
  grind [aUq,aUj]
def zQ(how:Nat)(x y:Int):Int:=match how with
 | 0=>x+y
 | 1=>x-y
 | 2=>x*y
 | 3=>x.tdiv y
 | _=>if (x-x.tdiv y*y<0/\0<y)\/(0<x-x.tdiv y*y/\y<0) then x-x.tdiv y*y+y else x-x.tdiv y*y
structure RI(x:Int):Prop where
 lo:-1000000000000000000<=x
 hi:x<=1000000000000000000
def j8.abs{x:Int}(h:j8 x):x.natAbs<=999999999:=by
 obtain⟨a,b⟩:=h;omega
theorem RI.of{x:Int}(h:x.natAbs<=1000000000000000000):RI x:=⟨zo,zo⟩
theorem RL{x:Int}(a:-9000000000000000000<=x)(b:x<=9000000000000000000):wrap64 x=x:=by
 grind [wrap64]
def aiw(x y:Int):x.tmod y=x-x.tdiv y*y:=by
 have:=Int.tmod_def x y;grind
def atz{x y:Int}(hx:j8 x):(x.tdiv y).natAbs<=999999999:=by
 rw[Int.natAbs_tdiv];exact a1t (Nat.div_le_self _ _) hx.abs
def atA{x y:Int}(hx:j8 x):(x.tmod y).natAbs<=999999999:=by
 rw[Int.natAbs_tmod];exact a1t (Nat.mod_le _ _) hx.abs
def aix(f:how<5){x y:Int}(hx:j8 x)(b:j8 y)(j:how<3\/y≠0):reckon (pN how) x y = .ok (zQ how x y)/\RI (zQ how x y):=by
 obtain⟨x0,x1⟩:=hx;obtain⟨g,i⟩:=b
 match how,f with
 | 0,_=>exact⟨by show Except.ok (wrap64 (x+y))=_;rw[RL zo zo];rfl,by show -1000000000000000000<=x+y;omega,by show x+y<=_;omega⟩
 | 1,_=>exact⟨by show Except.ok (wrap64 (x-y))=_;rw[RL zo zo];rfl,by show -1000000000000000000<=x-y;omega,by show x-y<=_;omega⟩
 | 2,_=>
  have d:(x*y).natAbs<=1000000000000000000:=by
   rw[Int.natAbs_mul];exact a1t (Nat.mul_le_mul (j8.abs ⟨x0,x1⟩) (j8.abs ⟨g,i⟩)) zd
  have a:=RI.of d;exact⟨by show Except.ok (wrap64 (x*y))=_;rw[RL (by have:=a.lo;omega) (by have:=a.hi;omega)];rfl,a⟩
 | 3,_=>
  have d:=atz (y:=y) ⟨x0,x1⟩;have a:RI (x.tdiv y):=(by grind [RI.of]);have b:y≠0:=zo;refine⟨?_,a⟩;unfold reckon pN;rw[bM zd,bM zd,bM zd,bM b,zip zd,RL (by have:=a.lo;omega) (by have:=a.hi;omega)];rfl
 | 4,_=>
  have d:=atA (y:=y) ⟨x0,x1⟩;have b:y≠0:=zo;have e:(x.tmod y≠0/\decide (x.tmod y<0)≠decide (y<0))↔((x-x.tdiv y*y<0/\0<y)\/(0<x-x.tdiv y*y/\y<0)):=by
   rw[<- aiw];grind
  unfold reckon pN zQ;rw[bM zd,bM zd,bM zd,bM b,bM zd];simp only;rw[<- aiw] at e ⊢;by_cases c:x.tmod y≠0/\decide (x.tmod y<0)≠decide (y<0)
  .rw[zip c,zip (e.1 c),RL zo zo];exact⟨J,zo,zo⟩
  .rw[bM c,bM (fun h=>c (e.2 h))];exact⟨J,zo,zo⟩
def aUt(a:how<5){x y:Int}(hx:j8 x)(b:j8 y)(d:z<=999999999)(c:how<3\/y≠0):OZ how x y z=([88,32,61,32]++gX (zQ how x y+z),0):=by
 obtain⟨e,f,g⟩:=aix a hx b c;grind [OZ,atu,RL]
def aUu(a:3<=how){x:Int}:OZ how x 0 z=([],9):=by
 unfold OZ;have h:reckon (pN how) x 0 = .error (.fault 9):=by
  unfold reckon pN;grind
 grind
def aUv(a:how<5){x y:Int}(hx:j8 x)(b:j8 y)(d:how<3\/y≠0):V5 (Fg [60] (HU how x y) z)=if zQ how x y<z then([116,114,117,101],0) else([],6):=by
 obtain⟨f,-⟩:=aix a hx b d;have e:HU how x y=zQ how x y:=by
  grind [HU]
 rw[e];have c:Fg [60] (zQ how x y) z=decide (zQ how x y<z):=rfl;grind [V5]
end P
open Go.RowKit Sx
def aUw(a b c o:Int)(p:Bool)(w:Z)(ha:-9223372036854775808<=a/\a<=9223372036854775807)(hb:-9223372036854775808<=b/\b<=9223372036854775807)(F:-9223372036854775808<=c/\c<=9223372036854775807)(I:-9223372036854775808<=o/\o<=9223372036854775807)(hT:HH w) :
  Calls bbO 5 #[zi a,zi b,zi c,zi o,.bool p] w fun e w'=>Ext w w'/\e = ah (.bool A):=by
 suffices H:∀ R:Ending->Z->Prop,(∀ w',Ext w w'->R (ah (.bool A)) w')->Calls bbO 5 #[zi a,zi b,zi c,zi o,.bool p] w R from H _ yF;intro R hR;refine aTo ?_;refine(OV a 1000000000 ha zo zo w).mono ?_;rintro e w0 ⟨rfl,rfl⟩;obtain⟨x0,nR⟩:=cg ((if a<0 then -(a+1) else a).toNat % 1000000000);have lx:x0<1000000000:=zo;rw[<- nR];clear nR;refine bH ?_;refine a1r (OV b 1000000000 hb zo zo w0) ?_;rintro e w1 ⟨rfl,rfl⟩;obtain⟨q,Em⟩:=cg ((if b<0 then -(b+1) else b).toNat % 1000000000);have ly:q<1000000000:=zo;rw[<- Em];clear Em;refine bH ?_;refine a1r (OV c 1000 F zo zo w1) ?_;rintro e w2 ⟨rfl,rfl⟩;obtain⟨z,hz⟩:=cg ((if c<0 then -(c+1) else c).toNat % 1000);have lz:z<1000:=zo;rw[<- hz];clear hz;refine bH ?_;refine⟨fun s w'=>w'=w2/\s 11=zi (if a<0 then -(x0:Int) else(x0:Int)),?_,?_⟩
 .by_cases h:a<0
  .have f:IntKind.i64.wrap (0-(x0:Int))=-(x0:Int):=by grind [we]
   exact lM h @f
  .exact fh h
 rintro s1 w3 ⟨rfl,g⟩ d1;obtain⟨x,hx⟩:=cg (if a<0 then -(x0:Int) else(x0:Int));rw[<- hx] at g;have nx:j8 x:=⟨zo,zo⟩;clear hx;refine⟨fun s w'=>w'=w3/\s 12=zi (if b<0 then -(q:Int) else(q:Int)),?_,?_⟩
 .by_cases h:b<0
  .have f:IntKind.i64.wrap (0-(q:Int))=-(q:Int):=by grind [we]
   exact lM h @f
  .exact fh h
 rintro s2 Q ⟨rfl,d⟩ d2;obtain⟨y,i⟩:=cg (if b<0 then -(q:Int) else(q:Int));rw[<- i] at d;have j:j8 y:=⟨zo,zo⟩;clear i;refine dj g d ?_;refine a1r (OV o 5 I zo zo _) ?_;rintro e w5 ⟨rfl,nE⟩;obtain⟨k,hk⟩:=cg ((if o<0 then -(o+1) else o).toNat % 5);have u:k<5:=zo;rw[<- hk];have S:Ext Q w5:=yF;have K:=congrArg (fun w:Z=>w.heap[Q.heap.size]?) nE;simp only[sK rfl] at K;have Y6:=bg K;clear nE;obtain⟨b5,NZ⟩:=cg Q.heap.size;rw[<- NZ] at K Y6 ⊢;have B:(k:Int).toNat=k:=zo;have nJ:#[(aT [43]:Y),aT [45],aT [42],aT [47,47],aT [32,109,111,100,32]][k]?=O (aT (OW k)):=by
  have:k=0\/k=1\/k=2\/k=3\/k=4:=zo;rcases this with rfl | rfl | rfl | rfl | rfl<;>rfl
 have xN:(0:Int)<=(k:Int):=zo;have pz:(k:Int)<((5:Nat):Int):=zo;refine dB g d K (zA B (zA nJ (zA xN pz))) ?_;obtain⟨nx0,nx1⟩:=id nx;obtain⟨ny0,ny1⟩:=id j;refine⟨fun s w'=>w'=w5/\((3<=k/\y=0/\s 16 = .bool A)\/((k<3\/y≠0)/\s 15=zi (zQ k x y)/\s 16 = .bool G)),?_,?_⟩
 .refine a1r (OV o 5 I zo zo _) ?_;rintro e w6 ⟨rfl,rfl⟩;rw[<- hk];have yJ:k=(if o<0 then -(o+1) else o).toNat % 5:=hk;have h:=atA (y:=y) nx;have h':=atz (y:=y) nx;have ht:=aiw x y;have hm:(x*y).natAbs<=1000000000000000000:=by
   rw[Int.natAbs_mul];exact a1t (Nat.mul_le_mul nx.abs j.abs) zo
  have z0:((0:Nat):Int)=0:=rfl;have z1:((1:Nat):Int)=1:=rfl;have z2:((2:Nat):Int)=2:=rfl;have z3:((3:Nat):Int)=3:=rfl;have z4:((4:Nat):Int)=4:=rfl;have kk:k=0\/k=1\/k=2\/k=3\/k=4:=zo;clear hk nJ B xN pz;rcases kk with rfl | rfl | rfl | rfl | rfl
  .have f:IntKind.i64.wrap (x+y)=x+y:=(by grind [we]);refine dB g d @z0 @f ?_;exact .inr ⟨zg,J⟩
  .have f:IntKind.i64.wrap (x-y)=x-y:=(by grind [we]);have l:¬ (1:Int)=0:=zo;refine dB g d @z1 (zA @l @f) ?_;exact .inr ⟨zg,J⟩
  .have f:IntKind.i64.wrap (x*y)=x*y:=(by grind [we]);have l:¬ (2:Int)=0:=zo;have r:¬ (2:Int)=1:=zo;refine dB g d @z2 (zA @l (zA @r @f)) ?_;exact .inr ⟨zg,J⟩
  .have l:¬ (3:Int)=0:=zo;have r:¬ (3:Int)=1:=zo;have C:¬ (3:Int)=2:=zo;by_cases i:y=0
   .refine dB g d @z3 (zA @l (zA @r (zA @C (zA i @decide_true)))) ?_;grind
   .have D:y≠0:=i;have f:IntKind.i64.wrap (x.tdiv y)=x.tdiv y:=(by grind [we]);have T:IntKind.i64.wrap (x.tdiv y*y)=x.tdiv y*y:=(by grind [we]);have U:IntKind.i64.wrap (x-x.tdiv y*y)=x-x.tdiv y*y:=(by grind [we]);have n4:¬ (3:Int)=4:=zo;refine dB @Sq g d (zA @z3 (zA @l (zA @r (zA @C (zA i (zA @f (zA @T (zA @U @decide_false)))))))) ?_;refine a1r (OV o 5 I zo zo _) ?_;rintro e W ⟨rfl,rfl⟩;rw[<- yJ];refine dj @z3 @n4 ?_;exact .inr ⟨.inr D,J,zg⟩
  .have l:¬ (4:Int)=0:=zo;have r:¬ (4:Int)=1:=zo;have C:¬ (4:Int)=2:=zo;by_cases i:y=0
   .refine dB g d @z4 (zA @l (zA @r (zA @C (zA i @decide_true)))) ?_;grind
   .have D:y≠0:=i;have f:IntKind.i64.wrap (x.tdiv y)=x.tdiv y:=(by grind [we]);have T:IntKind.i64.wrap (x.tdiv y*y)=x.tdiv y*y:=(by grind [we]);have U:IntKind.i64.wrap (x-x.tdiv y*y)=x-x.tdiv y*y:=(by grind [we]);refine dB @Sq g d (zA @z4 (zA @l (zA @r (zA @C (zA i (zA @f (zA @T (zA @U @decide_false)))))))) ?_;refine a1r (OV o 5 I zo zo _) ?_;rintro e W ⟨rfl,rfl⟩;rw[<- yJ];refine cJ @z4 ?_;obtain⟨m,hm⟩:=cg (x-x.tdiv y*y);have Jk:m.natAbs<=999999999:=zo;have hw:zQ 4 x y=if (m<0/\0<y)\/(0<m/\y<0) then m+y else m:=by rw[hm];rfl
    rw[<- hm];refine⟨fun s w'=>w'=W/\s 79 = .bool (decide ((m<0/\0<y)\/(0<m/\y<0))),?_,?_⟩
    .by_cases n:m<0<;>by_cases a2:0<y<;>by_cases a3:0<m<;>by_cases a4:y<0;all_goals first
      | omega
      | (simp (disch:=first|assumption|omega|simp only[zS]<;>omega|decide) only[zB,simprocAttr,kW,d,gt_iff_lt,n,a2,a3,a4];try simp [n,a2,a3,a4])
    .rintro s4 w8 ⟨rfl,L⟩ d4;have e4:IntKind.i64.wrap (m+y)=m+y:=(by grind [we]);by_cases F:(m<0/\0<y)\/(0<m/\y<0)
     .rw[zip F] at hw;have L:s4 79 = .bool true:=zg;refine jc L d @e4 ?_;grind
     .rw[bM F] at hw;have L:s4 79 = .bool false:=zg;refine dj L d ?_;grind
 .rintro s3 w6 ⟨rfl,h3⟩ d3;have X:=hT.ext S;have ld:=aiv (how:=k) (z:=z) nx j zo;have hzn:gX (z:Int)=dL z:=by rw[P.Fz]
  have lx':=Ml nx;have ly':=Ml j;have lop:=atx k;have lz':(dL z).length<=11:=by rw[P.Fz];exact Ml ⟨zo,zo⟩
  rw[g];refine a1r (Z1 x zo zo _) ?_;rintro e W ⟨rfl,rfl⟩;refine dj g d ?_;refine a1r (Z1 y zo zo _) ?_;rintro e w8 ⟨rfl,rfl⟩;refine dj g d ?_;refine a1r (Z1 (z:Int) zo zo _) ?_;rintro e w9 ⟨rfl,rfl⟩;rw[hzn];refine dj g d ?_;repeat rw[B9 _ _ (by(try simp only[a1v,a1x,a1L]);omega)]
  have M:=aUr (z:=z) p u nx j zo;rcases h3 with⟨n,rfl,t⟩| ⟨n,E,t⟩
  .rw[aUu n] at M;refine a1r (aim pA (Mi k x 0 z) p zd zo X M) ?_;rintro e jl ⟨N,rfl⟩;have z9:((9:Nat):Int)=9:=rfl;refine dj t @z9 ?_;exact hR _ (S.trans N)
  .rw[aUt u nx j zo n] at M;obtain⟨-,wb0,wb1⟩:=aix u nx j n;refine a1r (aim pA (Mi k x y z) p zd zo X M) ?_;rintro e jl ⟨N,rfl⟩;have z0:((0:Nat):Int)=0:=rfl;have f:IntKind.i64.wrap (zQ k x y+(z:Int))=zQ k x y+(z:Int):=(by grind [we]);refine jc E t @f ?_;refine a1r (Z1 (zQ k x y+(z:Int)) zo zo _) ?_;rintro e jT ⟨rfl,rfl⟩;refine bH ?_;repeat rw[B9 _ _ (by(try simp only[a1v,a1x,a1L]);omega)]
   have h2:=aUs (z:=z) p u nx j zo n;rw[aUv u nx j n] at h2;refine a1r (aim pA (OX k x y z) p zd zo (X.ext N) h2) ?_;rintro e pL ⟨qP,rfl⟩;have hE:=S.trans (N.trans qP);have ldd:(gX (zQ k x y+(z:Int))).length<=20:=by
    grind [gX,Tv,zQ,a1x]
   by_cases hlt:zQ k x y<(z:Int)
   .simp only[zip hlt];refine dj E @z0 ?_;rw[B9 _ _ zg];refine dj E hlt ?_;rw[ath zk];grind
   .simp only[bM hlt];refine dj E @z0 ?_;rw[B9 _ _ zg];refine dj E hlt ?_;rw[ath zk];grind
open Go.ChangeShapes Go.WideShapes Go.ChangeMaps
def Z6{n:Int}(h:(Lit.int .i64 n).wf=A):-9223372036854775808<=n/\n<=9223372036854775807:=by
 have h:(decide ((-9223372036854775808:Int)<=n) && decide (n<=9223372036854775807))=true:=h;grind
def aUy{H:Type}{enc:TypeId×Y->H}{P:Program}{spare:TypeId->Bool}{t t1 t2 t3 t4:TypeId}{args:Array Y}{ds:List (DataW H)}{ps:List MemPlace}(h:DataW.TrodAll enc P w base spare xE [t,t1,t2,t3,t4] args.toList ds ps) :
  ∃ v v1 v2 v3 v4 d d1 d2 d3 d4 p p1 p2 p3 p4,args=#[v,v1,v2,v3,v4]/\ds=[d,d1,d2,d3,d4]/\ps=p++(p1++(p2++(p3++p4)))/\a5U enc P w base spare xE t v d p/\a5U enc P w base spare xE t1 v1 d1 p1/\a5U enc P w base spare xE t2 v2 d2 p2/\a5U enc P w base spare xE t3 v3 d3 p3/\a5U enc P w base spare xE t4 v4 d4 p4:=by
 obtain⟨v,vs,d,b,p,q,y,rfl,rfl,c,hr⟩:=trodAll_cons h;obtain⟨v1,e,d1,f,p1,q1,rfl,rfl,rfl,g,i⟩:=trodAll_cons hr;obtain⟨v2,z,d2,j,p2,q2,rfl,rfl,rfl,k,l⟩:=trodAll_cons i;obtain⟨v3,m,d3,n,p3,q3,rfl,rfl,rfl,o,r⟩:=trodAll_cons l;obtain⟨v4,s,d4,u,p4,q4,rfl,rfl,rfl,a,x⟩:=trodAll_cons r;obtain⟨rfl,rfl,rfl⟩:=trodAll_nil x;exact⟨v,v1,v2,v3,v4,d,d1,d2,d3,d4,p,p1,p2,p3,p4,by cases args;simp_all,J,zs,c,g,k,o,a⟩
def aUA(os:Os)(started:os.Started)(H:Type)(enc:TypeId×Y->H) :
  ReturnsInHanded {} Tryz.checked os 5 .any (fun w args=>(Rows.reckonsSpec.pre enc bbO Tryz.f5 [] G w args/\laidMetH bbO Rows.reckonsRow.laid w)/\sizedMet enc bbO Tryz.f5 (OpenSpec.ofChange Rows.reckonsSpec) G w args)
   (Rows.reckonsSpec.post enc bbO Tryz.f5 G A G G):=by
 refine aTK (C:=Tryz.checked) (X:=fun w _=>laidMetH bbO Rows.reckonsRow.laid w) (by grind [laidMetH.of_heap]) Tryz.own started zk func5
  (ChangeSpec.witness_shaped (enc:=enc) (C:=Tryz.checked) (os:=os) (X:=fun w _=>laidMetH bbO Rows.reckonsRow.laid w) G (Z0 Rows.reckonsRow.laid os) #[zi 0,zi 0,zi 0,zi 0,.bool G] 8 (aTJ _ _) (World.shaped_of_ZipB zk zk) zk zk zk (aTQ os _)) ?_
 intro W base args ds gs before b f n o r;have a:∀ (j:Nat) t v,Tryz.f5.params[j]?=O t->args[j]?=O v->Value.okWide bbO W .any base t v:=b;have c:=f;obtain⟨p,q,d,s,rfl,M,N⟩:=f;have g:DataW.TrodAll enc bbO W 0 (fun _=>A) A Tryz.f5.params.toList args.toList ds p:=d;rw[Tryz.params5] at g a;obtain⟨v0,v1,v2,v3,v4,d0,d1,d2,d3,d4,p0,p1,p2,p3,p4,rfl,rfl,rfl,u,x,y,z,B⟩:=aUy g;obtain⟨rfl,rfl⟩:=trodVars_none s;obtain⟨D,rfl,rfl,rfl,h⟩:=open_int underlying3 (a 0 3 v0 J J) u;obtain⟨E,rfl,rfl,rfl,i⟩:=open_int underlying3 (a 1 3 v1 J J) x;obtain⟨F,rfl,rfl,rfl,k⟩:=open_int underlying3 (a 2 3 v2 J J) y;obtain⟨I,rfl,rfl,rfl,l⟩:=open_int underlying3 (a 3 3 v3 J J) z;obtain⟨m,rfl,rfl,rfl⟩:=open_bool underlying4 (a 4 4 v4 J J) B;have K:HH W:=aTG o r zk zk zk zk zk zk zk;refine(aUw D E F I m W (Z6 h) (Z6 i) (Z6 k) (Z6 l) K).mono fun e P ⟨L,he⟩=>?_;subst he;refine⟨_,J,_,_,_,[],[],[],c,?_,?_,?_,aTH L _,zg⟩
 .exact trodAll_mk1 (shut_bool underlying4 A)
 .exact trodAll_cons_mk (shut_int underlying3 h) (trodAll_mk4 (shut_int underlying3 i) (shut_int underlying3 k) (shut_int underlying3 l) (shut_bool underlying4 m))
 .rfl
def aUE:Rows.ReckonsSaid:=
 OpenClaim.holds_of_wide 5 Tryz.f5 J J J J J J J ⟨J,J,J,J,J⟩ J J J J J zk func5 zk
  (of_decide_eq_true zk) (by unfold Func.isWrapper;first | (rw[zip (by decide +kernel)];kernel_rfl) | (rw[bM (by decide +kernel)];exact⟨J,J⟩))
  (fun os started H enc _=>aUA os started H enc)
end Go.Proofs.YtoegidfbnkaabaaGreatDoor
namespace Go.Proofs.YtoegidfbnkaabaaGreatDoor
open P
open Go
theorem reckons_card:Rows.ReckonsCardSaid:=
 Claim7.holds_tied_plain_at .later [] [.data,.data,.data,.data,.handle,.sentinel,.sentinel,.data,.data,.data,.pinned] A (A, "71501c33516f01a4d740c2783eba7adf29c72c81702371d8bc22e96ca6284450") A
  aUE zg zk zg reckons_row_tie J ⟨J,J⟩ zk J
  (fun f fn b a=>by
   obtain rfl:f=5:=Option.some.inj ((show Tryz.prog.funcNamed "horn/hornkeep.Reckons" = O 5 by kernel_rfl).symm.trans b) |>.symm;obtain rfl:fn=Tryz.f5:=(Option.some.inj (Tryz.func5.symm.trans a)).symm;exact⟨zk,fun j t ht=>by
    rw[Tryz.params5] at ht;have c:t=4\/t=3:=by
     grind
    rcases c with rfl | rfl
    .exact(show Tryz.prog.wantsStandIn 4=G by kernel_rfl)
    .exact(show Tryz.prog.wantsStandIn 3=G by kernel_rfl)⟩)
  zk
end Go.Proofs.YtoegidfbnkaabaaGreatDoor
