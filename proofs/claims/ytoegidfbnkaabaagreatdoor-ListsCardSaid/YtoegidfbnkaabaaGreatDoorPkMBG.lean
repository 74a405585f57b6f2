/- A part of one proof (PureLz, PureMa, KLz, KL12, KZLists, KZListsb, KZListsc). -/
import Derived.Test.YtoegidfbnkaabaaGreatDoorPkMBF
import Derived.Test.YtoegidfbnkaabaaGreatDoorTie
import Derived.Test.YtoegidfbnkaabaaGreatDoorCards
import Derived.SevenTiedAt
set_option linter.all false
set_option maxRecDepth 100000
set_option maxHeartbeats 8000000
open Option renaming some → O, none → V
open Go renaming Value → Y, World → Z
open Bool renaming true → G, false → ae
open Go.Obj renaming cells → ah
open Go.Ending renaming returned → ai
open Go.Value renaming pointer → au
open Go.Calls renaming mono → a3L
open List renaming length_append → a3M, length_cons → a3N, getElem?_eq_getElem → a3P, mem_cons_self → a3S, mem_cons → a3T, length_nil → a3V, mem_append → a3Z, not_mem_nil → a30, mem_singleton → a35, append_assoc → a36, cons_append → a4f, getElem?_eq_some_iff → a4l, nil_append → a4u, map_append → a4H, map_cons → a4K, take_of_length_le → a4Z, length_map → a5o, length_take → a5r, length_drop → a52
open Nat renaming le_refl → a3O
open Prod.mk renaming injEq → a4b
open Option renaming map_eq_some_iff → a4c
open Go.Builtin renaming append_ → a4e
open Go.Proofs.Tryz renaming prog → bd1
namespace Go.Proofs.YtoegidfbnkaabaaGreatDoor
open P
variable{A:List Nat}{W w w' w0:Z}{X:Y->Z->Prop}{base i m n told xb:Nat}{tv u v vv:Y}{xs:List Y}
namespace P
def Hu(A:List Nat):Prop:=∀ x∈A,x<100
def zs(A:List Nat):List Int:=A.map fun(n:Nat)=>(n:Int)
def jn:List Nat->Bs
 | []=>[]
 | [a]=>di a
 | a::r=>di a++([44]++jn r)
def lB(A:List Nat):Bs:=[91]++jn A
def li(A:List Nat):Bs:=lB A++[93]
def auR:∀ (A:List Nat) (d:Nat),jn (A++[d])=if A=[] then di d else(jn A++[44])++di d
 | [],d=>rfl
 | [a],d=>by simp [jn]
 | a::b::r,d=>by
  have:=auR (b::r) d;grind [jn]
def auS:∀ (A:List Nat) (o:Bs),W1 (zs A) o=o++jn A
 | [],o=>by simp [zs,W1,jn]
 | [a],o=>by
  show o++jc (a:Int)=_;rw[<- Dg];rfl
 | a::b::r,o=>by
  show W1 (zs (b::r)) ((o++jc (a:Int))++[44])=_;rw[auS (b::r),<- Dg];simp [jn]
theorem aa2(A:List Nat)(o:Bs):lT o (zs A)=o++li A:=by
 unfold lT;rw[auS];cases A with
 | nil=>simp [zs,li,lB,jn]
 | cons a r=>simp [zs,li,lB]
theorem auT:∀ n:Nat,n<=1000->Gw n=(n:Int)
 | 0,_=>rfl
 | n+1,h=>by
  show wrap64 (Gw n+1)=_;rw[auT n zo,aVB zo zo];omega
theorem auU:∀ (A:List Nat) (r:List Pc),ll (lQ (A.map di)++r)=jn A++ll r
 | [],r=>rfl
 | [a],r=>rfl
 | a::b::l,r=>by
  have:=auU (b::l) r;simp only[a4K,lQ,jn,a4f,ll,Pc.text,a4u,a36] at this ⊢;rw[this]
def PM(A:List Nat)(r:List Pc):ll (lP (A.map di) r)=li A++ll r:=by
 grind [lP,li,lB,ll,lQ,di,auU,Pc.text]
def auV(h:n<100):mP (di n)=3/\F2 (di n):=(by grind [aKo])
def auW{r:List Pc}(hr:vp r)(f:∀ c,(ll r).head?=O c->cls c=0)(g:(ll r).head?≠O 62):∀ (A:List Nat),Hu A->vp (lQ (A.map di)++r)/\(ll (lQ (A.map di)++r)).head?≠O 62
 | [],_=>⟨hr,g⟩
 | [a],h=>by
  obtain⟨d,e⟩:=auV (h a a3S);exact⟨⟨⟨d,e,f⟩,hr⟩,auN a (ll r)⟩
 | a::b::l,h=>by
  obtain⟨d,e⟩:=auV (h a a3S);obtain⟨i,j⟩:=auW hr f g (b::l) fun x hx=>h x zg;exact⟨⟨⟨d,e,fun c h=>by cases h;decide⟩,⟨zd,j⟩,i⟩,auN a _⟩
def aa3{r:List Pc}(hr:vp r)(a:(ll r).head?≠O 62)(h:Hu A):vp (lP (A.map di) r):=by
 obtain⟨b,d⟩:=auW (r:=.sg [93]::r) ⟨⟨zd,a⟩,hr⟩ (fun c h=>by cases h;decide) (by intro h;cases h) A h;exact⟨⟨zd,d⟩,b⟩
def PN(A B:List Nat):Bs:=[97,112,112,40]++li A++[44]++li B++[44,90,41,44,32,108,101,110,40,90,44,78,41,46]
def PO(A:List Nat):Bs:=[114,101,118,40]++li A++[44,82,41,46]
def PQ(A:List Nat):Bs:=[97,112,112,40,88,44,89,44]++li A++[41,46]
def aVV(A B:List Nat):ll (aaT (A.map di) (B.map di))=PN A B:=by
 unfold aaT PN;simp only[ll,Pc.text,PM,a36,a4f,a4u]
def aVW(A:List Nat):ll (aaU (A.map di))=PO A:=by
 unfold aaU PO;simp only[ll,Pc.text,PM,a36,a4f,a4u]
def aVX(A:List Nat):ll (aaV (A.map di))=PQ A:=by
 unfold aaV PQ;simp only[ll,Pc.text,PM,a36,a4f,a4u]
def aVY{B:List Nat}(a:Hu A)(b:Hu B):vp (aaT (A.map di) (B.map di)):=by
 have d:vp [.sg [44],.wd [90],.sg [41],.sg [44],.bl,.wd [108,101,110],.sg [40],.wd [90],.sg [44],.wd [78],.sg [41]]:=by
  refine⟨⟨zd,zd⟩,⟨⟨zd,zd⟩,zd⟩,⟨zd,zd⟩,⟨zd,zd⟩,⟨⟨zd,zd⟩,zd⟩,⟨zd,zd⟩,⟨⟨zd,zd⟩,zd⟩,⟨zd,zd⟩,⟨⟨zd,zd⟩,zd⟩,⟨zd,zd⟩,trivial⟩
 have e:vp (lP (B.map di) _):=aa3 d zd b;have f:vp (.sg [44]::lP (B.map di) _):=⟨⟨zd,by rw[PM];intro h;cases h⟩,e⟩;have g:=aa3 f (by intro h;cases h) a;exact⟨⟨⟨zd,zd⟩,fun c h=>by cases h;decide⟩,⟨zd,by rw[PM];intro h;cases h⟩,g⟩
def aVZ(a:Hu A):vp (aaU (A.map di)):=by
 have b:vp [.sg [44],.wd [82],.sg [41]]:=⟨⟨zd,zd⟩,⟨⟨zd,zd⟩,zd⟩,⟨zd,zd⟩,trivial⟩;have d:=aa3 b zd a;exact⟨⟨⟨zd,zd⟩,fun c h=>by cases h;decide⟩,⟨zd,by rw[PM];intro h;cases h⟩,d⟩
def aV0(a:Hu A):vp (aaV (A.map di)):=by
 have b:vp [.sg [41]]:=⟨⟨zd,zd⟩,trivial⟩;have d:=aa3 b zd a;exact⟨⟨⟨zd,zd⟩,fun c h=>by cases h;decide⟩,⟨zd,by intro h;cases h⟩,⟨⟨zd,zd⟩,fun c h=>by cases h;decide⟩,⟨zd,by intro h;cases h⟩,⟨⟨zd,zd⟩,fun c h=>by cases h;decide⟩,⟨zd,by rw[PM];intro h;cases h⟩,d⟩
theorem ajJ:∀ (A:List Nat),Hu A->(jn A).length<=3*A.length
 | [],_=>by simp [jn]
 | [a],h=>by
  have:=Hn a 1 (by have:=h a a3S;omega) (a+1) zo;grind [jn,di,a3N,a3V]
 | a::b::r,h=>by
  have c:=ajJ (b::r) fun x hx=>h x zg;have:=Hn a 1 (by have:=h a a3S;omega) (a+1) zo;grind [jn,di,a3M,a3N,a3V]
theorem W5(h:Hu A):(li A).length<=3*A.length+2:=by
 grind [ajJ,li,lB,a3M,a3N,a3V]
def aa4(A:List Nat):(A.map di).map num=zs A:=by
 rw[List.map_map];exact List.map_congr_left (by grind [UB])
def aV1{B:List Nat}(a:Hu A)(b:Hu B)(c:A.length<=6)(lB:B.length<=6):∃ k,ry qg (PN A B) = .ok (aaW (zs A) (zs B)) k [[90],[78]]:=by
 have d:=W5 a;have e:=W5 b;have h:=aVS (A.map di) (B.map di) (by simpa using c) (by simpa using lB);rw[aa4,aa4] at h;unfold ry;rw[bU (by grind [PN,a3M,a3N,a3V]),<- aVV,ajy (aVY a b)];grind
def aV2(a:Hu A)(b:A.length<=12):∃ k,ry qg (PO A) = .ok (aaX (zs A)) k [[82]]:=by
 have c:=W5 a;have h:=aVT (A.map di) (by simpa using b);rw[aa4] at h;unfold ry;rw[bU (by grind [PO,a3M,a3N,a3V]),<- aVW,ajy (aVZ a)];grind
def aV3(a:Hu A)(b:A.length<=12):∃ k,ry qg (PQ A) = .ok (aaY (zs A)) k [[88],[89]]:=by
 have c:=W5 a;have h:=aVU (A.map di) (by simpa using b);rw[aa4] at h;unfold ry;rw[bU (by grind [PQ,a3M,a3N,a3V]),<- aVX,ajy (aV0 a)];grind
def yL(h:Nat.ble n m=G):n<=m:=Nat.le_of_ble_eq_true h
structure Ir(n:Nat)(i:In):Prop where
 rd:uV n i
 sh:BV i
def auX{n:Nat}(c:n<65):∀ (A:List Nat) (s:Nat),Hu A->s+A.length<n->∀ i∈SD s (zs A),Ir n i
 | [],s,_,h,i,hi=>by
  rcases a35.1 hi with rfl;exact⟨(by grind [aVR]),⟨yL J,yL J,yL J,yL J,fun k hk=>by rcases a35.1 hk with rfl;omega⟩⟩
 | a::A,s,b,h,i,hi=>by
  have d:s+(A.length+1)<n:=h;rcases a3T.1 (show i∈PH s (.int a)::SD (s+1) (zs A) from hi) with rfl | hi
  .have e:=b a a3S;have:=Hn a 1 zo (a+1) zo;refine⟨aVA zo zo zo,⟨yL J,yL J,?_,yL J,fun k hk=>by rcases a35.1 hk with rfl;omega⟩⟩;show(jc (a:Int)).length<=10;rw[<- Dg];grind [di]
  .exact auX c A (s+1) (fun x hx=>b x zg) zo i hi
def auY{n:Nat}(a:n<65){s:Nat}:∀ (j d:Nat),d+j<=n->s+j<=n->0<d->∀ i∈SE s d j,Ir n i
 | 0,_,_,_,_,i,hi=>by cases hi
 | j+1,d,b,c,e,i,hi=>by
  rcases a3T.1 (show i∈ajF d (s+j) (d-1)::SE s (d+1) j from hi) with rfl | hi
  .refine⟨(by grind [aVP]),⟨yL J,yL J,yL J,yL J,fun k hk=>?_⟩⟩;have hk:k∈[d,s+j,d-1]:=hk;grind
  .exact auY a j (d+1) zo zo zo i hi
theorem xL(A:List Nat):(zs A).length=A.length:=a5o ..
def aa5{s:Nat}(a:n<65)(b:Hu A)(h:s+2*A.length<n):∀ i∈PI s (zs A),Ir n i:=by
 intro i hi;rcases a3Z.1 hi with hi | hi
 .exact auX a A s b zo i hi
 .rw[xL] at hi;exact auY a _ _ zo zo zo i hi
def aa6{w:Bs}{l:List Nat}(d:n<65)(e:IE w=G)(f:nI w=O w)(a:∀ k∈l,k<n)(b:w.length<=9)(c:l.length<=5):Ir n (Ki w l):=
 ⟨(by grind [aVQ]),⟨yL J,b,by show([]:Bs).length<=10;grind,c,fun k hk=>by have:=a k hk;omega⟩⟩
theorem ajK(a:n<65):Ir n SF:=⟨(aa0 n a).1,⟨zd,zd,zd,zd,fun k hk=>by cases hk⟩⟩
def MV{w:Bs}{s:Nat}(hw:w.length<=5)(a:s<100000):BV (yQ w s):=⟨hw,yL J,yL J,yL J,fun k hk=>by rcases a35.1 hk with rfl;omega⟩
def aV4{B:List Nat}(b:Hu A)(c:Hu B)(e:A.length<=6)(lB:B.length<=6):∀ i∈(PJ (zs A) (zs B)).ins,Ir (PJ (zs A) (zs B)).slots i:=by
 intro i hi;simp only[PJ,xL] at hi ⊢;obtain⟨n,d⟩:=cj (5+2*A.length+2*B.length);rw[<- d];have a:n<65:=zo;obtain⟨g0,g1,g2,g3⟩:=aa0 n a;simp only[ajG,xL,a3T,a3Z,a30,or_false] at hi;rcases hi with rfl | rfl | rfl | hi | hi | rfl | rfl | rfl
 .exact⟨zg,MV zd zo⟩
 .exact⟨zg,MV zd zo⟩
 .exact⟨zg,MV zd zo⟩
 .exact aa5 a b zo i hi
 .exact aa5 a c zo i hi
 .refine aa6 a zd J (fun k hk=>?_) zg (by simp);grind
 .refine aa6 a zd J (fun k hk=>?_) zg zg;grind
 grind [ajK]
def aV5(b:Hu A)(d:A.length<=12):∀ i∈(PK (zs A)).ins,Ir (PK (zs A)).slots i:=by
 intro i hi;simp only[PK,xL] at hi ⊢;obtain⟨n,c⟩:=cj (3+2*A.length);rw[<- c];have a:n<65:=zo;obtain⟨g0,g1,g2,g3⟩:=aa0 n a;simp only[a3T,a3Z,a30,or_false] at hi;rcases hi with rfl | rfl | hi | rfl | rfl
 .exact⟨zg,MV zd zo⟩
 .exact⟨zg,MV zd zo⟩
 .exact aa5 a b zo i hi
 .refine aa6 a zd J (fun k hk=>?_) zg (by simp);grind
 grind [ajK]
def aV6(b:Hu A)(d:A.length<=12):∀ i∈(PL (zs A)).ins,Ir (PL (zs A)).slots i:=by
 intro i hi;simp only[PL,xL] at hi ⊢;obtain⟨n,c⟩:=cj (4+2*A.length);rw[<- c];have a:n<65:=zo;obtain⟨g0,g1,g2,g3⟩:=aa0 n a;simp only[a3T,a3Z,a30,or_false] at hi;rcases hi with rfl | rfl | rfl | hi | rfl | rfl
 .exact⟨zg,MV zd zo⟩
 .exact⟨zg,MV zd zo⟩
 .exact⟨zg,MV zd zo⟩
 .exact aa5 a b zo i hi
 .refine aa6 a zd J (fun k hk=>?_) zg (by simp);grind
 grind [ajK]
def auZ{n:Nat}:∀ {l:List In},(∀ i∈l,Ir n i)->((l.map BR).flatten).length<=60*l.length
 | [],_=>a3O _
 | i::l,h=>by
  have a:=YI (h i a3S).sh;have b:=auZ fun x hx=>h x (List.mem_cons_of_mem _ hx);grind
theorem ajL(s:Nat)(A:List Int):(PI s A).length=2*A.length+1:=by
 have b:∀ (A:List Int) (s:Nat),(SD s A).length=A.length+1:=by
  intro A;induction A with
  | nil=>exact fun s=>rfl
  | cons a r ih=>grind [SD]
 have c:∀ (j d:Nat),(SE s d j).length=j:=by
  intro j;induction j with
  | zero=>exact fun d=>rfl
  | succ j ih=>grind [SE]
 grind [PI,a3M]
theorem aV7{c:Co}(a:c.slots<65)(b:∀ i∈c.ins,Ir c.slots i)(l:c.ins.length<=100)(g:told<=c.slots)(names:List Bs):runT (rB DQ c told) names = .ok (Om DQ told) (BX c) names:=by
 have e:((DQ.map tJ).flatten).length<=5000:=by decide +kernel
 have d:∀ k:Nat,k<65->(di k).length<=11:=fun k hk=>by
  have:=Hn k 8 zo (k+1) zo;grind [di]
 have d1:=d c.slots a;have d2:=d told zo;have f:=auZ b;have j:(rB DQ c told).length<=65536:=by
  simp only[rB,um,ld,a3M,a3N,a3V,a4K,List.map_nil,List.flatten_cons,List.flatten_nil];omega
 have h:=aKu aVN aVO a (fun i hi=>(b i hi).rd) g j;unfold runT;rw[h]
structure aa7(q:Bs)(mc:Bool)(L:List (Bs×Nat)):Prop where
 ex:∃ E st names q',Lu Fh q mc = .ok E st names/\Oe E names 2000 20000 L.length (V,st)=O (L,q')/\names.length<=2
def ajM{q:Bs}{b:Bd}{v':List Bs}{c:Co}{L:List (Bs×Nat)}(mc:Bool)(f:v'.length=n)(d:n<=2)(hr:∃ k,ry qg q = .ok b k v')(hw:Lv 2000 20000 L.length (.ok (Lj Fh n) (Wk.new b n) v')=O L)
  (h:xt [] b n G=O c) (j:c.slots<65) (m:∀ i∈c.ins,Ir c.slots i) (o:c.ins.length<=100) (p:n<=c.slots) (hv:Lv 2000 20000 L.length (.ok (Om DQ n) (BX c) v')=O L):aa7 q mc L:=by
 obtain⟨k,hr⟩:=hr;subst f;cases mc
 .obtain⟨⟨l,q'⟩,e,a⟩:=a4c.1 hw;have a:l=L:=a;subst a;exact⟨_,_,_,_,by grind [Lu],e,d⟩
 .obtain⟨⟨l,q'⟩,e,a⟩:=a4c.1 hv;have a:l=L:=a;subst a;refine⟨_,_,_,_,?_,e,d⟩;unfold Lu;rw[hr];have g:A4 Fh b v'.length=O (rB DQ c v'.length):=by
   grind [A4,aVF]
  simp only[if_true,g];grind [aV7]
def aa8(C:List Nat):List (Bs×Nat):=[(([90,32,61,32]++li C)++[44,32,78,32,61,32]++di C.length,0),([],6)]
def aa9(C:List Nat):List (Bs×Nat):=[([82,32,61,32]++li C,0)]
def SG(C:List Nat)(i:Nat):Bs:=([88,32,61,32]++li (C.take i))++[44,32,89,32,61,32]++li (C.drop i)
def MX(C:List Nat):List (Bs×Nat):=(List.range' 0 (C.length+1)).map (fun i=>(SG C i,0))++[([],6)]
theorem aV8{C:List Nat}(h:C.length<=12):W2 (zs C)=aa8 C:=by
 grind [W2,aa8,aa2,xL,auT,Dg,a36]
def aV9(C:List Nat):W4 (zs C)=aa9 C:=by
 grind [W4,aa9,aa2]
def aWa(C:List Nat):aaZ (zs C)=MX C:=by
 have:∀ i,ajE (zs C) i=SG C i:=fun i=>by
  unfold ajE SG;rw[show(zs C).take i=zs (C.take i) from List.map_take.symm,show(zs C).drop i=zs (C.drop i) from List.map_drop.symm,aa2,aa2];grind
 grind [aaZ,MX,xL]
theorem aWb(A B:List Nat):zs A++zs B=zs (A++B):=(a4H ..).symm
def aWc{B:List Nat}(mc:Bool)(a:Hu A)(b:Hu B)(c:A.length<=6)(lB:B.length<=6):aa7 (PN A B) mc (aa8 (A++B)):=by
 have e:W2 (zs A++zs B)=aa8 (A++B):=by grind [aWb,aV8,a3M]
 have zA:(zs A).length<=6:=by grind [xL]
 have zB:(zs B).length<=6:=by grind [xL,lB]
 refine ajM mc J (a3O _) (aV1 a b c lB) (e ▸ aVC _ _ zA zB) (by grind [aVG]) ?_ (aV4 a b c lB) ?_ ?_ (e ▸ aVJ _ _ zA zB)
 .grind [PJ,xL]
 .grind [PJ,ajG,xL,a3M,a3N,a3V,ajL]
 .show 2<=5+_+_;omega
def aWd(mc:Bool)(a:Hu A)(b:A.length<=12):aa7 (PO A) mc (aa9 A.reverse):=by
 have e:W4 (zs A).reverse=aa9 A.reverse:=by rw[show(zs A).reverse=zs A.reverse from List.map_reverse.symm,aV9]
 have zA:(zs A).length<=12:=by grind [xL]
 refine ajM mc J zg (aV2 a b) (e ▸ aVD _ zA) (aVH _ zA) ?_ (aV5 a b) ?_ ?_ (e ▸ aVK _ zA)
 .grind [PK,xL]
 .grind [PK,xL,a3M,a3N,a3V,ajL]
 .show 1<=3+_;omega
def aWe(mc:Bool)(a:Hu A)(b:A.length<=12):aa7 (PQ A) mc (MX A):=by
 have e:=aWa A;have zA:(zs A).length<=12:=by grind [xL]
 have c:(MX A).length=(zs A).length+2:=by simp [MX,xL]
 refine ajM mc J (a3O _) (aV3 a b) (by grind [aVE]) (aVI _ zA) ?_ (aV6 a b) ?_ ?_ (by grind [aVL])
 .grind [PL,xL]
 .grind [PL,xL,a3M,a3N,a3V,ajL]
 .show 2<=4+_;omega
end P
open Go.RowKit Sx
def qz(w:Z)(v:Y)(zs:List Int):Prop:=∃ a cap,v = .slice a zs.length cap/\zs.length<=cap/\(a=V->zs=[]/\cap=0)/\∀ b i z,a=O b->zs[i]?=O z->w.cell? (b.add i)=O (zi z)
theorem au1(h:Ext w w'){a:Addr}(b:w.cell? a=O v):w'.cell? a=O v:=by
 unfold World.cell? at b ⊢;cases c:w.heap[a.block]? with
 | none=>rw[c] at b;cases b
 | some o=>rw[h.ext _ _ c];rw[c] at b;exact b
theorem qz.ext(h:Ext w w'){zs:List Int}(b:qz w v zs):qz w' v zs:=by
 obtain⟨a,cap,c,d,e,f⟩:=b;exact⟨a,cap,c,d,e,(by grind [au1])⟩
theorem qz.nil:qz w bW []:=⟨V,0,J,a3O _,zg,zg⟩
theorem qz.shape{zs:List Int}(h:qz w v zs):∃ a cap,v = .slice a zs.length cap/\zs.length<=cap:=by
 obtain⟨a,cap,b,c,-⟩:=h;grind
def au2{zs:List Int}(h:qz w v zs){x:Int}(hx:zs[i]?=O x):∃ p,(∀ K X,RD bd1 (Instr.indexAt 45 v (zi (i:Int))) w K X=K p)/\∀ K X,RD bd1 (Instr.loadAt 3 p) w K X=K (zi x):=by
 obtain⟨a,cap,rfl,k,c,d⟩:=h;have hi:i<zs.length:=zg;cases a with
 | none=>rw[(c J).1] at hi;exact absurd hi (Nat.not_lt_zero _)
 | some b=>
  have f:=d b i x J hx;obtain⟨e,he,g⟩:=Xq (P:=bd1) (T:=45) (n:=1) zk;refine⟨au (O (b.add i)),fun K X=>?_,fun K X=>?_⟩
  .refine gR ?_;rw[run_indexAt_slice w 45 _ _ _ _ _ (by rw[Fs he];exact he),zip ⟨zo,zo⟩,Fs he,Fo g];simp [Result.andThen_ok]
  .refine gR ?_;have j:Tf bd1 3=true:=zk;simp only[Instr.loadAt,Instr.sureAddr,loadVar,Sem.run_bind,Sem.run_pure,Result.andThen_ok,abW j,Bool.false_eq_true,if_false,load,Sem.run,f]
def add_add(a:Addr)(i j:Nat):(a.add i).add j=a.add (i+j):=by
 grind [Addr.add,Nat.add_assoc]
theorem qz.take{w:Z}{a:Option Addr}{zs:List Int}{cap k:Nat}(h:qz w (.slice a zs.length cap) zs)(hk:k<=zs.length):qz w (sliced a 0 k cap 1) (zs.take k):=by
 obtain⟨a',c,b,d,f,g⟩:=h;cases b;have e:sliced a 0 k cap 1 = .slice a k cap:=by
  unfold sliced;cases a<;>simp [Addr.add]
 rw[e];refine⟨a,cap,zg,zg,zg,fun j i z e l=>?_⟩;grind
def qz.drop{w:Z}{a:Option Addr}{zs:List Int}{cap k:Nat}(h:qz w (.slice a zs.length cap) zs)(hk:k<=zs.length):qz w (sliced a k zs.length cap 1) (zs.drop k):=by
 obtain⟨a',g,b,j,l,m⟩:=h;cases b;refine⟨_,cap-k,by unfold sliced;rw[a52],zg,fun e=>?_,fun n i z e o=>?_⟩
 .have:a=none:=by
   split at e
   .omega
   .simpa using e
  grind
 .have c:zs[k+i]?=O z:=zg;have hlt:=(a4l.1 c).1;rw[bU zo] at e;obtain⟨d,rfl,f⟩:=a4c.1 e;rw[<- f,Nat.mul_one,add_add];grind
def au3{zs:List Int}(h:w.ownsRow base 3 1 v n (zs.map (.int .i64))):qz w v zs/\n=zs.length:=by
 obtain⟨a,h⟩:=h;rw[a5o,Nat.mul_one] at a;refine⟨?_,a.symm⟩;rcases h with⟨rfl,rfl⟩| ⟨g,cap,cur,rfl,d,b,f,j,k,l⟩
 .grind [List.length_eq_zero_iff,qz.nil]
 .refine⟨O ⟨g,0,V⟩,cap,zg,zo,zg,fun m i z e c=>?_⟩;cases e;rw[addr_add,Nat.zero_add];refine cellOf b ?_;have hi:=(a4l.1 c).1;have o:(cur.toList.take (n*1))[i]?=O (zi z):=zg;grind
def au4{zs:List Int}(b:w.ownsRow base 3 1 v n xs)(d:qz w u zs)(x:n+zs.length<=100000000)(f:base<=w.heap.size){K:Y->Z->Prop}
  (h:∀ v' w',w'.ownsRow base 3 1 v' (n+zs.length) (xs++zs.map (.int .i64))->w.grownBy w' v.ownBlock->(v'.ownBlock=v.ownBlock\/∀ k,v'.ownBlock=O k->w.heap.size<=k)->K v' w') :
  WR bd1 (a4e #[45,45] 45 #[v,u]) w K X:=by
 obtain⟨i,hi,c⟩:=a4c.1 Tryz.asq;simp only[a4b] at c;obtain⟨j,l,m⟩:=c;have ht:Tryz.prog.underlying 45=O (.slice 3):=zk;obtain⟨a,cap,hu,y,o,A⟩:=d;rw[hu];cases a with
 | none=>
  obtain⟨p,q⟩:=o J;rw[p,q];have e:(a4e #[45,45] 45 #[v,bW]).run bd1 w = .ok v w:=by
   rcases b.2 with⟨rfl,rfl⟩| ⟨g,cap,cur,rfl,B,C,r,D,E,F⟩
   .simp [a4e,run_underlying ht,sizeOf,typeInfo,hi,Builtin.lenOf,Builtin.firstCells]
   .simp [a4e,run_underlying ht,sizeOf,typeInfo,hi,Builtin.lenOf,Builtin.firstCells,r,storeCells]
  rw[show([]:List Int).length=0 from J,vw e];exact h v w zg ⟨J,J,J,a3O _,yH⟩ yH
 | some s=>
  obtain⟨v',w',t,H,I,L⟩:=S0 (P:=bd1) w base 45 45 3 i (zi 0) 1 8 ht hi j l m J zo v n xs b s zs.length cap (zs.map (.int .i64)) (by simp) zg (fun u hu=>by
   obtain⟨z,-,rfl⟩:=List.mem_map.1 hu;rfl) (by grind [maxLen]) zo f
  rw[vw t];grind
def pk(z:Int):Nat:=(if z<0 then -(z+1) else z).toNat % 100
def lJ(zs:List Int):List Nat:=zs.map pk
theorem SH(zs:List Int):Hu (lJ zs):=fun x hx=>by
 obtain⟨z,-,rfl⟩:=List.mem_map.1 hx;exact Nat.mod_lt _ zo
def Ci(zs:List Int):Prop:=∀ z∈zs,-9223372036854775808<=z/\z<=9223372036854775807
def PR{zs:List Int}(h:qz w v zs)(B:zs.length<=12)(hw:Ci zs):Calls bd1 17 #[v] w fun e w'=>w'=w/\e = ai (aW (P.li (lJ zs))):=by
 obtain⟨a,cap,rfl,C⟩:=h.shape;refine aUR ?_;refine⟨fun t s w'=>∃ i,t=zs.length-i/\i<=zs.length/\w'=w/\s 3 = aW (P.lB (lJ (zs.take i)))/\s 4=zi ((i:Nat):Int),⟨_,0,J,Nat.zero_le _,J,J,J⟩,?_⟩;intro t s ds w1 m;refine toPr ?_;obtain⟨i,rfl,hi,rfl,c,b⟩:=m;have hlen:∀ j,(jn (lJ (zs.take j))).length<=36:=(by grind [ajJ,SH,lJ,a5o,a5r]);have D:=hlen i;by_cases n:i<zs.length
 .have hlt:((i:Nat):Int)<(zs.length:Int):=zo;obtain⟨x,hx⟩:∃ x,zs[i]?=O x:=⟨_,a3P n⟩;obtain⟨p,o,q⟩:=au2 h hx;have g:=hw x (List.mem_of_getElem? hx);have r:(if x<0 then -(x+1) else x).toNat % 100=pk x:=rfl;have j3:pk x<100:=zo;have E:(di (pk x)).length<=2:=Hn (pk x) 1 zo (pk x+1) zo;have u:lJ (zs.take (i+1))=lJ (zs.take i)++[pk x]:=by
   grind [lJ,List.take_add_one]
  refine jh c b hlt ?_;refine⟨fun s' w'=>w'=w1/\s' 3 = aW (P.lB (lJ (zs.take (i+1)))),?_,?_⟩
  .refine dG c b o q ?_;refine a3L (aVn x 100 g zo zo w1) ?_;rintro e w2 ⟨rfl,rfl⟩;rw[r];refine bG ?_;refine a3L (auK w2 (pk x) zo) ?_;rintro e w3 ⟨rfl,rfl⟩;refine dA c b ?_;refine⟨fun s' w'=>w'=w3/\s' 3 = aW (if i=0 then P.lB (lJ (zs.take i)) else P.lB (lJ (zs.take i))++[44]),?_,?_⟩
   .by_cases f:i=0
    .have k:¬ ((i:Nat):Int) > 0:=zo;exact AA c b k f
    .have k:((i:Nat):Int) > 0:=zo;have d:(P.lB (lJ (zs.take i))).length+([44]:Bs).length<=4294967296:=by
      grind [P.lB,a3M,a3N,a3V]
     simp (disch:=first|assumption|omega|simp only[zS]<;>omega|decide) only[zB,simprocAttr,kN,c,b,k,f,xP _ _ d]
   .rintro s' w' ⟨rfl,l⟩ y;have d:(if i=0 then P.lB (lJ (zs.take i)) else P.lB (lJ (zs.take i))++[44]).length+(di (pk x)).length<=4294967296:=by
     grind [P.lB,a3M,a3N,a3V]
    simp (disch:=first|assumption|omega|simp only[zS]<;>omega|decide) only[zB,simprocAttr,kN,l,xP _ _ d];rw[u];unfold P.lB;rw[auR];by_cases f:i=0
    .subst f;simp [lJ,jn]
    .have F:lJ (zs.take i)≠[]:=by
      intro e;have e:=congrArg List.length e;grind [lJ,a5o,a5r,a3V]
     grind
  .rintro s' w' ⟨rfl,l⟩ y;have z:((i:Nat):Int)+1=((i+1:Nat):Int):=zo;refine jh l b @z ?_;grind
 .have A:i=zs.length:=zo;subst A;have hlt:¬ (zs.length:Int)<(zs.length:Int):=zo;have d:(P.lB (lJ (zs.take zs.length))).length+([93]:Bs).length<=4294967296:=by
   grind [P.lB,a3M,a3N,a3V]
  simp (disch:=first|assumption|omega|simp only[zS]<;>omega|decide) only[zB,simprocAttr,kN,c,b,hlt,xP _ _ d];rw[List.take_length];rfl
theorem MY(zs:List Int):(lJ zs).length=zs.length:=a5o ..
def aWg(zs:List Int)(i:Nat):(lJ zs).take i=lJ (zs.take i):=List.map_take.symm
def aWh(zs:List Int)(i:Nat):(lJ zs).drop i=lJ (zs.drop i):=List.map_drop.symm
theorem Ci.take{zs:List Int}(h:Ci zs)(i:Nat):Ci (zs.take i):=fun z a=>h z (List.mem_of_mem_take a)
def Ci.drop{zs:List Int}(h:Ci zs)(i:Nat):Ci (zs.drop i):=fun z a=>h z (List.mem_of_mem_drop a)
def PS{zs:List Int}(h:zs.length<=12):(P.li (lJ zs)).length<=38:=by
 grind [W5,SH,MY]
def aWi{zs:List Int}(mc:Bool)(h:qz w v zs)(g:zs.length<=12)(hw:Ci zs)(j:Fg w)(hx:EZ w xb Fh) :
  Calls bd1 19 #[ptr xb,v,.bool mc] w fun e w'=>Ext w w'/\e = ai (.bool G):=by
 suffices H:∀ R:Ending->Z->Prop,(∀ w',Ext w w'->R (ai (.bool G)) w')->Calls bd1 19 #[ptr xb,v,.bool mc] w R from H _ yF;intro R F;obtain⟨a,cap,rfl,LB⟩:=h.shape;have WJ:=PS g;obtain⟨E,st,names,q',I,s,-⟩:=(aWe mc (SH zs) (by rw[MY];exact g)).ex;have K:(MX (lJ zs)).length=zs.length+1-0+1:=by simp [MX,MY]
 rw[K] at s;refine aUS ?_;refine(PR h g hw).mono ?_;rintro e w0 ⟨rfl,rfl⟩;refine bG ?_;repeat rw[xP _ _ (by simp only[a3M,a3N,a3V];omega)]
 refine a3L (aju (PQ (lJ zs)) mc (by simp only[PQ,a3M,a3N,a3V];omega) j hx aaS) ?_;rintro e w1 ⟨L,u⟩;rw[I] at u;obtain⟨qb,rfl,M⟩:=u;have N:=M.apt (bD.refl _ _);refine bG ?_;refine⟨fun z w'=>w'=w1,?_,?_⟩
 .refine⟨fun z w'=>w'=w1/\z 33 = .bool ae,?_,?_⟩
  .exact eR
  .rintro z w' ⟨rfl,k⟩ x;exact eV k
 rintro z2 w2 rfl Q;refine⟨fun t z w'=>∃ i D q,t=zs.length+1-i/\i<=zs.length+1/\z 11=zi ((i:Nat):Int)/\Ext w0 w'/\PE w0 names D w' qb E q i /\
   Oe E names 2000 20000 (zs.length+1-i+1) q=O ((List.range' i (zs.length+1-i)).map (fun i=>(SG (lJ zs) i,0))++[([],6)],q'),
  ⟨_,0,_,_,J,Nat.zero_le _,J,L,N,by rw[s];simp [MX,MY]⟩,?_⟩
 intro t z dz w3 S;refine toPr ?_;obtain⟨i,D,q,rfl,hi,c,l,d,f⟩:=S;by_cases y:i<=zs.length
 .have hle:((i:Nat):Int)<=(zs.length:Int):=zo;have m:((i:Nat):Int)<=(cap:Int):=zo;have A:(0:Int)<=((i:Nat):Int):=zo;have B:((i:Nat):Int).toNat=i:=zo;obtain⟨r,hr⟩:∃ r,zs.length+1-i=r+1:=⟨zs.length-i,zo⟩;have T:zs.length+1-(i+1)=r:=zo;rw[hr,List.range'_succ,a4K,a4f] at f;obtain⟨q2,n,U⟩:=UE f;have C:=h.ext l;refine dA c hle ?_;refine⟨fun z w'=>∃ D',Ext w0 w'/\PE w0 names D' w' qb E q2 (i+1),?_,?_⟩
  .refine dG c m A B ?_;refine a3L (PR (C.take y) (by rw[a5r];omega) (hw.take i)) ?_;rintro e W ⟨rfl,rfl⟩;have l1:=PS (zs:=zs.take i) (by rw[a5r];omega);refine dG c hle A B ?_;refine a3L (PR (C.drop y) (by rw[a52];omega) (hw.drop i)) ?_;rintro e w5 ⟨rfl,rfl⟩;have l2:=PS (zs:=zs.drop i) (by rw[a52];omega);refine bG ?_;refine a3L (WX d l j zo n) ?_;rintro e X ⟨rfl,o,D',b,-⟩;refine bG ?_;refine⟨fun z w'=>w'=X/\z 63 = .bool ae,?_,?_⟩
   .have By:((0:Nat):Int)=0:=rfl;have p:SG (lJ zs) i=([88,32,61,32]++P.li (lJ (zs.take i)))++[44,32,89,32,61,32]++P.li (lJ (zs.drop i)):=by
     unfold SG;rw[aWg,aWh]
    refine cJ By ?_;repeat rw[xP _ _ (by simp only[a3M,a3N,a3V];omega)]
    exact eV p
   .rintro z w' ⟨rfl,k⟩ x;refine cJ k ?_;exact⟨_,o,b⟩
  .rintro z w7 ⟨D',o,b⟩ x;have e1:((i:Nat):Int)+1=((i+1:Nat):Int):=zo;refine dA c @e1 ?_;exact⟨_,zo,i+1,D',q2,J,zo,J,o,b,by rw[T];exact U⟩
 .have Gs:i=zs.length+1:=zo;subst Gs;have hle:¬ ((zs.length+1:Nat):Int)<=(zs.length:Int):=zo;rw[Nat.sub_self] at f;obtain⟨q2,n,-⟩:=UE f;have Qp:((6:Nat):Int)=6:=rfl;refine dA c hle ?_;refine a3L (WX d l j zo n) ?_;rintro e W ⟨rfl,gT,-⟩;refine cJ Qp ?_;exact F _ gT
def aWl{z:Int}(a:Ext w0 w)(h:w.ownsRow w0.heap.size 3 1 v n xs)(f:n<=1000){K:Y->Z->Prop}
  (b:∀ v' w',Ext w0 w'->w'.ownsRow w0.heap.size 3 1 v' (n+1) (xs++[zi z])->K v' w') :
  WR bd1 (a4e #[45,45] 45 #[v,cS w.heap.size 1 1]) (w.alloc (ah #[zi z] 3)) K X:=by
 have c:Ext w (w.alloc (ah #[zi z] 3)):=yF;have g:=a.size;exact ahT (base:=w0.heap.size) (jK c.ext h) yH J zo (yH) fun v' w' d e hv=>b v' w' (bD.grow yF e fun k hk=>(h.lt k hk).1) d
def aWm{c d:List Int}(mc:Bool)(N:qz w tv c)(P:qz w vv d)(i0:Ci c)(i1:Ci d)(hT:Fg w) :
  Calls bd1 4 #[tv,vv,.bool mc] w fun e w'=>Ext w w'/\e = ai (.bool G):=by
 suffices H:∀ R:Ending->Z->Prop,(∀ w',Ext w w'->R (ai (.bool G)) w')->Calls bd1 4 #[tv,vv,.bool mc] w R from H _ yF;intro R hR;obtain⟨a0,c0,rfl,nX⟩:=N.shape;obtain⟨a1,c1,rfl,jz⟩:=P.shape;have z6:(0:Int)<=6:=zo;have t6:(6:Int).toNat=6:=rfl;refine aUT ?_;refine⟨fun s w'=>w'=w/\qz w (s 0) (c.take 6),?_,?_⟩
 .by_cases h6:6<c.length
  .have f:(c.length:Int) > 6:=zo;have hk:(6:Int)<=(c0:Int):=zo;refine dG f hk @z6 @t6 ?_;exact N.take zo
  .have f:¬ (c.length:Int) > 6:=zo;refine cJ f ?_;grind [a4Z]
 rintro s w1 ⟨rfl,Q⟩ ds;refine⟨fun s w'=>w'=w1/\qz w1 (s 1) (d.take 6),?_,?_⟩
 .by_cases h6:6<d.length
  .have f:(d.length:Int) > 6:=zo;have hk:(6:Int)<=(c1:Int):=zo;refine dG f hk @z6 @t6 ?_;exact P.take zo
  .have f:¬ (d.length:Int) > 6:=zo;refine cJ f ?_;grind [a4Z]
 rintro s1 w2 ⟨rfl,S⟩ ds1;obtain⟨A,T⟩:=cj (c.take 6);obtain⟨B,g⟩:=cj (d.take 6);have iA:Ci A:=T ▸ i0.take 6;have iB:Ci B:=g ▸ i1.take 6;have lA:A.length<=6:=zg;have lB:B.length<=6:=zg;rw[<- T] at Q;rw[<- g] at S;clear T g N P i0 i1 nX jz;obtain⟨C,hC⟩:=cj (A++B);have L:C.length<=12:=zg;have U:Ci C:=fun z a=>by
  rw[hC] at a;rcases a3Z.1 a with h | h
  .exact iA z h
  .exact iB z h
 have kC:lJ C=lJ A++lJ B:=by rw[hC];exact a4H ..
 have liA:=PS (zs:=A) zo;have a3l:=PS (zs:=B) zo;have liC:=PS L;refine a3L (PR Q zo iA) ?_;rintro e w3 ⟨rfl,rfl⟩;refine bG ?_;refine a3L (PR S zo iB) ?_;rintro e q ⟨rfl,rfl⟩;refine bG ?_;refine au4 (World.ownsRow_nil q q.heap.size _ _) Q zo (a3O _) ?_;intro u5 w5 W g5 o5;have X:Ext q w5:=bD.grow yF g5 (fun k hk=>by cases hk);refine au4 W (S.ext X) zo X.size ?_;intro u6 w6 r6 g6 o6;have kq:Ext q w6:=bD.grow X g6 fun k hk=>(W.lt k hk).1;obtain⟨l,-⟩:=au3 (zs:=C) (by rw[hC,a4H];exact r6);clear W g5 o5 r6 g6 o6;refine a3L (PR l L U) ?_;rintro e w7 ⟨rfl,rfl⟩;obtain⟨a6,c6,rfl,Iy⟩:=l.shape;have e1:IntKind.i64.wrap ((C.length:Int)-1)=(C.length:Int)-1:=by grind [Qc]
 refine cJ @e1 ?_;refine⟨fun t s w'=>∃ i,t=C.length-i/\i<=C.length/\Ext w7 w'/\w'.ownsRow w7.heap.size 3 1 (s 11) i ((C.reverse.take i).map (.int .i64))/\s 12=zi ((C.length:Int)-1-((i:Nat):Int)),
  ⟨_,0,J,Nat.zero_le _,yF,World.ownsRow_nil _ _ _ _,(by show Value.int .i64 _=Value.int .i64 _;congr 1;omega)⟩,?_⟩
 intro t s2 dz w8 hI;refine toPr ?_;obtain⟨i,rfl,hi,tS,uO,M⟩:=hI;by_cases GL:i<C.length
 .obtain⟨j,hj⟩:=cj (C.length-1-i);have fH:(C.length:Int)-1-((i:Nat):Int)=(j:Int):=zo;have Mt:(j:Int) ≥ 0:=zo;have fm:j<C.length:=zo;obtain⟨x,hx⟩:∃ x,C[j]?=O x:=⟨_,a3P fm⟩;obtain⟨p,dC,fi⟩:=au2 (l.ext tS) hx;have e2:IntKind.i64.wrap ((j:Int)-1)=(j:Int)-1:=by grind [Qc]
  have CP:C.reverse.take (i+1)=C.reverse.take i++[x]:=by
   grind [List.take_add_one]
  rw[fH] at M;refine dG M Mt dC fi ?_;refine aWl tS uO zo ?_;intro v9 w9 mH r9;refine dA M @e2 ?_;exact⟨_,zo,i+1,J,zo,mH,yH,zg⟩
 .have Gs:i=C.length:=zo;subst Gs;have Mt:¬ (C.length:Int)-1-(C.length:Int) ≥ 0:=zo;obtain⟨hD8,-⟩:=au3 (zs:=C.reverse) (by rw[show C.reverse=C.reverse.take C.length from(a4Z (by rw[List.length_reverse];omega)).symm];exact uO);have r:Ext q w8:=yF;have u:=hT.ext r;have liD:=PS (zs:=C.reverse) (by rw[List.length_reverse];omega);refine dA M Mt ?_;refine a3L (PR hD8 zg (fun z a=>U z (List.mem_reverse.1 a))) ?_;rintro e w9 ⟨rfl,rfl⟩;refine bG ?_;refine a3L (aVp auQ zd u) ?_;rintro e ju ⟨B9,y⟩;rw[aaS] at y;obtain⟨xb,rfl,MK⟩:=y;have b:=u.ext B9;have Kg:=r.trans B9;refine bG ?_;refine⟨fun z w'=>w'=ju,?_,?_⟩
  .refine⟨fun z w'=>w'=ju/\z 67 = .bool ae,?_,?_⟩
   .exact eR
   .rintro z w' ⟨rfl,a⟩ dd;exact eV a
  rintro z11 j4 rfl a3q;obtain⟨E1,st1,a3t,Zt,fK,D,-⟩:=(aWc mc (SH A) (SH B) (by rw[MY];exact lA) (by rw[MY];exact lB)).ex;rw[<- kC] at D;repeat rw[xP _ _ (by simp only[a3M,a3N,a3V];omega)]
  refine a3L (aju (PN (lJ A) (lJ B)) mc (by grind [PN,a3M,a3N,a3V]) b MK aaS) ?_;rintro e oR ⟨rH,E⟩;rw[fK] at E;obtain⟨qb1,rfl,hB1⟩:=E;have hA1:=hB1.apt (bD.refl _ _);refine bG ?_;refine⟨fun z w'=>w'=oR,?_,?_⟩
  .refine⟨fun z w'=>w'=oR/\z 86 = .bool ae,?_,?_⟩
   .exact eR
   .rintro z w' ⟨rfl,a⟩ dd;exact eV a
  rintro z13 mJ rfl a3w;obtain⟨q2,ti,jt⟩:=UE D;obtain⟨q3,zh,-⟩:=UE jt;refine a3L (WX hA1 rH b zo ti) ?_;rintro e Gt ⟨rfl,EO,D',aWq,-⟩;refine bG ?_;refine a3L (auK Gt C.length zo) ?_;rintro e Mu ⟨rfl,rfl⟩;have Kp:(di C.length).length<=2:=Hn C.length 1 zo (C.length+1) zo;have By:((0:Nat):Int)=0:=rfl;have Qp:((6:Nat):Int)=6:=rfl;refine bG ?_;refine⟨fun z w'=>w'=Mu,?_,?_⟩
  .refine⟨fun z w'=>w'=Mu/\z 105 = .bool ae,?_,?_⟩
   .refine cJ By ?_;repeat rw[xP _ _ (by simp only[a3M,a3N,a3V];omega)]
    exact eV @MY
   .rintro z w' ⟨rfl,a⟩ dd;exact eV a
  rintro z16 w16 rfl a3z;refine a3L (WX aWq EO b zo zh) ?_;rintro e w17 ⟨rfl,m,-⟩;refine cJ Qp ?_;repeat rw[xP _ _ (by simp only[a3M,a3N,a3V];omega)]
  have n:=b.ext m;have F:EZ w17 xb Fh:=MK.iS (eJ.ea m);have aWs:=Kg.trans m;obtain⟨E3,st3,a3C,Gd,zM,SI,-⟩:=(aWd (A:=lJ C) mc (SH C) (by rw[MY];exact L)).ex;refine a3L (aju (PO (lJ C)) mc (by grind [PO,a3M,a3N,a3V]) n F aaS) ?_;rintro e w18 ⟨aWt,I⟩;rw[zM] at I;obtain⟨qb3,rfl,hB3⟩:=I;have hA3:=hB3.apt (bD.refl _ _);refine bG ?_;obtain⟨q4,KQ,-⟩:=UE SI;refine a3L (WX hA3 aWt n zo KQ) ?_;rintro e K ⟨rfl,o,-⟩;refine bG ?_;have Bg:(lJ C).reverse=lJ C.reverse:=List.map_reverse.symm;refine⟨fun z w'=>w'=K,?_,?_⟩
  .refine⟨fun z w'=>w'=K/\z 137 = .bool ae,?_,?_⟩
   .refine cJ By ?_;repeat rw[xP _ _ zg]
    exact eV Bg
   .rintro z w' ⟨rfl,a⟩ dd;exact eV a
  rintro z20 w20 rfl a3F;have aWw:=n.ext o;have aWx:EZ w20 xb Fh:=F.iS (eJ.ea o);have aWy:=aWs.trans o;refine a3L (aWi mc (by grind [qz.ext,bD.trans]) L U aWw aWx) ?_;rintro e w21 ⟨aWz,rfl⟩;refine bG ?_;exact hR _ (aWy.trans aWz)
open Go.ChangeShapes Go.WideShapes Go.ChangeMaps
def aWA{n:Int}(h:(Lit.int .i64 n).wf=G):-9223372036854775808<=n/\n<=9223372036854775807:=by
 have h:(decide ((-9223372036854775808:Int)<=n) && decide (n<=9223372036854775807))=true:=h;grind
def avh{H:Type}{enc:TypeId×Y->H}{d:DataW H}{p:List MemPlace}(n:Value.okWide bd1 W .any base 45 v)(h:DataW.Trod enc bd1 W 0 (fun _=>G) G 45 v d p) :
  ∃ zs:List Int,qz W v zs/\Ci zs/\∀ c,Ext W c->∃ o,DataW.Trod enc bd1 c 0 (fun b=>decide (b<W.heap.size)) G 45 v d o:=by
 have ht:Tryz.prog.underlying 45=O (.slice 3):=zk;have hi:Tryz.prog.underlying 3=O (.int .i64):=zk;have g:Tryz.prog.cellsOf 3=1:=zk;obtain⟨a0,len,cap,rfl⟩:=okWide_slice ht n;obtain⟨fuel,q⟩:=h;rcases open_ints ht hi g q with⟨j,k⟩| ⟨a,ER,A,zs,l,_,r,hm,m,hx,s,t⟩
 .simp [Value.cells] at j;obtain⟨rfl,rfl,rfl⟩:=j;simp only[a4b] at k;obtain⟨rfl,rfl⟩:=k;exact⟨[],qz.nil,(fun z m=>zg),fun c u=>⟨_,shut_slice_nil ht⟩⟩
 .simp [Value.cells] at l;obtain⟨rfl,rfl,rfl⟩:=l;simp only[a4b] at hx;obtain⟨rfl,rfl⟩:=hx;simp only[if_true] at m;refine⟨zs.take len,⟨O a,cap,zg,zg,zg,fun B i z e x=>?_⟩,fun z x=>aWA zg,fun c u=>?_⟩
  .grind
  .have f:zs.length=if decide (a.block<W.heap.size)=G then cap else len:=by
    by_cases f:a.block<W.heap.size
    .grind
    .have C:zs.length=0:=by
      refine Decidable.byContradiction fun D=>f ?_;have y:=s 0 zo;unfold World.cell? at y;have E:(a.add 0).block=a.block:=rfl;grind
     grind
   have t0:=shut_ints (enc:=enc) (w:=c) (base:=0) (spare:=fun b=>decide (b<W.heap.size)) (held:=true) (a:=a) (len:=len) (cap:=cap) (zs:=zs) 0 ht hi g zo r hm f (by grind [au1]) t;exact⟨_,2,by simpa [Value.cells] using t0⟩
def aWB(os:Os)(started:os.Started)(H:Type)(enc:TypeId×Y->H) :
  ReturnsInHanded {} Tryz.checked os 4 .any (fun w args=>(Rows.listsSpec.pre enc bd1 Tryz.f4 [] ae w args/\laidMetH bd1 Rows.listsRow.laid w)/\sizedMet enc bd1 Tryz.f4 (OpenSpec.ofChange Rows.listsSpec) ae w args)
   (Rows.listsSpec.post enc bd1 Tryz.f4 ae G ae ae):=by
 refine aVd (C:=Tryz.checked) (X:=fun w _=>laidMetH bd1 Rows.listsRow.laid w) (by grind [laidMetH.of_heap]) Tryz.own started zk Tryz.func4
  (ChangeSpec.witness_shaped (enc:=enc) (C:=Tryz.checked) (os:=os) (X:=fun w _=>laidMetH bd1 Rows.listsRow.laid w) ae (wLd Rows.listsRow.laid os) #[bW,bW,.bool ae] 8 (aVc _ _) (World.shaped_of_ZipB zk zk) zk zk zk (aVj os _)) ?_
 intro W base args ds gs before b g k l m;have a:∀ (j:Nat) t v,Tryz.f4.params[j]?=O t->args[j]?=O v->Value.okWide bd1 W .any base t v:=b;have c:=g;obtain⟨p,q,d,n,rfl,y,z⟩:=g;have h:DataW.TrodAll enc bd1 W 0 (fun _=>G) G Tryz.f4.params.toList args.toList ds p:=d;rw[Tryz.params4] at h a;obtain⟨v0,v1,v2,d0,d1,d2,p0,p1,p2,rfl,rfl,rfl,o,r,s⟩:=trodAll_three h;obtain⟨rfl,rfl⟩:=trodVars_none n;obtain⟨A,z0,i0,s0⟩:=avh (a 0 45 v0 J J) o;obtain⟨B,u,i1,s1⟩:=avh (a 1 45 v1 J J) r;obtain⟨b2,rfl,rfl,rfl⟩:=open_bool Tryz.underlying4 (a 2 4 v2 J J) s;have x:Fg W:=aU9 l m zk zk zk zk zk zk zk;refine(aWm b2 z0 u i0 i1 x).mono fun e i ⟨f,he⟩=>?_;subst he;obtain⟨q0,t0⟩:=s0 i f;obtain⟨q1,t1⟩:=s1 i f;refine⟨_,J,_,_,_,[],_,[],c,?_,trodAll_mk3 t0 t1 (shut_bool Tryz.underlying4 b2),?_,aVa f _,zg⟩
 .exact trodAll_mk1 (shut_bool Tryz.underlying4 G)
 .rfl
def aWF:Rows.ListsSaid:=
 OpenClaim.holds_of_wide 4 Tryz.f4 J J J J J J J ⟨J,J,J,J,J⟩ J J J J J zk Tryz.func4 zk
  (of_decide_eq_true zk) (by unfold Func.isWrapper;first | (rw[zip (by decide +kernel)];kernel_rfl) | (rw[bU (by decide +kernel)];exact⟨J,J⟩))
  (fun os started H enc _=>aWB os started H enc)
end Go.Proofs.YtoegidfbnkaabaaGreatDoor
namespace Go.Proofs.YtoegidfbnkaabaaGreatDoor
open P
open Go
theorem lists_card:Rows.ListsCardSaid:=
 Claim7.holds_tied_plain_at .later [] [.data,.data,.data,.data,.handle,.sentinel,.sentinel,.data,.data,.data,.pinned] G (G, "71501c33516f01a4d740c2783eba7adf29c72c81702371d8bc22e96ca6284450") G
  aWF zg zk zg lists_row_tie J ⟨J,J⟩ zk J
  (fun f fn b a=>by
   obtain rfl:f=4:=Option.some.inj ((show Tryz.prog.funcNamed "horn/hornkeep.Lists" = O 4 by kernel_rfl).symm.trans b) |>.symm;obtain rfl:fn=Tryz.f4:=(Option.some.inj (Tryz.func4.symm.trans a)).symm;exact⟨zk,fun j t ht=>by
    rw[Tryz.params4] at ht;have c:t=4\/t=45:=by
     grind
    rcases c with rfl | rfl
    .exact(show Tryz.prog.wantsStandIn 4=ae by kernel_rfl)
    .exact(show Tryz.prog.wantsStandIn 45=ae by kernel_rfl)⟩)
  zk
end Go.Proofs.YtoegidfbnkaabaaGreatDoor
