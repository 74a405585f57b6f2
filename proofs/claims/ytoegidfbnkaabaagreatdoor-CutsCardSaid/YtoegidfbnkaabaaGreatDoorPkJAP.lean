/- A part of one proof (PureC2, PureRd, PureLv, PureAe, PureTo, PureKe, ShB1, PureD, PW1, ShP1, ShP2, PW2, PW3, PW4, ShX1, KS1, GBase3). -/
import Derived.Test.YtoegidfbnkaabaaGreatDoorPkJAO
import Derived.Shelf.Strings.BuilderF
import Derived.Shelf.Strconv.Itoa4
import Derived.Lib.ItoaLen
set_option linter.all false
set_option maxRecDepth 100000
set_option maxHeartbeats 8000000
open Option renaming some → O, none → V
open Go renaming Value → Y, World → Z
open Bool renaming true → A, false → G
open Go.Obj renaming cells → ae
open Go.Ending renaming returned → ah
open Go.Value renaming nilIface → ai, iface → aj, tuple → ak, pointer → aq
open Option.some renaming injEq → aZG
open Nat renaming le_trans → aZL
open List renaming mem_cons → aZU, mem_cons_self → aZV, mem_append → aZW, not_mem_nil → aZ2, range → aZ9, append_assoc → a0d, mem_cons_of_mem → a0A, mem_of_getLast? → a00, flatten_cons → a1F
open Prod.mk renaming injEq → aZ6
open Option renaming map_eq_some_iff → aZ7
open Go.Result renaming andThen → a0x
open Go.Oper renaming upon_value → a1V
open Go.Lib renaming decDigits → a4C
open Go.Proofs.Tryz renaming prog → a9A
open Go.Proofs.Tryz
namespace Go.Proofs.YtoegidfbnkaabaaGreatDoor
open P
variable{D F:Nat->Prop}{K:Y->Prop}{S buf nm tv u v vv z:Y}{X:Y->Z->Prop}{b base c cap d e f g i k k' m n nv pb so wb:Nat}{cs iB:Array Y}{es:Array MapEntry}{out:Bs}{t:Tm}{tr:Tr}{w w' w1 w2:Z}{xs:List Y}{ρ:Nat->Nat}
namespace P
section
theorem WZ(h:n<10):(UInt8.ofNat (48+n)).toNat=48+n:=by
 grind [UInt8.toNat_ofNat']
def Pf:∀ (f n:Nat),∀ c∈rS f n,digit c=A
 | 0,n,c,h=>by cases h
 | f+1,n,c,h=>by
  rw[rS] at h;split at h
  .rename_i a;simp only[aZU,aZ2,or_false] at h;subst h;simp only[digit,decide_eq_true_eq,WZ a];omega
  .rw[aZW] at h;rcases h with h | h
   .exact Pf f _ c h
   .simp only[aZU,aZ2,or_false] at h;subst h;have:=Nat.mod_lt n (show 10 > 0 by omega);simp only[digit,decide_eq_true_eq,WZ this];omega
theorem adb:∀ (f n:Nat),n<f->num (rS f n)=n
 | 0,n,h=>zo
 | f+1,n,h=>by
  rw[rS];split
  .grind [num,WZ]
  .have hm:=Nat.mod_lt n (show 10 > 0 by omega);rw[ahN,adb f (n / 10) zo,WZ hm];omega
def ade:∀ (f n:Nat),n<f->∃ c r,rS f n=c::r/\(c≠48\/r=[])
 | 0,n,h=>zo
 | f+1,n,h=>by
  rw[rS];split
  .grind
  .rename_i b;obtain⟨c,r,d,a⟩:=ade f (n / 10) zo;refine⟨c,r++[UInt8.ofNat (48+n % 10)],zg,.inl fun e=>?_⟩;rcases a with a | a
   .grind
   .subst e a;grind [adb,num]
theorem W0(n:Nat):num (ff n)=n:=adb _ _ zo
theorem aHO{a:Nat}(h:ff a=ff b):a=b:=by
 grind [W0]
def names(n:Nat):List Bs:=(aZ9 n).map fun i=>95::ff (i+1)
mutual
def amO (S:List Nat):Tm->Tm
 | .atom s=>.atom s
 | .int n=>.int n
 | .var i=>.var (S.idxOf i)
 | .comp name args=>.comp name (amP S args)
 termination_by structural t=>t
def amP (S:List Nat):List Tm->List Tm
 | []=>[]
 | t::r=>amO S t::amP S r
 termination_by structural t=>t
end
def E4{α:Type}(r:cj α):Prop:=∃ a,r = .err 4 a
section
variable(S:List Nat)
def C1(I:List Item)(s0 s1:List Nat)(t:Tm):Prop:=∀ (T:List Tok) (k d f:Nat) (r:cj Ex),At T k I->eh T (k+I.length) [40]=G->jt T f 1 k (names s0.length) d=O r ->
 E4 r\/∃ x g,qx T g 1 x (k+I.length) (names s1.length) d=O r/\made (aZ9 S.length) x=amO S t
end
variable{S:List Nat}{I:List Item}{s0 s1 s2:List Nat}{t:Tm}{T:List Tok}
end
def Gw(c:UInt8)(w:Bs):Prop:=∀ x∈w,x≠c
theorem W1{c:UInt8}:∀ {a:Bs},Gw c a->gN c a=[a]
 | [],_=>rfl
 | x::a,h=>by
  rw[ac3,bZ (h x aZV),W1 fun y b=>h y (a0A _ b)]
def amQ:∀ {l:List Bs} {f:Bs},Gw 32 f->(∀ w∈l,Gw 32 w)->gN 32 (f++(l.map fun w=>32::w).flatten)=f::l
 | [],f,a,_=>by simp_all [List.map_nil,List.flatten_nil,List.append_nil,W1]
 | w::l,f,a,b=>by
  rw[List.map_cons,a1F,List.cons_append,SN,W1 a,amQ (b w aZV) zg];rfl
def Pg(w:Bs):Prop:=Gw 32 w/\Gw 10 w
def amR{c:UInt8}(a:c≠32):∀ {l:List Bs},(∀ w∈l,Gw c w)->Gw c (l.map fun w=>(32:UInt8)::w).flatten
 | [],_=>fun x hx=>zg
 | w::l,h=>fun x hx=>by
  rw[List.map_cons,a1F] at hx;rcases aZW.1 hx with hx | hx
  .rcases aZU.1 hx with rfl | hx
   .grind
   .exact h w aZV x hx
  .exact amR a zg x hx
def aHQ{f:Bs}{l:List Bs}{r:Bs}{k:Nat}{p:Pv}(c:Pg f)(d:∀ w∈l,Pg w):oO (gN 10 (mz f l++r)) k p=match oy (f::l) p with
  | none=>.error k
  | some p=>oO (gN 10 r) (k+1) p:=by
 have h:Gw 10 (f++(l.map fun w=>(32:UInt8)::w).flatten):=fun x hx=>by
  rcases aZW.1 hx with hx | hx
  .exact c.2 x hx
  .exact amR zg (fun w hw=>(d w hw).2) x hx
 have e:gN 10 (mz f l++r)=(f++(l.map fun w=>(32:UInt8)::w).flatten)::gN 10 r:=by
  grind [mz,a0d,List.singleton_append,SN,W1]
 rw[e];have i:=(SM 10 r).2;cases hr:gN 10 r with
 | nil=>grind
 | cons a b=>
  have g:gN 32 (f++(l.map fun w=>(32:UInt8)::w).flatten)=f::l:=amQ c.1 fun w hw=>(d w hw).1;rw[show oO ((f++(l.map fun w=>(32:UInt8)::w).flatten)::a::b) k p=(match oy (gN 32 (f++(l.map fun w=>(32:UInt8)::w).flatten)) p with
   | none=>.error k
   | some p=>oO (a::b) (k+1) p) from J,g]
structure InR(n:Nat)(i:In):Prop where
 wd:Pg i.word
 ws:∀ w∈tU i ((mB i.word).getD []) i.s,Pg w
 rd:uV n (i.word::tU i ((mB i.word).getD []) i.s)=O i
theorem aHS(l:List Co)(c:Co)(f:Co->Co):Gr (l++[c]) f=l++[f c]:=by
 simp_all [Gr,List.reverse_append]
theorem amS(l:List Pd)(c:Pd)(f:Pd->Pd):Kh (l++[c]) f=l++[f c]:=by
 simp_all [Kh,List.reverse_append]
def aHT{z:Int}(h:-9223372036854775808<=z/\z<=9223372036854775807):DE (kO z)=O z:=by
 have key:∀ a:Int,a=z->(if kO a=kO z/\-9223372036854775808<=a/\a<=9223372036854775807 then O a else V)=O z:=by
  grind
 unfold DE;simp only;refine key _ ?_;by_cases f:z<0
 .have e:kO z=45::ff z.natAbs:=by simp_all [kO,zip]
  grind [W0]
 .have e:kO z=ff z.natAbs:=by simp_all [kO,bZ]
  rw[e];obtain⟨c,r,d,-⟩:=ade (z.natAbs+1) z.natAbs zo;have g:=Pf (z.natAbs+1) z.natAbs c zg;have b:=W0 z.natAbs;unfold ff at b ⊢;rw[d] at b ⊢;split
  .simp_all [digit]
  omega
theorem Kn(n:Nat):ff n=kO (n:Int):=by simp_all [kO,bZ]
structure PdR(p:Pd):Prop where
 wd:Pg p.name
 name:px p.name=O p.name
 ar:p.arity<64
 cls:∀ c∈p.clauses,c.slots<65/\∀ i∈c.ins,InR c.slots i
def wdN(n:Nat):Pg (ff n):=⟨fun x hx e=>by
 have:=Pf (n+1) n x hx;simp_all [digit],fun x hx e=>by
 have:=Pf (n+1) n x hx;simp_all [digit]⟩
def Pv.cur(p:Pv):Option Co:=match p.ask with
 | some (c,_)=>O c
 | none=>if p.open_ then oy.Pa p.dK else V
def Pv.add(p:Pv)(i:In):Pv:=match p.ask with
 | some (c,n)=>{ p with ask:=O ({ c with ins:=c.ins++[i] },n) }
 | none=>{ p with dK:=Kh p.dK fun q=>{ q with clauses:=Gr q.clauses fun c=>{ c with ins:=c.ins++[i] } } }
abbrev Ci:Bs:=[112,114,101,100]
abbrev A9:Bs:=[99,108,97,117,115,101]
abbrev DM:Bs:=[113,117,101,114,121]
theorem W2{w0:Bs}{r:List Bs}{p:Pv}(a:p.ask≠V)(hw:w0=Ci\/w0=A9\/w0=DM):oy (w0::r) p=none:=by
 obtain⟨dK,o,ask⟩:=p;cases ask with
 | none=>grind
 | some cn=>
  unfold oy;grind
def aHV{a b:Bs}{p:Pv}(c:p.ask=V):oy [Ci,a,b] p=match px a,j6 b 64 with
  | some a,O b=>if p.dK.any (fun q=>q.name == a && q.arity == b) then V else O { p with dK:=p.dK++[⟨a,b,[]⟩],open_:=false }
  | _,_=>none:=by
 grind [oy,px,j6]
def aHW{a:Bs}{p:Pv}(b:p.ask=V)(c:p.dK≠[]):oy [A9,a] p=match j6 a 65 with
  | some a=>O { p with dK:=Kh p.dK fun q=>{ q with clauses:=q.clauses++[⟨a,[]⟩] },open_:=true }
  | none=>none:=by
 grind [oy]
theorem amT{a b:Bs}{p:Pv}(c:p.ask=V):oy [DM,a,b] p=match j6 a 65 with
  | some a=>match j6 b (a+1) with
   | some b=>O { p with ask:=O (⟨a,[]⟩,b),open_:=true }
   | none=>V
  | none=>none:=by
 grind [oy,j6]
def aHX{w0:Bs}{r:List Bs}{p:Pv}(b:¬ (p.ask≠V/\(w0=Ci\/w0=A9\/w0=DM)))(d:¬ (w0=Ci/\r.length=2))(f:¬ (w0=A9/\r.length=1/\p.dK≠[]))(g:¬ (w0=DM/\r.length=2)) :
  oy (w0::r) p=match p.cur with
   | some c=>match uV c.slots (w0::r) with
    | some i=>O (p.add i)
    | none=>V
   | none=>none:=by
 unfold oy;split
 .grind
 .rename_i e;injection e with h j;have a:p.dK=[]:=zg;obtain⟨dK,o,ask⟩:=p;have a:dK=[]:=a;subst a;cases ask with
  | some c=>grind
  | none=>
   have k:(Pv.mk [] o V).cur=none:=by
    unfold Pv.cur;cases o<;>rfl
   grind
 .grind
 .obtain⟨dK,o,ask⟩:=p;cases ask with
  | none=>
   rw[bZ zs];grind [Pv.cur,Pv.add]
  | some c=>
   rw[bZ]
   .grind [Pv.cur,Pv.add]
   grind
def Pv.Bd(k:Nat)(p:Pv):Prop:=(∀ q∈p.dK,q.clauses.length<=k/\∀ c∈q.clauses,c.ins.length<=k/\c.slots<=64)/\∀ c n,p.ask=O (c,n)->c.ins.length<=k/\c.slots<=64
theorem Pv.Bd.cur{k:Nat}{p:Pv}{c:Co}(h:p.Bd k)(a:p.cur=O c):c.ins.length<=k/\c.slots<=64:=by
 unfold Pv.cur at a;split at a
 .rename_i e n b;injection a with a;subst a;exact h.2 _ _ b
 .split at a
  .unfold oy.Pa at a;split at a
   .rename_i q d;exact(h.1 q (a00 d)).2 c (a00 a)
   grind
  grind
theorem Pv.Bd.add{k:Nat}{p:Pv}(h:p.Bd k)(i:In):(p.add i).Bd (k+1):=by
 unfold Pv.add;split
 .rename_i c n f;refine⟨fun q a=>⟨by have:=(h.1 q a).1;omega,fun c b=>⟨by have:=((h.1 q a).2 c b).1;omega,((h.1 q a).2 c b).2⟩⟩,fun l m he=>?_⟩;injection he with he;injection he with d g;subst d;have:=h.2 _ _ f;grind
 .rename_i f;refine⟨fun q a=>?_,fun c n he=>?_⟩
  .rcases acV a with a | ⟨q0,e,rfl⟩
   rotate_left
   .have a:=a00 e;refine⟨?_,fun c b=>?_⟩
    .show(Gr _ _).length<=_;rw[amq];have:=(h.1 q0 a).1;omega
    .rcases amp b with b | ⟨c0,j,rfl⟩
     .exact⟨by have:=((h.1 q0 a).2 c b).1;omega,((h.1 q0 a).2 c b).2⟩
     .have:=(h.1 q0 a).2 c0 (a00 j);grind
   .exact⟨by have:=(h.1 q a).1;omega,fun c b=>⟨by have:=((h.1 q a).2 c b).1;omega,((h.1 q a).2 c b).2⟩⟩
  grind
theorem Pv.Bd.mono{p:Pv}(h:p.Bd k)(hk:k<=k'):p.Bd k':=
 ⟨fun q a=>⟨aZL (h.1 q a).1 hk,fun c b=>⟨aZL ((h.1 q a).2 c b).1 hk,((h.1 q a).2 c b).2⟩⟩,fun c n he=>⟨aZL (h.2 c n he).1 hk,(h.2 c n he).2⟩⟩
theorem adg(c:UInt8):∀ (s:Bs),∀ l∈gN c s,c ∉ l/\l.length<=s.length
 | [],l,h=>by
  simp_all [gN]
 | x::r,l,h=>by
  have ih:=adg c r;unfold gN at h;grind
def Wk.new(b:Bd)(n:Nat):Wk:=⟨n,⟨[],0⟩,[⟨O b,aZ9 n,0⟩],[]⟩
def Iy(c:Co):Vm:=⟨0,⟨[],0⟩,[⟨c,List.replicate c.slots .nil,0,V,0,A⟩],0,0,[]⟩
def vmE(dK:List Pd)(told:Nat):En where
 St:=Vm
 sr m:=m.sr
 nv m:=m.n
 fu m f:={ m with sr:={ m.sr with fuel:=f } }
 nx d f m:=ML dK d f m
 told m:=m.iK (aZ9 told)
def Cj(cs:List Cl)(b:Bd)(nv:Nat):Option Bs:=match xz cs [] with
 | none=>V
 | some l=>match A8 [] b nv A with
  | none=>V
  | some a=>O (yI l a nv)
inductive W4 where
 | err (e:Nat) (at_:Int)
 | ok (E:En) (st:E.St) (names:List Bs)
def runT(t:Bs)(names:List Bs):W4:=match rY t with
 | .error (e,k)=>.err e k
 | .ok (ps,c,n)=>.ok (vmE ps n) (Iy c) names
def Gx(cs:List Cl)(q:Bs)(machine:Bool):W4:=match xw uO q with
 | .err e a=>.err e a
 | .ok b _ vs=>if machine then match Cj cs b vs.length with
   | none=>.err 4 (-1)
   | some t=>runT t vs
  else .ok (WE cs vs.length) (Wk.new b vs.length) vs
def W5(d f n:Nat):W4->Option (List (Bs×Nat))
 | .err _ _=>V
 | .ok E st names=>(Gq E names d f n (V,st)).map Prod.fst
def firstT(d f:Nat)(s q:Bs)(machine:Bool):Option (Bs×Nat):=match program s with
 | .err e _=>O ([],e)
 | .ok cs _ _=>match Gx cs q machine with
  | .err e _=>O ([],e)
  | .ok E st names=>(DB E names d f (V,st)).map Prod.fst
def amV:∀ (d c:List Bs) (k:Nat) (p q:Pv),c≠[]->oO (d++c) k p = .ok q->∃ p1,oO c (k+d.length) p1 = .ok q
 | [],c,k,p,q,_,h=>⟨p,h⟩
 | l::d,c,k,p,q,e,h=>by
  have f:d++c≠[]:=(by simp_all);obtain⟨x,r,hx⟩:∃ x r,d++c=x::r:=by
   cases g:d++c with
   | nil=>grind
   | cons a b=>grind
  rw[List.cons_append,hx,oO] at h
  .split at h
   .grind
   .rename_i p1 _;rw[<- hx] at h;obtain⟨p2,i⟩:=amV d c (k+1) p1 q e h;grind
  grind
def aHZ{ws:List Bs}{p a:Pv}(h:oy ws p=O a)(b:p.ask.map (·.2)=O n):a.ask.map (·.2)=O n:=by
 obtain⟨dK,o,ask⟩:=p;cases ask with
 | none=>grind
 | some cn=>
  obtain⟨c,d⟩:=cn;simp only[Option.map_some,aZG] at b;subst b;unfold oy at h;grind
theorem amW:∀ (L:List Bs) (k:Nat) (p q:Pv) (n:Nat),oO L k p = .ok q->p.ask.map (·.2)=O n->q.ask.map (·.2)=O n
 | [],k,p,q,n,h,a=>by
  simp_all [oO]
 | [r],k,p,q,n,h,a=>by
  grind [oO]
 | r::s::rs,k,p,q,n,h,a=>by
  rw[oO] at h
  .split at h
   .grind
   .rename_i p1 b;exact amW (s::rs) _ _ _ _ h (aHZ b a)
  grind
theorem aH0(h:j6 (ff nv) n=O b):b=nv:=by
 unfold j6 at h;split at h
 .rename_i z a;split at h
  .rename_i c;injection h with h;have d:=(WO a).1;grind [kO,aHO]
  grind
 grind
def Nl(s:Bs):Prop:=s=[]\/∃ a,s=a++[10]
def Nl.app{a b:Bs}(d:Nl a)(c:Nl b):Nl (a++b):=by
 rcases c with rfl | ⟨x,rfl⟩
 .grind
 .exact .inr ⟨a++x,zg⟩
theorem Nl.flat:∀ {L:List Bs},(∀ x∈L,Nl x)->Nl L.flatten
 | [],_=>.inl J
 | x::r,h=>by rw[a1F];exact(h x aZV).app (Nl.flat zg)
def Nl.words(f:Bs)(l:List Bs):Nl (mz f l):=.inr ⟨_,J⟩
theorem Nl.map{α:Type}{g:α->Bs}(a:∀ x,Nl (g x))(L:List α):Nl (L.map g).flatten:=Nl.flat fun x hx=>by
 grind
def Nl.pd(p:Pd):Nl (vV p):=(Nl.words _ _).app (Nl.map (fun _=>(Nl.words _ _).app (Nl.map (fun _=>Nl.words _ _) _)) _)
def aH1(b r:Bs)(c:Nl b):∃ L,gN 10 (b++r)=L++gN 10 r:=by
 rcases c with rfl | ⟨a,rfl⟩
 .simp_all
 simp_all [gN,a0d,SN]
def aH2(c:UInt8):∀ (s:Bs),gN c s≠[]
 | []=>by simp [gN]
 | x::r=>by
  grind [ac3]
theorem aH3{l:List Pd}{ask:Co}{ps:List Pd}{c:Co}(h:rY (yI l ask nv) = .ok (ps,c,n)):n=nv:=by
 unfold rY at h;split at h
 .grind
 split at h
 .grind
 rename_i q a;split at h
 .rename_i j k m;injection h with h;injection h with b h;injection h with d e;subst b d e;have g:Nl (l.map vV).flatten:=Nl.map Nl.pd l;unfold yI at a;rw[a0d] at a;obtain⟨L,i⟩:=aH1 _ (mz [113,117,101,114,121] [ff ask.slots,ff nv]++Ag ask) g;rw[i] at a;obtain⟨p1,b⟩:=amV L _ _ _ _ (aH2 _ _) a;rw[aHQ (f:=[113,117,101,114,121]) (l:=[ff ask.slots,ff nv]) (⟨by grind [Gw],by grind [Gw]⟩) (fun w hw=>by
   simp only[aZU,aZ2,or_false] at hw;rcases hw with rfl | rfl<;>exact wdN _)] at b
  grind [W2,amW,aH0,amT]
 grind
def aH4{cs:List Cl}{x:Bd}{t:Bs}{ps:List Pd}{c:Co}(a:Cj cs x nv=O t)(b:rY t = .ok (ps,c,n)):n=nv:=by
 grind [Cj,aH3]
def W6{E:En}{v':List Bs}{q b:Qs E}{a:Bs×Nat}{l:List (Bs×Nat)}(h:Gq E v' d f (n+1) q=O (a::l,b)):∃ q1,DB E v' d f q=O (a,q1)/\Gq E v' d f n q1=O (l,b):=by
 grind [Gq]
def pA:Bs:=[97,46]
end P
open Go.Proofs.YtoegidfbnkaabaaGreatDoor.Sx
section
variable{p0 p1 p2 p3 p4 p5 p6 p7:Y}{w:Z}{R:Ending->Z->Prop}
def amX:=cz w R [p0,p1] (gc [] [] []) func44
def Gy(p0 p1:Y)(w:Z)(R:Ending->Z->Prop):Prop:=
 CA a9A 82 #[p0] w (fun k w1=>
 NC p0 fun g=>
 RD a9A (Instr.fieldAt 100 g 1) w1 (fun h=>
 RD a9A (Instr.loadAt 98 h) w1 (fun a=>
 WR a9A (Instr.buildSlice 98 1 #[(0,p1)]) w1 (fun b c=>
 WR a9A (Builtin.append_ #[98,98] 98 #[a,b]) c (fun d f=>
 NC p0 fun e=>
 RD a9A (Instr.fieldAt 100 e 1) f (fun i=>
 WU a9A (Instr.storeAt 98 i d) f (fun j=>
 R (ah ai) j) (PX R)) (PX R)) (PX R)) (PX R)) (PX R)) (PX R)) (PC R)
def amY(h:Gy p0 p1 w R):Calls a9A 95 #[p0,p1] w R:=
 cq (args:=[p0,p1]) (Eo (fun _=>[]) (fun _=>V) (fun _=>0) (fun _=>V) (fun _=>[]) (fun _=>[]) (fun _=>G) (fun _=>G)) func95 J zk zk h
def aH8{u:FrameMode}{w:Z}{R:Ending->Z->Prop}(h:Gy tv vv w R):CallsD a9A 95 #[tv,vv] u w fun e a w'=>a=u/\R e w':=
 asZ (args:=[tv,vv]) (Eo (fun _=>[]) (fun _=>V) (fun _=>0) (fun _=>V) (fun _=>[]) (fun _=>[]) (fun _=>G) (fun _=>G)) func95 J zk zk (Nat.le_of_ble_eq_true zk) [] zk h
end
namespace P
structure Nd where
 kind:Nat
 name:Bs
 n:Int
 args:List Nat
deriving Inhabited
structure Hp where
 nodes:List Nd
 to:List Int
 aUM:List Nat
 cost:Nat
 amZ:Nat
 err:Nat
def Hp.nd(H:Hp)(t:Nat):Nd:=H.nodes.getD t ⟨0,[],0,[]⟩
def Hp.adl(H:Hp)(t:Nat):Int:=H.to.getD t (-1)
def Hp.Du(H:Hp):Bool:=decide (H.amZ<H.cost) || decide (H.err≠0)
def Hp.add(H:Hp)(d:Nd):Hp:={ H with nodes:=H.nodes++[d],to:=H.to++[-1] }
def Hp.walk(H:Hp):Nat->Nat->Option Nat
 | 0,t=>if (H.nd t).kind=118/\0<=H.adl t then V else O t
 | f+1,t=>if (H.nd t).kind=118/\0<=H.adl t then H.walk f (H.adl t).toNat else O t
def Hp.fresh(H:Hp):Nat->Hp×List Nat
 | 0=>(H,[])
 | n+1=>let (a,l):=(H.add ⟨118,[],0,[]⟩).fresh n;(a,H.nodes.length::l)
mutual
def Hp.made (H:Hp) (vs:List Nat):Ex->Hp×Nat
 | .mk kind name n k args=>if kind=118 then(H,vs.getD k 0) else
  let (a,l):=H.nV vs args
  (a.add ⟨kind,name,n,l⟩,a.nodes.length)
 termination_by structural x=>x
def Hp.nV (H:Hp) (vs:List Nat):List Ex->Hp×List Nat
 | []=>(H,[])
 | x::xs=>let (a,t):=H.made vs x;let (b,l):=a.nV vs xs;(b,t::l)
 termination_by structural x=>x
end
def Hp.kP(H:Hp)(t:Nat):Nat:=if (H.nd t).kind≠99 then 0 else P.kP (H.nd t).name (H.nd t).args.length
abbrev Xr:=Bs×Nat×List Nat
def Xb(x:Option Xr)(k:Bs->Nat->List Nat->Option Xr):Option Xr:=
 match x with
 | none=>V
 | some (s,c,l)=>k s c l
def Hp.over(H:Hp)(c:Nat):Bool:=decide (H.amZ<c) || decide (H.err≠0)
mutual
def Hp.text (H:Hp):Nat->Nat->Nat->Nat->List Nat->Option Xr
 | 0,_,_,_,_=>V
 | f+1,t,least,c,seen=>
  if H.over (c+1) then O ([],c+1,seen)
  else match H.walk f t with
   | none=>V
   | some t=>
    if (H.nd t).kind=97 then O ((H.nd t).name,c+1,seen)
    else if (H.nd t).kind=110 then O (kO (H.nd t).n,c+1,seen)
    else if (H.nd t).kind=118 then match seen.idxOf? t with
     | some k=>O (95::ff (k+1),c+1,seen)
     | none=>O (95::ff (seen.length+1),c+1,seen++[t])
    else if H.kP t≠0 then
     Xb (H.text f ((H.nd t).args.getD 0 0) (H.kP t) (c+1) seen) fun a c seen=>Xb (H.text f ((H.nd t).args.getD 1 0) (H.kP t+1) c seen) fun b c seen=>
      let op:=if (H.nd t).name=[109,111,100] then [32,109,111,100,32] else(H.nd t).name
      O (if H.kP t<least then 40::(a++op++b++[41]) else a++op++b,c,seen)
    else if (H.nd t).name=[46]/\(H.nd t).args.length=2 then H.list f t [91] (c+1) seen
    else H.targs f (H.nd t).args A ((H.nd t).name++[40]) (c+1) seen
 termination_by structural f=>f
def Hp.targs (H:Hp):Nat->List Nat->Bool->Bs->Nat->List Nat->Option Xr
 | 0,_,_,_,_,_=>V
 | _+1,[],_,out,c,seen=>O (out++[41],c,seen)
 | f+1,a::r,first,out,c,seen=>Xb (H.text f a 0 c seen) fun s c seen=>H.targs f r G ((if first then out else out++[44])++s) c seen
 termination_by structural f=>f
def Hp.list (H:Hp):Nat->Nat->Bs->Nat->List Nat->Option Xr
 | 0,_,_,_,_=>V
 | f+1,t,out,c,seen=>
  Xb (H.text f ((H.nd t).args.getD 0 0) 0 c seen) fun a c seen=>
   match H.walk f ((H.nd t).args.getD 1 0) with
   | none=>V
   | some r=>
    if H.over c then O (out++a,c,seen)
    else if (H.nd r).kind=97/\(H.nd r).name=[91,93] then O (out++a++[93],c,seen)
    else if (H.nd r).kind=99/\(H.nd r).name=[46]/\(H.nd r).args.length=2 then H.list f r (out++a++[44]) c seen
    else Xb (H.text f r 0 c seen) fun b c seen=>O (out++a++[124]++b++[93],c,seen)
 termination_by structural f=>f
end
end P
open Go.RowKit Sx
abbrev tX(l:Bs):List Y:=l.map fun c=>.int .u8 c.toNat
def sd(w:Z)(wb:Nat)(S nm:Y)(out:Bs):Prop:=
 ∃ a buf,(a = aq V\/a=pp wb)/\w.heap[wb]?=aM #[a,buf,S,nm] 103/\w.ownsRow (wb+1) 5 1 buf out.length (tX out)
def MB(wb b:Nat)(o:Obj):Prop:=b=wb\/(wb<b/\∃ cs z,o = ae cs 5 z)
abbrev jE(wb:Nat)(w w':Z):Prop:=bB (MB wb) w w'
def W8:(Tryz.prog.info? 100).map (·.size)=O 2:=zk
def aIb:liesAt a9A Tryz.prog.depth 103 (4 / Tryz.prog.cellsOf 103) 0 100 1=true:=zk
def aIc(h:w.heap[b]?=aM #[pp b,buf,S,nm] 103) :
  Calls a9A 82 #[pp b] w fun e w'=>e = ah (ak #[])/\w'=w:=by
 obtain⟨j,hj,_⟩:=aZ7.1 W8;have h0:w.cell? ⟨b,0,V⟩=O (pp b):=by grind [World.cell?]
 go_enter func82,ntmps82
 go_wp2
 rw[Lib.run_neq_ptr_same w _ underlying97 hj]
 go_wp2
 go_end0
 grind
def aId(h:w.heap[b]?=aM #[aq V,buf,S,nm] 103) :
  Calls a9A 82 #[pp b] w fun e w'=>e = ah (ak #[])/\w'=w.setCell ⟨b,0,V⟩ (pp b):=by
 obtain⟨j,hj,Pl⟩:=aZ7.1 W8;have h0:w.cell? ⟨b,0,V⟩=O (aq V):=by grind [World.cell?]
 have HT:w.frozen? ⟨b,0,V⟩=false:=jH h 0;have rZ:w.shape? b=O (103,4):=by grind [World.shape?]
 go_enter func82,ntmps82
 go_wp2
 rw[Lib.run_to_unsafe w ⟨b,0,V⟩ underlying97 underlying155 hj zo rZ (Nat.zero_lt_succ 3)];simp only[a0x];rw[a1V]
 go_wp2
 rw[run_callFunc_extern func110 zk zk zk (e:=Extern.AbiNoEscape.same) zk];rw[Lib.run_noEscape];simp only[a0x];rw[a1V]
 go_wp2
 rw[Lib.run_from_unsafe w ⟨b,0,V⟩ underlying155 underlying97 hj rZ aIb];simp only[a0x];rw[a1V]
 go_wp2
 go_end0
 grind
def am0(h:sd w wb S nm out) :
  Calls a9A 82 #[pp wb] w fun e w'=>e = ah (ak #[])/\jE wb w w'/\w'.heap.size=w.heap.size/\∃ buf,
   w'.heap[wb]?=aM #[pp wb,buf,S,nm] 103/\w'.ownsRow (wb+1) 5 1 buf out.length (tX out):=by
 obtain⟨d,buf,b,a,c⟩:=h;rcases b with rfl | rfl
 .refine(aId a).mono ?_;rintro e w' ⟨rfl,rfl⟩;rw[uD a];refine⟨J,(bB.refl _ _).bO (.inl fun _=>.inl J),yH,buf,yH,(by grind [JC])⟩
 .refine(aIc a).mono ?_;rintro e w' ⟨rfl,rfl⟩;exact⟨J,bB.refl _ _,J,buf,a,c⟩
def jE.W9(d:w1.ownsRow (wb+1) 5 1 buf n xs)(a:w1.grownBy w2 buf.ownBlock):jE wb w1 w2:=⟨a.os,a.tape,a.output,a.size,fun b o c hm=>by
 rw[a.block b (bg c) (fun e=>?_)]
 .exact yH
 .rcases d.2 with⟨rfl,_⟩| ⟨g,cap,cur,rfl,h,f,_⟩
  .cases e
  .simp only[Value.ownBlock,aZG] at e;subst e;rw[f] at c;injection c with c;exact hm (.inr zg)⟩
def aIe(h:sd w wb S nm out)(s:Bs)(f:out.length+s.length<=1000000000) :
  Calls a9A 44 #[pp wb,aT s] w fun e w'=>(∃ v,e = ah v)/\sd w' wb S nm (out++s)/\jE wb w w':=by
 refine amX ?_;refine(am0 h).mono ?_;rintro e w1 ⟨rfl,g,s1,buf,b,a⟩;have i:=bg b;refine cH b ?_;refine aiD (e:=5) zk a s f zo ?_;intro v' w2 o2 c hv;have d:w2.heap[wb]?=aM #[pp wb,buf,S,nm] 103:=by
  rw[c.block wb i (fun e=>by have:=(a.lt wb e.symm).1;omega)];omega
 have j:=bg d;obtain⟨l,rc,rfl⟩:=gV o2;refine cH d ?_;have k:jE wb w1 w2:=jE.W9 a c;refine⟨⟨_,J⟩,⟨_,_,.inr J,pS J j,JC ?_ zo⟩,(g.trans k).bO (.inl fun _=>.inl J)⟩;grind
def am1:(Tryz.prog.info? 5).map (fun i=>(i.zero,i.size,i.bytes))=O (O (.int .u8 0),1,1):=zk
def am2(h:sd w wb S nm out)(c:UInt8)(j:out.length+1<=1000000000) :
  Gy (pp wb) (.int .u8 c.toNat) w fun e w'=>(∃ v,e = ah v)/\sd w' wb S nm (out++[c])/\jE wb w w':=by
 obtain⟨i,k,d⟩:=aZ7.1 am1;simp only[aZ6] at d;obtain⟨l,n,o⟩:=d;unfold Gy;refine Calls.mono (am0 h) ?_;rintro e w1 ⟨rfl,p,s1,buf,f,a⟩;have s:=bg f;refine du @Gy.eq_1 f ?_;refine Sx.C3 (m:=1) (t:=98) (e:=5) zk k l n o J zd (a.alloc _) (blk_alloc_new _ _) J (fun u hu=>?_) j zd (by rw[size_alloc];omega) ?_
 .simp only[aZU,aZ2,or_false] at hu;subst hu;rfl
 intro v' w2 o2 b hv;have s2:=b.size;rw[size_alloc] at s2;have g:w2.heap[wb]?=aM #[pp wb,buf,S,nm] 103:=by
  rw[b.block wb (yH) (fun e=>by have:=(a.lt wb e.symm).1;omega)];exact yH
 have q:=bg g;obtain⟨x,rc,rfl⟩:=gV o2;refine du @Gy.eq_1 g ?_;have r:jE wb w1 w2:=((bB.refl _ _).alloc _).trans (jE.W9 (a.alloc _) b);refine⟨⟨_,J⟩,⟨_,_,.inr J,pS J q,JC ?_ zo⟩,(p.trans r).bO (.inl fun _=>.inl J)⟩;grind
def aIf(h:sd w wb S nm out)(c:UInt8)(a:out.length+1<=1000000000) :
  Calls a9A 95 #[pp wb,.int .u8 c.toNat] w fun e w'=>(∃ v,e = ah v)/\sd w' wb S nm (out++[c])/\jE wb w w':=
 amY (am2 h c a)
def am3(h:sd w wb S nm out)(c:UInt8)(a:out.length+1<=1000000000){u:FrameMode} :
  CallsD a9A 95 #[pp wb,.int .u8 c.toNat] u w fun e b w'=>b=u/\(∃ v,e = ah v)/\sd w' wb S nm (out++[c])/\jE wb w w':=
 aH8 (am2 h c a)
def am4:Tryz.prog.cellsOf 5=1:=zk
def am5{z:Nat×Nat}(d:wb<g)(c:w.heap[g]?=O (ae iB 5 z)):jE wb w (w.freeze ⟨g,0,V⟩ n):=by
 unfold World.freeze;split
 .grind [bB.refl]
 .exact⟨J,J,J,zs,fun b o a hm=>by
   simp only[Array.getElem?_modify];rw[bZ]
   .omega
   .rintro rfl;rw[c] at a;injection a with a;exact hm (.inr zg)⟩
def am6(h:sd w wb S nm out)(h0:out≠[]) :
  Calls a9A 33 #[pp wb] w fun e w'=>e = ah (aT out)/\jE wb w w':=by
 obtain⟨ad,buf,Gz,hb,ho⟩:=h;have qz:out.length≠0:=zg;obtain⟨g,cap,cur,rfl,Zv,hg,uz,CT,jI,Zw⟩:∃ g cap cur,buf = cR g out.length cap/\wb+1<=g/\w.heap[g]?=aM cur 5/\out.length<=cap/\cap<=maxLen/\cur.size=cap*1/\cur.toList.take (out.length*1)=tX out:=by
  rcases ho.2 with⟨_,hz⟩| ⟨g,cap,cur,hv,r⟩
  .exact yH
  .exact⟨g,cap,cur,hv,r⟩
 have ny:w.drew.heap[wb]?=aM #[ad,cR g out.length cap,S,nm] 103:=hb;have c1:w.drew.cell? ⟨wb,1,V⟩=O (cR g out.length cap):=by grind [World.cell?]
 have hSD:(Builtin.unsafeSliceData_ #[98] 181 #[cR g out.length cap]).run a9A w.drew = .ok (pp g) w.drew:=
  (by grind [Lib.run_unsafeSliceData_row])
 have hUS:(Builtin.unsafeString_ #[181,3] 9 #[pp g,zi out.length]).run a9A w.drew = .ok (aT out) (w.drew.freeze ⟨g,0,V⟩ out.length):=by
  refine Lib.run_unsafeString_row w.drew 181 3 9 5 underlying181 am4 g cur.size (by have jx:w.drew.heap[g]?=aM cur 5:=hg;grind [World.shape?]) out h0 zo (by grind [maxLen]) ?_;intro j x hx;have:=ho.cells (g:=g) J j (.int .u8 x.toNat) zg;exact this
 go_enter func33,ntmps33
 go_wp2
 go_region
 all_goals (go_wp2;go_ret;exact⟨J,(bB.drew (bB.refl _ _)).trans (am5 zo hg)⟩)
section
variable{p0 p1 p2 p3 p4 p5 p6 p7:Y}{w:Z}{R:Ending->Z->Prop}
def aIi:=cz w R [p0] (gc [] [] [13]) func61
def aIj:=cz w R [p0] (gc [(1,[0])] [(2000,[18]),(3001,[])] [4,9,10,17,18]) func62
def aIk:=cz w R [p0,p1] (gc [] [(3000,[8]),(5000,[15])] [5,7,8,13,14,15,24,25]) func94
def aIl:=cz w R [p0,p1] (gd [(10,[46])] [] [] [(12,[13,0,1,2,3,4,5,6,7,8,9,10,11,12])] [] [] [12,13,19,20,26,27,47]) func32
end
section
variable{p0 p1 p2 p3 p4 p5 p6 p7:Y}{w:Z}{R:Ending->Z->Prop}
def aIm:=cz w R [p0,p1,p2] (gd [] [(13001,[]),(15004,[9])] [] [(7,[6,0,1,2,3,4,5]),(16,[7,0,1,2,3,4,5,6])] [] [] [10,20,28,37,47,48,49,54,79]) func31
def aIn:=cz w R [p0,p1] (gc [(1,[1,4])] [(7000,[42]),(12008,[1])] [28,41,42,45,48]) func96
def aIo:=cy w R [p0,p1,p2] (gd [(3,[32])] [(16002,[]),(18000,[101])] [(0,9),(1,7),(5,6),(16,7)] [] [] [] [33,52,54,57,78,101,113,114]) func65
end
mutual
def dI (F:Nat->Prop) (ρ:Nat->Nat) (n:Nat) (w:Z) (v:Y):Tm->Prop
 | .atom s=>v = aj 171 (.string (bs s))
 | .int k=>v = aj 172 (.int .i64 k)
 | .var i=>i<n/\v = aj 87 (aq (O ⟨ρ i,0,V⟩))
 | .comp name args=>∃ b av vs,v = aj 175 (aq (O ⟨b,0,V⟩))/\F b/\w.heap[b]?=O (ae #[.string (bs name),av] 180 (0,0)) /\
  fK F w 89 av vs/\iE F ρ n w vs args
 termination_by structural t=>t
def iE (F:Nat->Prop) (ρ:Nat->Nat) (n:Nat) (w:Z) (vs:List Y):List Tm->Prop
 | []=>vs=[]
 | t::a=>∃ v r,vs=v::r/\dI F ρ n w v t/\iE F ρ n w r a
 termination_by structural t=>t
end
abbrev dM(ρ:Nat->Nat)(n:Nat)(w:Z)(v:Y)(t:Tm):Prop:=dI (fun _=>True) ρ n w v t
abbrev py(ρ:Nat->Nat)(n:Nat)(w:Z)(vs:List Y)(a:List Tm):Prop:=iE (fun _=>True) ρ n w vs a
def qL(F:Nat->Prop)(w w':Z):Prop:=∀ b cs t,F b->t=180\/t=89->w.heap[b]?=aM cs t->w'.heap[b]?=aM cs t
abbrev Xa(w w':Z):Prop:=qL (fun _=>True) w w'
theorem qL.dZ(h:Ext w w'):qL F w w':=fun b cs t _ _ a=>h.ext b _ a
mutual
theorem dI.mono {F F':Nat->Prop} {ρ eG:Nat->Nat} {n c:Nat} {w w':Z} (a:∀ b,F b->F' b) (d:n<=c) (e:∀ i,i<n->eG i=ρ i) (hw:qL F w w'):∀ (t:Tm) (v:Y),dI F ρ n w v t->dI F' eG c w' v t
 | .atom s,v,h=>by grind [dI]
 | .int k,v,h=>by grind [dI]
 | .var i,v,h=>by
  grind [dI]
 | .comp name args,v,h=>by
  unfold dI at h ⊢;obtain⟨b,av,vs,j,f,l,m,o⟩:=h;exact⟨b,av,vs,j,a b f,hw b _ _ f (.inl J) l,m.mono a fun b cs p q=>hw b _ _ p (.inr J) q,iE.mono a d e hw args vs o⟩
 termination_by structural t=>t
theorem iE.mono {F F':Nat->Prop} {ρ eG:Nat->Nat} {n c:Nat} {w w':Z} (a:∀ b,F b->F' b) (d:n<=c) (e:∀ i,i<n->eG i=ρ i) (hw:qL F w w'):∀ (g:List Tm) (vs:List Y),iE F ρ n w vs g->iE F' eG c w' vs g
 | [],vs,h=>by grind [iE]
 | t::g,vs,h=>by
  unfold iE at h ⊢;obtain⟨v,r,j,f,l⟩:=h;exact⟨v,r,j,dI.mono a d e hw t v f,iE.mono a d e hw g r l⟩
 termination_by structural t=>t
end
theorem dI.bH(h:dI F ρ n w v t)(hw:qL F w w'):dI F ρ n w' v t:=dI.mono zg zo zg hw t v h
theorem iE.bH{t:List Tm}{v:List Y}(h:iE F ρ n w v t)(hw:qL F w w'):iE F ρ n w' v t:=iE.mono zg zo zg hw t v h
theorem dI.toT(h:dI F ρ n w v t):dM ρ n w v t:=dI.mono zg zo zg (fun _ _ _ _ _ h=>h) t v h
theorem iE.toT{t:List Tm}{v:List Y}(h:iE F ρ n w v t):py ρ n w v t:=iE.mono zg zo zg (fun _ _ _ _ _ h=>h) t v h
def iE.snoc{F:Nat->Prop}{ρ:Nat->Nat}{n:Nat}{w:Z}{v:Y}{x:Tm}(hx:dI F ρ n w v x):∀ {xs:List Tm} {vs:List Y},iE F ρ n w vs xs->iE F ρ n w (vs++[v]) (xs++[x])
 | [],vs,h=>by
  unfold iE at h;subst h;show iE F ρ n w [v] [x];unfold iE;exact⟨v,[],J,hx,by unfold iE;rfl⟩
 | y::a,vs,h=>by
  unfold iE at h;obtain⟨u,r,rfl,b,c⟩:=h;show iE F ρ n w (u::(r++[v])) (y::(a++[x]));unfold iE;exact⟨u,r++[v],J,b,iE.snoc hx c⟩
def iE.length{F:Nat->Prop}{ρ:Nat->Nat}{n:Nat}{w:Z}:∀ {xs:List Tm} {vs:List Y},iE F ρ n w vs xs->vs.length=xs.length
 | [],vs,h=>by unfold iE at h;subst h;rfl
 | y::b,vs,h=>by
  unfold iE at h;obtain⟨u,r,rfl,c,a⟩:=h;simp [iE.length a]
theorem iE.at{F:Nat->Prop}{ρ:Nat->Nat}{n:Nat}{w:Z}:∀ {xs:List Tm} {vs:List Y} (j:Nat) (a:j<xs.length),iE F ρ n w vs xs->∃ v,vs[j]?=O v/\dI F ρ n w v xs[j]
 | x::xs,vs,0,_,h=>by
  unfold iE at h;grind
 | x::xs,vs,j+1,a,h=>by
  unfold iE at h;obtain⟨u,r,rfl,c,b⟩:=h;simpa using iE.at j zg b
def dI.iface{F:Nat->Prop}{ρ:Nat->Nat}{n:Nat}{w:Z}{v:Y}:∀ {t:Tm},dI F ρ n w v t->∃ u x,v = aj u x
 | .atom s,h=>by unfold dI at h;exact⟨_,_,h⟩
 | .int s,h=>by unfold dI at h;exact⟨_,_,h⟩
 | .var s,h=>by unfold dI at h;exact⟨_,_,h.2⟩
 | .comp s l,h=>by unfold dI at h;obtain⟨b,av,vs,h,-⟩:=h;exact⟨_,_,h⟩
structure DO(ρ:Nat->Nat)(n:Nat)(tr:Tr)(w:Z):Prop where
 inj:∀ i j,i<n->j<n->ρ i=ρ j->i=j
 var:∀ i,i<n->∃ ref,w.heap[ρ i]?=O (ae #[ref] 91)/\(match P.look i tr with | none=>ref = ai | some t=>dM ρ n w ref t)
def GA(w w':Z):Prop:=∀ (b:Nat) (cs:Array Y) (t:Nat),t=180\/t=89\/t=91->w.heap[b]?=aM cs t->w'.heap[b]?=aM cs t
theorem GA.toT(h:GA w w'):Xa w w':=fun b cs t _ ht=>h b cs t zg
theorem GA.dZ(h:Ext w w'):GA w w':=fun b cs t _ a=>h.ext b _ a
theorem DO.bH{ρ:Nat->Nat}{n:Nat}{tr:Tr}{w w':Z}(h:DO ρ n tr w)(hk:GA w w'):DO ρ n tr w':=
 ⟨h.inj,fun i a=>by
  obtain⟨ref,b,c⟩:=h.var i a;refine⟨ref,hk _ _ _ zg b,?_⟩;grind [dI.bH,GA.toT]⟩
def GB{j:Tm}(h:DO ρ n tr w)(hv:dM ρ n w v t)(hw:fG tr f t=O j) :
  Calls a9A 62 #[v] w fun e w'=>w'=w/\∃ u,e = ah u/\dM ρ n w u j:=by
 refine aIj ?_;refine⟨fun m s w1=>w1=w/\∃ t1,dM ρ n w (s 0) t1/\fG tr m t1=O j,⟨f,J,t,hv,hw⟩,?_⟩;intro m s d w1 q;refine toPr ?_;obtain⟨rfl,t1,c,k⟩:=q;by_cases r:∃ i,t1 = .var i
 .obtain⟨i,rfl⟩:=r;unfold dI at c;obtain⟨y,g⟩:=c;obtain⟨ref,g1,g2⟩:=h.var i y;cases o:P.look i tr with
  | none=>
   rw[o] at g2;have g2:ref = ai:=g2;subst g2;have ht:j = .var i:=by
    grind [fG]
   refine cH g ?_;refine⟨fun _ _=>False,?_,by rintro _ _ h;exact h.elim⟩;refine⟨fun x w'=>w'=w1/\x 18 = .bool A,?_,?_⟩
   .simp (disch:=first|assumption|omega|simp only[zS]<;>omega|decide) only[zB,simprocAttr,kJ,g1,jd]
   .rintro x w' ⟨rfl,hx⟩ d2;refine cH hx ?_;rw[ht];unfold dI;grind
  | some t2=>
   rw[o] at g2;have g2:dM ρ n w1 ref t2:=g2;obtain⟨u,x,p⟩:=g2.iface;cases m with
   | zero=>simp [fG,o] at k
   | succ m=>
   simp [fG,o] at k;subst p;refine cH g ?_;refine⟨fun _ w'=>w'=w1,?_,?_⟩
   .refine⟨fun x w'=>w'=w1/\x 18 = .bool G,?_,?_⟩
    .simp (disch:=first|assumption|omega|simp only[zS]<;>omega|decide) only[zB,simprocAttr,kJ,g1,jd]
    .rintro x w' ⟨rfl,hx⟩ d2;exact fa hx
   .rintro x w' rfl d2;refine cH @g1 ?_;grind
 .have ht:t1=j:=by
   cases m<;>cases t1<;>simp [fG] at k<;>first | exact k | exact zg
  have g:∃ u x,s 0 = aj u x/\¬ u=87:=by
   cases t1 with
   | atom a=>unfold dI at c;exact⟨_,_,c,zd⟩
   | int a=>unfold dI at c;exact⟨_,_,c,zd⟩
   | var a=>grind
   | comp a l=>unfold dI at c;obtain⟨b,av,vs,c,-⟩:=c;exact⟨_,_,c,zd⟩
  obtain⟨u,x,g,hu⟩:=g;refine du g hu ?_;refine⟨fun _ _=>False,?_,by rintro _ _ h;exact h.elim⟩;refine⟨fun x w'=>w'=w1/\x 18 = .bool A,?_,?_⟩
  .simp (disch:=first|assumption|omega|simp only[zS]<;>omega|decide) only[zB,simprocAttr,kJ,jd]
  .rintro z w' ⟨rfl,hx⟩ d2;refine cH hx ?_;grind
def gsi{cs:Array Y}{i:Nat}{v:Y}(h:i<cs.size):(cs.setIfInBounds i v)[i]?=O v:=zg
def ssz:(cs.setIfInBounds i v).size=cs.size:=zs
def sss:(cs.setIfInBounds i v).setIfInBounds i u=cs.setIfInBounds i u:=zs
abbrev MR:Ending:=.panicked [{ v:=aj 134 (.agg #[]),recovered:=false }]
abbrev kg(cs:Array Y)(so:Nat)(z:Int):Array Y:=cs.setIfInBounds (so+1) (zi z)
def am9{T:Nat}{z:Int}(a:w.heap[pb]?=aM (kg cs so z) T)(d:so+2<=cs.size)(f:0<=z/\z<=1000000000) :
  Calls a9A 61 #[pq pb so] w fun e w'=>
   e=(if z=0 then MR else ah (ak #[]))/\w'=bO w pb (ae (kg cs so (z-1)) T (0,0)):=by
 have l:=bg a;have b:(kg cs so z)[so+1]?=O (zi z):=zg;have g:(kg cs so z).size=cs.size:=ssz;refine aIi ?_;by_cases h:z=0
 .have c:z-1<0:=zo;refine dH a b @gsi (zA @ssz @sss) ?_;grind
 .have c:¬ z-1<0:=zo;refine dH a b @gsi (zA @ssz @sss) ?_;grind
def ana(name:Bs)(n:Nat)(w:Z):Calls a9A 94 #[aT name,zi n] w fun e w'=>e = ah (zi (kP name n))/\w'=w:=by
 refine aIk ?_;unfold kP;by_cases h:n=2
 .subst h;have e0:((2:Nat):Int)=2:=rfl;refine cH @e0 ?_;refine⟨fun x w'=>w'=w/\x 8 = .bool (decide (name=[43]\/name=[45])),?_,?_⟩
  .by_cases b:name=[43]
   .refine cH b ?_;grind
   .refine cH b ?_;grind
  .rintro x w' ⟨rfl,hx⟩ d;rw[hx];by_cases b:name=[43]\/name=[45]
   .rw[FL _ _ b];grind
   .rw[FM _ _ b];refine⟨fun x c=>c=w'/\x 15 = .bool (decide (name=[42]\/name=[47,47]\/name=[109,111,100])),?_,?_⟩
    .by_cases a:name=[42]
     .refine cH a ?_;grind
     .by_cases f:name=[47,47]
      .refine du a f ?_;grind
      .refine du a f ?_;grind
    .rintro x c ⟨rfl,hx⟩ d;rw[hx];by_cases a:name=[42]\/name=[47,47]\/name=[109,111,100]
     .rw[FL _ _ a];grind
     .rw[FM _ _ a];grind
 .have g:¬ (n:Int)=2:=zo;refine bE ?_;grind
def lH(w:Z):Prop:=Lib.TabIs a9A w "internal/strconv.uint64pow10" .u64 Lib.pow10Tab
def adn:Tryz.prog.globalNamed "internal/strconv.uint64pow10" = O 4:=zk
theorem lH.bH(h:lH w)(hw:∀ o,w.heap[4]?=O o->w'.heap[4]?=O o):lH w':=by
 unfold lH Lib.TabIs World.var? at h ⊢;rw[adn] at h ⊢;simp only[Option.bind_some] at h ⊢;cases a:w.heap[4]? with
 | none=>rw[a] at h;cases h
 | some o=>rw[hw o a];rw[a] at h;exact h
theorem lH.ext{w w':Z}(h:lH w)(a:Ext w w'):lH w':=(by grind [bH,bB.ext])
def anb:∀ (f n:Nat),n<f->rS f n=a4C n
 | 0,n,h=>zo
 | f+1,n,h=>by
  rw[rS,a4C];split
  .rfl
  .rw[anb f (n / 10) zo]
theorem Kn(n:Nat):ff n=a4C n:=anb _ _ zo
theorem ado(n:Int):kO n=Lib.itoa n:=by
 grind [kO,Lib.itoa,Kn]
def anc{os:Array Obj}(h:w'=Go.Sort.grow (w.drewN k) os):Ext w w':=by
 subst h;refine⟨J,J,J,?_,fun b o a _=>?_⟩
 .simp [Go.Sort.grow,World.drewN]
 .have:=bg a;show(w.heap++os)[b]?=O o;exact yH
def ane(n:Int)(a:-9223372036854775808<=n)(b:n<=9223372036854775807)(w:Z)(ht:lH w) :
  Calls a9A 63 #[zi n,zi 10] w fun e w'=>e = ah (aT (kO n))/\Ext w w':=by
 refine(Tryz.strconv_FormatInt_10 n a b w ht).mono ?_;rintro e w' ⟨rfl,k,os,h⟩;rw[ado];exact⟨J,anc h⟩
def Ko(n:Int)(a:-9223372036854775808<=n)(b:n<=9223372036854775807)(w:Z)(ht:lH w) :
  Calls a9A 64 #[zi n] w fun e w'=>e = ah (aT (kO n))/\Ext w w':=by
 refine(Tryz.strconv_Itoa n a b w ht).mono ?_;rintro e w' ⟨rfl,k,os,h⟩;rw[ado];exact⟨J,anc h⟩
def anf(n:Int)(a:-9223372036854775808<=n)(b:n<=9223372036854775807):(kO n).length<=21:=by
 grind [ado,Lib.itoa_length_le]
def Al(ρ:Nat->Nat)(seen:List Nat)(k:Nat):List (Nat×Y):=match seen with
 | []=>[]
 | i::r=>(ρ i,.int .i64 ((k+1:Nat)))::Al ρ r (k+1)
def NmA(ρ:Nat->Nat)(w:Z)(wb:Nat)(nm:Y)(seen:List Nat):Prop:=
 (seen=[]/\nm = .map V)\/∃ r c es,nm = .map (O r)/\wb<r/\w.heap[r]?=O (.map es c)/\Er (Al ρ seen 0) es.toList
structure lI(ρ:Nat->Nat)(n:Nat)(tr:Tr)(wb sb so T:Nat)(cs:Array Y)(nm:Y)(w:Z)(s:Ws):Prop where
 st:DO ρ n tr w
 bu:sd w wb (pq sb so) nm s.out
 na:NmA ρ w wb nm s.seen
 fu:w.heap[sb]?=aM (kg cs so s.fuel) T
 Xc:lH w
 sn:∀ i∈s.seen,i<n
def GC(ρ:Nat->Nat)(n:Nat)(tr:Tr)(wb sb so T:Nat)(cs:Array Y)(w:Z)(s:Ws):Prop:=∃ nm,lI ρ n tr wb sb so T cs nm w s
structure xD(tr:Tr)(wb sb so T:Nat)(cs:Array Y):Prop where
 tok:mR tr
 sz:so+2<=cs.size
 ne:sb≠wb
 g1:4<wb
 g2:sb≠4
 T1:T≠5
 T2:T≠180/\T≠89/\T≠91
def MW(wb sb b:Nat)(o:Obj):Prop:=b=wb\/b=sb\/(wb<b/\((∃ cs z,o = ae cs 5 z)\/∃ es c,o = .map es c))
abbrev mD(wb sb:Nat)(w w':Z):Prop:=bB (MW wb sb) w w'
theorem jE.toW(h:jE wb w w')(sb:Nat):mD wb sb w w':=h.mono fun b o _ hm=>by
 rcases hm with h | ⟨h,a⟩
 .exact .inl h
 .exact .inr zg
section
variable{ρ:Nat->Nat}{n:Nat}{tr:Tr}{wb sb so T:Nat}{cs:Array Y}{nm:Y}{w w':Z}{s:Ws}
theorem lI.kv(h:lI ρ n tr wb sb so T cs nm w s)(hx:xD tr wb sb so T cs)(d:mD wb sb w w'):GA w w':=fun b c t ht a=>by
 refine d.block b _ a ?_;obtain⟨e,buf,-,hw,-⟩:=h.bu;rintro (rfl | rfl | ⟨_,⟨_,_,h⟩| ⟨_,_,h⟩⟩)
 .grind
 .rw[h.fu] at a;cases a;rcases ht with ht | ht | ht
  .exact hx.T2.1 ht
  .exact hx.T2.2.1 ht
  .exact hx.T2.2.2 ht
 .grind
 grind
def lI.Xe(h:lI ρ n tr wb sb so T cs nm w s)(hx:xD tr wb sb so T cs)(a:mD wb sb w w'):lH w':=h.Xc.bH fun o b=>by
 refine a.block _ _ b ?_;have:=hx.g1;rintro (h | h | ⟨h,_⟩)
 .omega
 .exact hx.g2 h.symm
 omega
theorem lI.wr(h:lI ρ n tr wb sb so T cs nm w s)(hx:xD tr wb sb so T cs){x:Bs}(b:sd w' wb (pq sb so) nm (s.out++x))(a:jE wb w w'):lI ρ n tr wb sb so T cs nm w' (s.add x):=by
 refine⟨h.st.bH (by grind [kv,jE.toW]),b,?_,?_,h.Xe hx (a.toW sb),h.sn⟩
 .rcases h.na with h | ⟨r,c,es,d,e,f,g⟩
  .exact .inl h
  .exact .inr ⟨r,c,es,d,e,a.block _ _ f (by
    rintro (h | ⟨_,_,_,h⟩)<;>grind),g⟩
 .refine a.block _ _ h.fu ?_;rintro (h | ⟨_,_,_,h⟩)
  .exact hx.ne h
  .injection h with _ h _;exact hx.T1 h
def GD(h:lI ρ n tr wb sb so T cs nm w s)(hx:xD tr wb sb so T cs)(x:Bs)(a:s.out.length+x.length<=1000000000) :
  Calls a9A 44 #[pp wb,aT x] w fun e w'=>(∃ v,e = ah v)/\lI ρ n tr wb sb so T cs nm w' (s.add x)/\mD wb sb w w':=by
 refine(aIe h.bu x a).mono ?_;grind [lI.wr,jE.toW]
def MT(h:lI ρ n tr wb sb so T cs nm w s)(hx:xD tr wb sb so T cs)(c:UInt8)(a:s.out.length+1<=1000000000){z:Int}(b:z=c.toNat) :
  Calls a9A 95 #[pp wb,.int .u8 z] w fun e w'=>(∃ v,e = ah v)/\lI ρ n tr wb sb so T cs nm w' (s.add [c])/\mD wb sb w w':=by
 subst b;refine(aIf h.bu c a).mono ?_;grind [lI.wr,jE.toW]
theorem lI.ext(h:lI ρ n tr wb sb so T cs nm w s)(a:Ext w w'):lI ρ n tr wb sb so T cs nm w' s:=by
 refine⟨h.st.bH (GA.dZ a),?_,?_,a.ext _ _ h.fu,h.Xc.ext a,h.sn⟩
 .obtain⟨f,buf,b,d,e⟩:=h.bu;exact⟨f,buf,b,a.ext _ _ d,jJ a.ext e⟩
 .rcases h.na with h | ⟨r,c,es,b,d,e,g⟩
  .exact .inl h
  .exact .inr ⟨r,c,es,b,d,a.ext _ _ e,g⟩
theorem sd.other{c:Array Y}(h:sd w wb S nm out)(j:sb≠wb)(k:w.heap[sb]?=aM c T)(l:T≠5)(o:Obj):sd (bO w sb o) wb S nm out:=by
 obtain⟨b,buf,d,m,a⟩:=h;refine⟨b,buf,d,yH,a.1,?_⟩;rcases a.2 with a | ⟨g,cap,cur,e,f,n,i⟩
 .exact yH
 .refine .inr ⟨g,cap,cur,e,f,?_,i⟩;exact yH
def lI.fuel(h:lI ρ n tr wb sb so T cs nm w s)(hx:xD tr wb sb so T cs)(f:Nat):lI ρ n tr wb sb so T cs nm (bO w sb (ae (kg cs so f) T (0,0))) { s with fuel:=f }:=by
 have b:mD wb sb w (bO w sb (ae (kg cs so f) T (0,0))):=(bB.refl _ _).bO (.inl fun _=>.inr (.inl J));refine⟨h.st.bH (h.kv hx b),?_,?_,pS J (bg h.fu),h.Xe hx b,h.sn⟩
 .exact h.bu.other hx.ne h.fu hx.T1 _
 .rcases h.na with a | ⟨r,c,es,a,d,e,g⟩
  .exact .inl a
  .refine .inr ⟨r,c,es,a,d,?_,g⟩;rw[iY]
   .omega
   .rintro rfl;rw[h.fu] at e;grind
def Ba(ρ:Nat->Nat)(n:Nat)(tr:Tr)(wb sb so T:Nat)(cs:Array Y)(w:Z)(B:Nat)(r:Option Ws)(e:Ending)(w':Z):Prop:=
 mD wb sb w w'/\match r with
 | some s'=>e = ah (ak #[])/\GC ρ n tr wb sb so T cs w' s'
 | none=>e=MR/\w'.heap[sb]?=O (ae (kg cs so (-1)) T (0,0))/\∃ nm out,sd w' wb (aq (O ⟨sb,so,V⟩)) nm out/\out.length<=B
theorem anh(ρ:Nat->Nat):∀ (l:List Nat) (k:Nat),(Al ρ l k).length=l.length
 | [],_=>rfl
 | i::r,k=>by simp [Al,anh ρ r]
def ani:∀ {es:List MapEntry} {l:List (Nat×Y)},Er l es->es.length=l.length
 | [],l,h=>by have h:l=[]:=h;grind
 | e::r,l,h=>by
  obtain⟨b,v,l',rfl,c,d,a⟩:=h;simp [ani a]
theorem anj:∀ {es:List MapEntry} {l:List (Nat×Y)} {e:MapEntry} {b:Nat} {v:Y},Er l es->e.key=pp b->e.val=v->Er (l++[(b,v)]) (es++[e])
 | [],l,e,b,v,h,hk,hv=>by
  have h:l=[]:=h;subst h;exact⟨b,v,[],J,hk,hv,J⟩
 | e'::r,l,e,b,v,h,hk,hv=>by
  obtain⟨a,v',l',rfl,c,d,f⟩:=h;exact⟨a,v',l'++[(b,v)],J,c,d,anj f hk hv⟩
theorem ank(ρ:Nat->Nat)(i:Nat):∀ (l:List Nat) (k:Nat),Al ρ (l++[i]) k=Al ρ l k++[(ρ i,zi ((k+l.length+1:Nat)))]
 | [],k=>rfl
 | j::r,k=>by
  show(_,_)::Al ρ (r++[i]) (k+1)=_;rw[ank ρ i r (k+1)];grind [Al,List.length_cons]
def adq{ρ:Nat->Nat}:∀ {l:List Nat} {k:Nat} {b:Nat} {v:Y},(b,v)∈Al ρ l k->∃ i∈l,b=ρ i
 | [],_,_,_,h=>by cases h
 | j::r,k,b,v,h=>by
  simp only[Al,aZU,aZ6] at h;rcases h with⟨rfl,-⟩| h
  .grind
  .obtain⟨i,a,c⟩:=adq h;grind
def adr{ρ:Nat->Nat}{n i:Nat}(inj:∀ a b,a<n->b<n->ρ a=ρ b->a=b)(c:i<n):∀ (l:List Nat) (k j:Nat),(∀ a∈l,a<n) ->
  Hn (ρ i) (Al ρ l k) j=(l.idxOf? i).map fun m=>(j+m,zi ((k+m+1:Nat)))
 | [],_,_,_=>rfl
 | a::r,k,j,h=>by
  have o:=h a (aZV ..);unfold Al Hn;rw[List.idxOf?_cons];by_cases e:a=i
  .grind
  .have d:¬ ρ i=ρ a:=zg;rw[bZ d,adr inj c r (k+1) (j+1) fun a f=>h a (a0A _ f)];have g:(a == i)=false:=zg;rw[g];cases r.idxOf? i with
   | none=>rfl
   | some m=>
    grind
end
def aIq{P:Program}{t T:TypeId}{k e:TypeId}(ht:AG P t=O (k,e)){r:Nat}(a:w.heap[r]?=O (.map es c)) :
  RD P (Builtin.len_ #[t] T #[.map (O r)]) w K X=K (zi es.size):=by
 refine gU ?_;simp [Builtin.len_,run_underlying (FR ht),FT a,goInt]
section
variable{p0 p1 p2 p3 p4 p5 p6 p7:Y}{w:Z}{R:Ending->Z->Prop}
def aIr:=cz w R [p0] (gc [] [] []) func214
def aIs:=cz w R [p0,p1] (gc [(1,[13])] [] [14]) func208
def aIt:=cz w R [p0,p1,p2] (gc [] [] []) func217
def aIu:=cz w R [p0,p1,p2] (gc [(9,[29])] [] [6,16,20,22,30,36]) func221
def aIv:=cz w R [p0,p1,p2] (gc [] [] [6,10]) func216
def aIw:=cz w R [p0,p1,p2] (gd [(16,[94])] [(11000,[63]),(12001,[]),(13000,[88]),(14001,[])] [(13,22),(18,15)] [] [] [] [6,8,10,12,14,26,27,36,37,42,43,47,52,57,58,61,62,63,66,87,88,95,112,113]) func210
def aIx:=cz w R [p0,p1,p2] (gd [(10,[64])] [(5000,[33]),(6001,[]),(7000,[58]),(8001,[])] [(7,22),(12,15)] [] [] [] [6,8,10,22,27,28,31,32,33,36,57,58,65,82,83]) func218
def aIy:=cz w R [p0,p1,p2] (gc [] [(9001,[]),(13000,[43]),(14001,[7])] [9,10,14,15,19,20,25,28,39,41,42,43]) func222
def aIz:=cz w R [p0,p1] (gd [] [] [(11,9)] [(12,[21,0,1,2,3,4,5,6,7,8,9,10,12,13,14,15,16,17,18,11,19,20,21])] [] [] [13,17,21,33]) func219
def aIA:=cz w R [p0,p1] (gc [] [] [4,7,10,12,18,19,21,27,28,30]) func220
def aIB:=cz w R [p0,p1,p2] (gd [] [(18003,[64]),(21020,[])] [(5,7),(8,7),(12,7)] [(14,[11,0,1,2,3,4,5,6,7,8,9,10,11]),(22,[10,0,1,2,3,5,6,7,8,4,9,10,11])] [] [] [6,8,12,13,14,15,23,24,25,35,39,40,41,42,50,51,52,63,64,65,66,67,68,74,75,76,88,89,92,93,94,97,98,99,102,103,104,107,110]) func213
end
def kT(T:Nat):Prop:=T=91\/T=87\/T=130\/T=356\/T=116\/T=342\/T=20
def EM(D:Nat->Prop)(b:Nat)(o:Obj):Prop:=D b/\∃ cs T z,o = ae cs T z/\kT T
abbrev dc(D:Nat->Prop)(w w':Z):Prop:=bB (EM D) w w'
theorem dc.bH(h:dc D w w'){T:Nat}(c:¬ kT T)(a:w.heap[b]?=aM cs T):w'.heap[b]?=aM cs T:=by
 refine h.block _ _ a ?_;rintro ⟨_,cs',d,z,e,f⟩;grind
theorem dc.toT(h:dc D w w'):Xa w w':=fun b cs t _ ht a=>h.bH (by rcases ht with rfl | rfl<;>(unfold kT;decide)) a
theorem dc.dZ(h:Ext w w'):dc D w w':=yF
def qM(ρ:Nat->Nat)(tr:Tr):List Y:=tr.reverse.map fun p=>pp (ρ p.1)
def aIC(ρ:Nat->Nat)(i:Nat)(t:Tm)(tr:Tr):qM ρ ((i,t)::tr)=qM ρ tr++[pp (ρ i)]:=by simp [qM]
@[simp] theorem aID(ρ:Nat->Nat)(tr:Tr):(qM ρ tr).length=tr.length:=by simp [qM]
structure uZ(so T:Nat)(cs:Array Y):Prop where
 sz:so+2<=cs.size
 ty:T=130\/T=116
structure gQ(D:Nat->Prop)(ρ:Nat->Nat)(n sb so T:Nat)(cs:Array Y)(tv:Y)(w:Z)(s:Sr):Prop where
 sv:DO ρ n s.tr w
 dv:∀ i,i<n->D (ρ i)
 cell:w.heap[sb]?=aM (kg (cs.setIfInBounds so tv) so s.fuel) T
 row:w.ownsRow 0 87 1 tv s.tr.length (qM ρ s.tr)
 dr:∀ g,tv.ownBlock=O g->D g
 ds:D sb
 nd:(s.tr.map (·.1)).Nodup
 lt:∀ p∈s.tr,p.1<n
 ok:mR s.tr
section
variable{D:Nat->Prop}{ρ:Nat->Nat}{n sb so T:Nat}{cs:Array Y}{tv:Y}{w w':Z}{s:Sr}
theorem gQ.ext(h:gQ D ρ n sb so T cs tv w s)(a:Ext w w'):gQ D ρ n sb so T cs tv w' s:=
 ⟨h.sv.bH (GA.dZ a),h.dv,a.ext _ _ h.cell,jJ a.ext h.row,h.dr,h.ds,h.nd,h.lt,h.ok⟩
theorem gQ.Xf(h:gQ D ρ n sb so T cs tv w s){c:Array Y}{U:Nat}(b:w.heap[g]?=aM c U)(d:U≠87):tv.ownBlock≠O g:=by
 intro a;rcases h.row.2 with⟨rfl,-⟩| ⟨e,cap,cur,rfl,-,f,-⟩
 .cases a
 grind [Value.ownBlock,aZG]
def uZ.mu(a:uZ so T cs):kT T:=by grind [kT,ty]
theorem Iz{size:Nat}{o:Obj}(h:w.ownsRow base e size v m xs)(a:v.ownBlock≠O g):(bO w g o).ownsRow base e size v m xs:=by
 refine⟨h.1,?_⟩;rcases h.2 with f | ⟨b,cap,cur,rfl,c,i,d⟩
 .exact yH
 .exact .inr ⟨b,cap,cur,J,c,by rw[iY (fun e=>a (by subst e;rfl))];omega,d⟩
def gQ.cells(h:gQ D ρ n sb so T cs tv w s)(d:uZ so T cs){cs':Array Y}{f:Nat} :
  gQ D ρ n sb so T cs' tv (bO w sb (ae (kg (cs'.setIfInBounds so tv) so f) T (0,0))) { s with fuel:=f }/\dc D w (bO w sb (ae (kg (cs'.setIfInBounds so tv) so f) T (0,0))):=by
 have l:=bg h.cell;have g:T≠87/\T≠91/\T≠180/\T≠89:=by rcases d.ty with h | h<;>subst h<;>decide
 have i:dc D w (bO w sb (ae (kg (cs'.setIfInBounds so tv) so f) T (0,0))):=⟨J,J,J,yH,fun b o a hm=>by
  by_cases e:b=sb
  .subst e;rw[h.cell] at a;exact absurd ⟨h.ds,_,_,_,(Option.some.inj a).symm,d.mu⟩ hm
  exact yH⟩
 have j:GA w (bO w sb (ae (kg (cs'.setIfInBounds so tv) so f) T (0,0))):=fun b c t ht a=>by
  rw[iY]
  .omega
  .rintro rfl;rw[h.cell] at a;grind
 exact⟨⟨h.sv.bH j,h.dv,yH,Iz h.row (h.Xf h.cell g.1),h.dr,h.ds,h.nd,h.lt,h.ok⟩,i⟩
theorem gQ.aIE(h:gQ D ρ n sb so T cs tv w s)(a:uZ so T cs)(b:s.fuel≠0) :
  gQ D ρ n sb so T cs tv (bO w sb (ae (kg (cs.setIfInBounds so tv) so ((s.fuel:Int)-1)) T (0,0))) s.dec/\dc D w (bO w sb (ae (kg (cs.setIfInBounds so tv) so ((s.fuel:Int)-1)) T (0,0))):=by
 have:=h.cells a (cs':=cs) (f:=s.fuel-1);rw[show((s.fuel-1:Nat):Int)=(s.fuel:Int)-1 by omega] at this;exact this
def gR:jB->Ending
 | .fault k=>.panicked [{ v:=aj 27 (.int .i64 k),recovered:=false }]
 | .Du=>MR
def EPost(D:Nat->Prop)(w:Z){α:Type}(R:α->Ending->Z->Prop)(r:Except jB α)(e:Ending)(w':Z):Prop:=
 dc D w w'/\match r with
  | .ok a=>R a e w'
  | .error t=>e=gR t
abbrev wh(D:Nat->Prop)(ρ:Nat->Nat)(n sb so T:Nat)(cs:Array Y)(p:Bool×Sr)(e:Ending)(w':Z):Prop:=
 e = ah (.bool p.1)/\∃ tv,gQ D ρ n sb so T cs tv w' p.2
theorem EPost.of{α:Type}{R:α->Ending->Z->Prop}{r:Except jB α}{e:Ending}(h:EPost D w1 R r e w')(a:dc D w w1):EPost D w R r e w':=⟨a.trans h.1,h.2⟩
def EPost.tail{α:Type}{R:α->Ending->Z->Prop}(b:∀ {a e w},R a e w->∃ v,e = ah v){r:Except jB α}{e:Ending}(h:EPost D w R r e w') :
  ends (fun x w'=>EPost D w R r (ah x) w') (PC (EPost D w R r)) e w':=by
 cases e with
 | returned v=>exact h
 | panicked c=>exact h
 | outgrown=>
  obtain⟨-,h⟩:=h;cases r with
  | ok a=>obtain⟨v,h⟩:=b h;cases h
  | error t=>cases t<;>cases h
def EPost.SW{r:Except jB (Bool×Sr)}{e:Ending}(h:EPost D w (wh D ρ n sb so T cs) r e w') :
 ends (fun x w'=>EPost D w (wh D ρ n sb so T cs) r (ah x) w') (PC (EPost D w (wh D ρ n sb so T cs) r)) e w':=h.tail zg
def EPost.aIF{r:Except jB (Bool×Sr)}{e:Ending}(h:EPost D w (wh D ρ n sb so T cs) r e w') :
  ends (fun x w'=>EPost D w (wh D ρ n sb so T cs) r (ah x) w') (Lv (EPost D w (wh D ρ n sb so T cs) r)) e w':=by
 cases e with
 | returned v=>exact h
 | panicked c=>exact fun _=>h
 | outgrown=>
  obtain⟨-,h⟩:=h;cases r with
  | ok a=>obtain⟨h,-⟩:=h;cases h
  | error t=>cases t<;>cases h
def MU(h:gQ D ρ n sb so T cs tv w s)(a:uZ so T cs)(f:s.fuel<=1000000000) :
  Calls a9A 61 #[pq sb so] w fun e w'=>dc D w w'/\(if s.fuel=0 then e=MR else e = ah (ak #[])/\gQ D ρ n sb so T cs tv w' s.dec):=by
 refine(am9 h.cell (by rw[Array.size_setIfInBounds];exact a.sz) zg).mono ?_;rintro e w1 ⟨he,rfl⟩;by_cases c:s.fuel=0
 .rw[zip zo] at he;rw[zip c];refine⟨?_,he⟩;exact⟨J,J,J,yH,fun b o d hm=>by
   by_cases e:b=sb
   .subst e;rw[h.cell] at d;exact absurd ⟨h.ds,_,_,_,(Option.some.inj d).symm,a.mu⟩ hm
   .rw[iY e];omega⟩
 .rw[bZ zo] at he;rw[bZ c];grind [gQ.aIE]
end
def aIG{P:Program}{t bytes:Nat}(ht:P.underlying t=O (.slice e))(c:(P.info? e).map (fun i=>(i.zero,i.size,i.bytes))=O (O z,1,bytes))(f:z.cells.size=1)(g:bytes<=1000)
 (j:w.ownsRow base e 1 v n xs) {a:Y} (l:w.heap[b]?=aM #[a] e) (s:a.oneCell'=A)
  (x:n<=900000000) (o:base<=w.heap.size) {K:Y->Z->Prop}
  (h:∀ v' w',w'.ownsRow base e 1 v' (n+1) (xs++[a])->w.grownBy w' v.ownBlock->(v'.ownBlock=v.ownBlock\/∀ k,v'.ownBlock=O k->w.heap.size<=k)->K v' w') :
  WR P (Builtin.append_ #[t,t] pb #[v,cR b 1 m]) w K X:=by
 obtain⟨i,c,d⟩:=aZ7.1 c;simp only[aZ6] at d;obtain⟨p,q,r⟩:=d;refine Sx.C3 (m:=1) (t:=t) (e:=e) ht c p q r f zo j l J (fun u hu=>?_) zo g o h;grind
def SX(h:w.ownsRow base e 1 v n xs){t:Nat}(ht:t<n):∃ g c u,v = cR g n c/\w.heap[g]?=aM u e/\u[t]?=xs[t]?:=by
 rcases h.2 with⟨-,a⟩| ⟨g,cap,cur,rfl,b,d,f,i,j,k⟩<;>grind
theorem aIH(h:¬ cap=0):sliced (O ⟨b,0,V⟩) 0 pb cap n = cR b pb cap:=by
 grind [sliced,Addr.add]
