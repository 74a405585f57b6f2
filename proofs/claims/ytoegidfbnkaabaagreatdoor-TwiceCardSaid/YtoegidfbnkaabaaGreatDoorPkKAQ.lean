/- A part of one proof (PureC2, PureRd, PureLv, PureAe, PureTo, PureKc, PureKe, ShB1, PureD, PW1, ShP1, ShP2, PW2, PW3, PW4, ShX1, KS1, GBase3). -/
import Derived.Test.YtoegidfbnkaabaaGreatDoorPkKAP
import Derived.Shelf.Strings.BuilderF
import Derived.Shelf.Strconv.Itoa4
import Derived.Lib.ItoaLen
set_option linter.all false
set_option maxRecDepth 100000
set_option maxHeartbeats 8000000
open Option renaming some → O, none → V
open Go renaming Value → Y, World → Z
open Bool renaming true → A, false → ae
open Go.Obj renaming cells → ah
open Go.Ending renaming returned → ai
open Go.Value renaming nilIface → aj, iface → ak, tuple → aq, pointer → au
open Option.some renaming injEq → a0z
open Nat renaming le_trans → a0E
open List renaming mem_cons → a0N, mem_cons_self → a0O, mem_append → a0P, not_mem_nil → a0V, range → a09, append_assoc → a1b, mem_cons_of_mem → a1u, mem_of_getLast? → a1S, flatten_cons → a2G
open Prod.mk renaming injEq → a0X
open Option renaming map_eq_some_iff → a02
open Go.Result renaming andThen → a1r
open Go.Oper renaming upon_value → a2X
open Go.Lib renaming decDigits → a5y
open Go.Proofs.Tryz renaming prog → baw
open Go.Proofs.Tryz
namespace Go.Proofs.YtoegidfbnkaabaaGreatDoor
open P
variable{D F:Nat->Prop}{K:Y->Prop}{S buf nm tv u v vv z:Y}{X:Y->Z->Prop}{b base c cap e f g i k k' m n nv pb so:Nat}{cs iK:Array Y}{es:Array MapEntry}{out:Bs}{t:Tm}{tr:Tr}{w w' w1 w2:Z}{xs:List Y}{ρ:Nat->Nat}
namespace P
section
theorem Xu(h:n<10):(UInt8.ofNat (48+n)).toNat=48+n:=by
 grind [UInt8.toNat_ofNat']
def PH:∀ (f n:Nat),∀ c∈Bi f n,digit c=A
 | 0,n,c,h=>by cases h
 | f+1,n,c,h=>by
  rw[Bi] at h;split at h
  .rename_i a;simp only[a0N,a0V,or_false] at h;subst h;simp only[digit,decide_eq_true_eq,Xu a];omega
  .rw[a0P] at h;rcases h with h | h
   .exact PH f _ c h
   .simp only[a0N,a0V,or_false] at h;subst h;have:=Nat.mod_lt n (show 10 > 0 by omega);simp only[digit,decide_eq_true_eq,Xu this];omega
theorem adO:∀ (f n:Nat),n<f->num (Bi f n)=n
 | 0,n,h=>zo
 | f+1,n,h=>by
  rw[Bi];split
  .grind [num,Xu]
  .have hm:=Nat.mod_lt n (show 10 > 0 by omega);rw[ait,adO f (n / 10) zo,Xu hm];omega
def adP:∀ (f n:Nat),n<f->∃ c r,Bi f n=c::r/\(c≠48\/r=[])
 | 0,n,h=>zo
 | f+1,n,h=>by
  rw[Bi];split
  .grind
  .rename_i b;obtain⟨c,r,d,a⟩:=adP f (n / 10) zo;refine⟨c,r++[UInt8.ofNat (48+n % 10)],zg,.inl fun e=>?_⟩;rcases a with a | a
   .grind
   .subst e a;grind [adO,num]
theorem Xv(n:Nat):num (gw n)=n:=adO _ _ zo
theorem aIS{a:Nat}(h:gw a=gw b):a=b:=by
 grind [Xv]
def names(n:Nat):List Bs:=(a09 n).map fun i=>95::gw (i+1)
mutual
def anK (S:List Nat):Tm->Tm
 | .atom s=>.atom s
 | .int n=>.int n
 | .var i=>.var (S.idxOf i)
 | .comp name args=>.comp name (anL S args)
 termination_by structural t=>t
def anL (S:List Nat):List Tm->List Tm
 | []=>[]
 | t::r=>anK S t::anL S r
 termination_by structural t=>t
end
def E4{α:Type}(r:cg α):Prop:=∃ a,r = .err 4 a
section
variable(S:List Nat)
def C1(I:List Item)(s0 s1:List Nat)(t:Tm):Prop:=∀ (T:List Tok) (k d f:Nat) (r:cg Ex),At T k I->eD T (k+I.length) [40]=ae->jl T f 1 k (names s0.length) d=O r ->
 E4 r\/∃ x g,oT T g 1 x (k+I.length) (names s1.length) d=O r/\made (a09 S.length) x=anK S t
end
variable{S:List Nat}{I:List Item}{s0 s1 s2:List Nat}{t:Tm}{T:List Tok}
end
def GP(c:UInt8)(w:Bs):Prop:=∀ x∈w,x≠c
theorem Xw{c:UInt8}:∀ {a:Bs},GP c a->gS c a=[a]
 | [],_=>rfl
 | x::a,h=>by
  rw[adG,bO (h x a0O),Xw fun y b=>h y (a1u _ b)]
def anM:∀ {l:List Bs} {f:Bs},GP 32 f->(∀ w∈l,GP 32 w)->gS 32 (f++(l.map fun w=>32::w).flatten)=f::l
 | [],f,a,_=>by simp_all [List.map_nil,List.flatten_nil,List.append_nil,Xw]
 | w::l,f,a,b=>by
  rw[List.map_cons,a2G,List.cons_append,Td,Xw a,anM (b w a0O) zg];rfl
def PI(w:Bs):Prop:=GP 32 w/\GP 10 w
def anN{c:UInt8}(a:c≠32):∀ {l:List Bs},(∀ w∈l,GP c w)->GP c (l.map fun w=>(32:UInt8)::w).flatten
 | [],_=>fun x hx=>zg
 | w::l,h=>fun x hx=>by
  rw[List.map_cons,a2G] at hx;rcases a0P.1 hx with hx | hx
  .rcases a0N.1 hx with rfl | hx
   .grind
   .exact h w a0O x hx
  .exact anN a zg x hx
def aIU{f:Bs}{l:List Bs}{r:Bs}{k:Nat}{p:Pv}(c:PI f)(d:∀ w∈l,PI w):pk (gS 10 (mS f l++r)) k p=match oN (f::l) p with
  | none=>.error k
  | some p=>pk (gS 10 r) (k+1) p:=by
 have h:GP 10 (f++(l.map fun w=>(32:UInt8)::w).flatten):=fun x hx=>by
  rcases a0P.1 hx with hx | hx
  .exact c.2 x hx
  .exact anN zg (fun w hw=>(d w hw).2) x hx
 have e:gS 10 (mS f l++r)=(f++(l.map fun w=>(32:UInt8)::w).flatten)::gS 10 r:=by
  grind [mS,a1b,List.singleton_append,Td,Xw]
 rw[e];have i:=(Tc 10 r).2;cases hr:gS 10 r with
 | nil=>grind
 | cons a b=>
  have g:gS 32 (f++(l.map fun w=>(32:UInt8)::w).flatten)=f::l:=anM c.1 fun w hw=>(d w hw).1;rw[show pk ((f++(l.map fun w=>(32:UInt8)::w).flatten)::a::b) k p=(match oN (gS 32 (f++(l.map fun w=>(32:UInt8)::w).flatten)) p with
   | none=>.error k
   | some p=>pk (a::b) (k+1) p) from J,g]
structure InR(n:Nat)(i:In):Prop where
 wd:PI i.word
 ws:∀ w∈uC i ((mT i.word).getD []) i.s,PI w
 rd:vE n (i.word::uC i ((mT i.word).getD []) i.s)=O i
theorem aIW(l:List Co)(c:Co)(f:Co->Co):GI (l++[c]) f=l++[f c]:=by
 simp_all [GI,List.reverse_append]
theorem anO(l:List Pd)(c:Pd)(f:Pd->Pd):Kx (l++[c]) f=l++[f c]:=by
 simp_all [Kx,List.reverse_append]
def aIX{z:Int}(h:-9223372036854775808<=z/\z<=9223372036854775807):DX (kX z)=O z:=by
 have key:∀ a:Int,a=z->(if kX a=kX z/\-9223372036854775808<=a/\a<=9223372036854775807 then O a else V)=O z:=by
  grind
 unfold DX;simp only;refine key _ ?_;by_cases f:z<0
 .have e:kX z=45::gw z.natAbs:=by simp_all [kX,zip]
  grind [Xv]
 .have e:kX z=gw z.natAbs:=by simp_all [kX,bO]
  rw[e];obtain⟨c,r,d,-⟩:=adP (z.natAbs+1) z.natAbs zo;have g:=PH (z.natAbs+1) z.natAbs c zg;have b:=Xv z.natAbs;unfold gw at b ⊢;rw[d] at b ⊢;split
  .simp_all [digit]
  omega
theorem KD(n:Nat):gw n=kX (n:Int):=by simp_all [kX,bO]
structure PdR(p:Pd):Prop where
 wd:PI p.name
 name:pS p.name=O p.name
 ar:p.arity<64
 cls:∀ c∈p.clauses,c.slots<65/\∀ i∈c.ins,InR c.slots i
def wdN(n:Nat):PI (gw n):=⟨fun x hx e=>by
 have:=PH (n+1) n x hx;simp_all [digit],fun x hx e=>by
 have:=PH (n+1) n x hx;simp_all [digit]⟩
def Pv.cur(p:Pv):Option Co:=match p.ask with
 | some (c,_)=>O c
 | none=>if p.open_ then oN.PD p.preds else V
def Pv.add(p:Pv)(i:In):Pv:=match p.ask with
 | some (c,n)=>{ p with ask:=O ({ c with ins:=c.ins++[i] },n) }
 | none=>{ p with preds:=Kx p.preds fun q=>{ q with clauses:=GI q.clauses fun c=>{ c with ins:=c.ins++[i] } } }
abbrev CC:Bs:=[112,114,101,100]
abbrev Bq:Bs:=[99,108,97,117,115,101]
abbrev D7:Bs:=[113,117,101,114,121]
theorem Xx{w0:Bs}{r:List Bs}{p:Pv}(a:p.ask≠V)(hw:w0=CC\/w0=Bq\/w0=D7):oN (w0::r) p=none:=by
 obtain⟨preds,o,ask⟩:=p;cases ask with
 | none=>grind
 | some cn=>
  unfold oN;grind
def aIZ{a b:Bs}{p:Pv}(c:p.ask=V):oN [CC,a,b] p=match pS a,km b 64 with
  | some a,O b=>if p.preds.any (fun q=>q.name == a && q.arity == b) then V else O { p with preds:=p.preds++[⟨a,b,[]⟩],open_:=false }
  | _,_=>none:=by
 grind [oN,pS,km]
def aI0{a:Bs}{p:Pv}(b:p.ask=V)(c:p.preds≠[]):oN [Bq,a] p=match km a 65 with
  | some a=>O { p with preds:=Kx p.preds fun q=>{ q with clauses:=q.clauses++[⟨a,[]⟩] },open_:=true }
  | none=>none:=by
 grind [oN]
theorem anP{a b:Bs}{p:Pv}(c:p.ask=V):oN [D7,a,b] p=match km a 65 with
  | some a=>match km b (a+1) with
   | some b=>O { p with ask:=O (⟨a,[]⟩,b),open_:=true }
   | none=>V
  | none=>none:=by
 grind [oN,km]
def aI1{w0:Bs}{r:List Bs}{p:Pv}(b:¬ (p.ask≠V/\(w0=CC\/w0=Bq\/w0=D7)))(d:¬ (w0=CC/\r.length=2))(f:¬ (w0=Bq/\r.length=1/\p.preds≠[]))(g:¬ (w0=D7/\r.length=2)) :
  oN (w0::r) p=match p.cur with
   | some c=>match vE c.slots (w0::r) with
    | some i=>O (p.add i)
    | none=>V
   | none=>none:=by
 unfold oN;split
 .grind
 .rename_i e;injection e with h j;have a:p.preds=[]:=zg;obtain⟨preds,o,ask⟩:=p;have a:preds=[]:=a;subst a;cases ask with
  | some c=>grind
  | none=>
   have k:(Pv.mk [] o V).cur=none:=by
    unfold Pv.cur;cases o<;>rfl
   grind
 .grind
 .obtain⟨preds,o,ask⟩:=p;cases ask with
  | none=>
   rw[bO zs];grind [Pv.cur,Pv.add]
  | some c=>
   rw[bO]
   .grind [Pv.cur,Pv.add]
   grind
def Pv.Bd(k:Nat)(p:Pv):Prop:=(∀ q∈p.preds,q.clauses.length<=k/\∀ c∈q.clauses,c.ins.length<=k/\c.slots<=64)/\∀ c n,p.ask=O (c,n)->c.ins.length<=k/\c.slots<=64
theorem Pv.Bd.cur{k:Nat}{p:Pv}{c:Co}(h:p.Bd k)(a:p.cur=O c):c.ins.length<=k/\c.slots<=64:=by
 unfold Pv.cur at a;split at a
 .rename_i e n b;injection a with a;subst a;exact h.2 _ _ b
 .split at a
  .unfold oN.PD at a;split at a
   .rename_i q d;exact(h.1 q (a1S d)).2 c (a1S a)
   grind
  grind
theorem Pv.Bd.add{k:Nat}{p:Pv}(h:p.Bd k)(i:In):(p.add i).Bd (k+1):=by
 unfold Pv.add;split
 .rename_i c n f;refine⟨fun q a=>⟨by have:=(h.1 q a).1;omega,fun c b=>⟨by have:=((h.1 q a).2 c b).1;omega,((h.1 q a).2 c b).2⟩⟩,fun l m he=>?_⟩;injection he with he;injection he with d g;subst d;have:=h.2 _ _ f;grind
 .rename_i f;refine⟨fun q a=>?_,fun c n he=>?_⟩
  .rcases adx a with a | ⟨q0,e,rfl⟩
   rotate_left
   .have a:=a1S e;refine⟨?_,fun c b=>?_⟩
    .show(GI _ _).length<=_;rw[anl];have:=(h.1 q0 a).1;omega
    .rcases ank b with b | ⟨c0,j,rfl⟩
     .exact⟨by have:=((h.1 q0 a).2 c b).1;omega,((h.1 q0 a).2 c b).2⟩
     .have:=(h.1 q0 a).2 c0 (a1S j);grind
   .exact⟨by have:=(h.1 q a).1;omega,fun c b=>⟨by have:=((h.1 q a).2 c b).1;omega,((h.1 q a).2 c b).2⟩⟩
  grind
theorem Pv.Bd.mono{p:Pv}(h:p.Bd k)(hk:k<=k'):p.Bd k':=
 ⟨fun q a=>⟨a0E (h.1 q a).1 hk,fun c b=>⟨a0E ((h.1 q a).2 c b).1 hk,((h.1 q a).2 c b).2⟩⟩,fun c n he=>⟨a0E (h.2 c n he).1 hk,(h.2 c n he).2⟩⟩
theorem adR(c:UInt8):∀ (s:Bs),∀ l∈gS c s,c ∉ l/\l.length<=s.length
 | [],l,h=>by
  simp_all [gS]
 | x::r,l,h=>by
  have ih:=adR c r;unfold gS at h;grind
def Wk.new(b:Bd)(n:Nat):Wk:=⟨n,⟨[],0⟩,[⟨O b,a09 n,0⟩],[]⟩
def GQ(c:Co):Vm:=⟨0,⟨[],0⟩,[⟨c,List.replicate c.slots .nil,0,V,0,A⟩],0,0,[]⟩
def vmE(preds:List Pd)(told:Nat):En where
 St:=Vm
 sr m:=m.sr
 nv m:=m.n
 fu m f:={ m with sr:={ m.sr with fuel:=f } }
 nx d f m:=Cy preds d f m
 told m:=m.iI (a09 told)
def Ay(cs:List Cl)(b:Bd)(nv:Nat):Option Bs:=match xX cs [] with
 | none=>V
 | some l=>match Bo [] b nv A with
  | none=>V
  | some a=>O (y8 l a nv)
inductive Xy where
 | err (e:Nat) (at_:Int)
 | ok (E:En) (st:E.St) (names:List Bs)
def runT(t:Bs)(names:List Bs):Xy:=match ri t with
 | .error (e,k)=>.err e k
 | .ok (ps,c,n)=>.ok (vmE ps n) (GQ c) names
def CD(cs:List Cl)(q:Bs)(machine:Bool):Xy:=match sK q8 q with
 | .err e a=>.err e a
 | .ok b _ vs=>if machine then match Ay cs b vs.length with
   | none=>.err 4 (-1)
   | some t=>runT t vs
  else .ok (Pq cs vs.length) (Wk.new b vs.length) vs
def firstT(d f:Nat)(s q:Bs)(machine:Bool):Option (Bs×Nat):=match program s with
 | .err e _=>O ([],e)
 | .ok cs _ _=>match CD cs q machine with
  | .err e _=>O ([],e)
  | .ok E st names=>(xe E names d f (V,st)).map Prod.fst
def anQ:∀ (d c:List Bs) (k:Nat) (p q:Pv),c≠[]->pk (d++c) k p = .ok q->∃ p1,pk c (k+d.length) p1 = .ok q
 | [],c,k,p,q,_,h=>⟨p,h⟩
 | l::d,c,k,p,q,e,h=>by
  have f:d++c≠[]:=(by simp_all);obtain⟨x,r,hx⟩:∃ x r,d++c=x::r:=by
   cases g:d++c with
   | nil=>grind
   | cons a b=>grind
  rw[List.cons_append,hx,pk] at h
  .split at h
   .grind
   .rename_i p1 _;rw[<- hx] at h;obtain⟨p2,i⟩:=anQ d c (k+1) p1 q e h;grind
  grind
def aI3{ws:List Bs}{p a:Pv}(h:oN ws p=O a)(b:p.ask.map (·.2)=O n):a.ask.map (·.2)=O n:=by
 obtain⟨preds,o,ask⟩:=p;cases ask with
 | none=>grind
 | some cn=>
  obtain⟨c,d⟩:=cn;simp only[Option.map_some,a0z] at b;subst b;unfold oN at h;grind
theorem anR:∀ (L:List Bs) (k:Nat) (p q:Pv) (n:Nat),pk L k p = .ok q->p.ask.map (·.2)=O n->q.ask.map (·.2)=O n
 | [],k,p,q,n,h,a=>by
  simp_all [pk]
 | [r],k,p,q,n,h,a=>by
  grind [pk]
 | r::s::rs,k,p,q,n,h,a=>by
  rw[pk] at h
  .split at h
   .grind
   .rename_i p1 b;exact anR (s::rs) _ _ _ _ h (aI3 b a)
  grind
theorem aI4(h:km (gw nv) n=O b):b=nv:=by
 unfold km at h;split at h
 .rename_i z a;split at h
  .rename_i c;injection h with h;have d:=(Xl a).1;grind [kX,aIS]
  grind
 grind
def Nl(s:Bs):Prop:=s=[]\/∃ a,s=a++[10]
def Nl.app{a b:Bs}(d:Nl a)(c:Nl b):Nl (a++b):=by
 rcases c with rfl | ⟨x,rfl⟩
 .grind
 .exact .inr ⟨a++x,zg⟩
theorem Nl.flat:∀ {L:List Bs},(∀ x∈L,Nl x)->Nl L.flatten
 | [],_=>.inl J
 | x::r,h=>by rw[a2G];exact(h x a0O).app (Nl.flat zg)
def Nl.words(f:Bs)(l:List Bs):Nl (mS f l):=.inr ⟨_,J⟩
theorem Nl.map{α:Type}{g:α->Bs}(a:∀ x,Nl (g x))(L:List α):Nl (L.map g).flatten:=Nl.flat fun x hx=>by
 grind
def Nl.pd(p:Pd):Nl (wZ p):=(Nl.words _ _).app (Nl.map (fun _=>(Nl.words _ _).app (Nl.map (fun _=>Nl.words _ _) _)) _)
def aI5(b r:Bs)(c:Nl b):∃ L,gS 10 (b++r)=L++gS 10 r:=by
 rcases c with rfl | ⟨a,rfl⟩
 .simp_all
 simp_all [gS,a1b,Td]
def aI6(c:UInt8):∀ (s:Bs),gS c s≠[]
 | []=>by simp [gS]
 | x::r=>by
  grind [adG]
theorem aI7{l:List Pd}{ask:Co}{ps:List Pd}{c:Co}(h:ri (y8 l ask nv) = .ok (ps,c,n)):n=nv:=by
 unfold ri at h;split at h
 .grind
 split at h
 .grind
 rename_i q a;split at h
 .rename_i j k m;injection h with h;injection h with b h;injection h with d e;subst b d e;have g:Nl (l.map wZ).flatten:=Nl.map Nl.pd l;unfold y8 at a;rw[a1b] at a;obtain⟨L,i⟩:=aI5 _ (mS [113,117,101,114,121] [gw ask.slots,gw nv]++As ask) g;rw[i] at a;obtain⟨p1,b⟩:=anQ L _ _ _ _ (aI6 _ _) a;rw[aIU (f:=[113,117,101,114,121]) (l:=[gw ask.slots,gw nv]) (⟨by grind [GP],by grind [GP]⟩) (fun w hw=>by
   simp only[a0N,a0V,or_false] at hw;rcases hw with rfl | rfl<;>exact wdN _)] at b
  grind [Xx,anR,aI4,anP]
 grind
def aI8{cs:List Cl}{x:Bd}{t:Bs}{ps:List Pd}{c:Co}(a:Ay cs x nv=O t)(b:ri t = .ok (ps,c,n)):n=nv:=by
 grind [Ay,aI7]
def Xz:Bs:=[112,40,49,41,46,32,112,40,50,41,46]
def XA:Bs:=[112,40,88,41,44,32,88,32,62,32,49,46]
def stA:Bs:=[88,32,61,32,50]
def stW:firstT 2000 20000 Xz XA ae=O (stA,0):=by decide +kernel
def stV:firstT 2000 20000 Xz XA A=O (stA,0):=by decide +kernel
def pA:Bs:=[97,46]
end P
open Go.Proofs.YtoegidfbnkaabaaGreatDoor.Sx
section
variable{p0 p1 p2 p3 p4 p5 p6 p7:Y}{w:Z}{R:Ending->Z->Prop}
def anS:=cz w R [p0,p1] (gc [] [] []) func44
def GR(p0 p1:Y)(w:Z)(R:Ending->Z->Prop):Prop:=
 CA baw 82 #[p0] w (fun k w1=>
 NC p0 fun g=>
 RD baw (Instr.fieldAt 100 g 1) w1 (fun h=>
 RD baw (Instr.loadAt 98 h) w1 (fun a=>
 WR baw (Instr.buildSlice 98 1 #[(0,p1)]) w1 (fun b c=>
 WR baw (Builtin.append_ #[98,98] 98 #[a,b]) c (fun d f=>
 NC p0 fun e=>
 RD baw (Instr.fieldAt 100 e 1) f (fun i=>
 WU baw (Instr.storeAt 98 i d) f (fun j=>
 R (ai aj) j) (PX R)) (PX R)) (PX R)) (PX R)) (PX R)) (PX R)) (PC R)
def anT(h:GR p0 p1 w R):Calls baw 95 #[p0,p1] w R:=
 cq (args:=[p0,p1]) (yB (fun _=>[]) (fun _=>V) (fun _=>0) (fun _=>V) (fun _=>[]) (fun _=>[]) (fun _=>ae) (fun _=>ae)) func95 J zk zk h
def aJe{u:FrameMode}{w:Z}{R:Ending->Z->Prop}(h:GR tv vv w R):CallsD baw 95 #[tv,vv] u w fun e a w'=>a=u/\R e w':=
 atW (args:=[tv,vv]) (yB (fun _=>[]) (fun _=>V) (fun _=>0) (fun _=>V) (fun _=>[]) (fun _=>[]) (fun _=>ae) (fun _=>ae)) func95 J zk zk (Nat.le_of_ble_eq_true zk) [] zk h
end
namespace P
structure Nd where
 kind:Nat
 name:Bs
 n:Int
 args:List Nat
deriving Inhabited
structure Hp where
 nodes:List Nd
 to:List Int
 aVE:List Nat
 cost:Nat
 anU:Nat
 err:Nat
def Hp.nd(H:Hp)(t:Nat):Nd:=H.nodes.getD t ⟨0,[],0,[]⟩
def Hp.adY(H:Hp)(t:Nat):Int:=H.to.getD t (-1)
def Hp.y3(H:Hp):Bool:=decide (H.anU<H.cost) || decide (H.err≠0)
def Hp.add(H:Hp)(d:Nd):Hp:={ H with nodes:=H.nodes++[d],to:=H.to++[-1] }
def Hp.walk(H:Hp):Nat->Nat->Option Nat
 | 0,t=>if (H.nd t).kind=118/\0<=H.adY t then V else O t
 | f+1,t=>if (H.nd t).kind=118/\0<=H.adY t then H.walk f (H.adY t).toNat else O t
def Hp.fresh(H:Hp):Nat->Hp×List Nat
 | 0=>(H,[])
 | n+1=>let (a,l):=(H.add ⟨118,[],0,[]⟩).fresh n;(a,H.nodes.length::l)
mutual
def Hp.made (H:Hp) (vs:List Nat):Ex->Hp×Nat
 | .mk kind name n k args=>if kind=118 then(H,vs.getD k 0) else
  let (a,l):=H.oq vs args
  (a.add ⟨kind,name,n,l⟩,a.nodes.length)
 termination_by structural x=>x
def Hp.oq (H:Hp) (vs:List Nat):List Ex->Hp×List Nat
 | []=>(H,[])
 | x::xs=>let (a,t):=H.made vs x;let (b,l):=a.oq vs xs;(b,t::l)
 termination_by structural x=>x
end
def Hp.jB(H:Hp)(t:Nat):Nat:=if (H.nd t).kind≠99 then 0 else P.jB (H.nd t).name (H.nd t).args.length
abbrev Xr:=Bs×Nat×List Nat
def Xb(x:Option Xr)(k:Bs->Nat->List Nat->Option Xr):Option Xr:=
 match x with
 | none=>V
 | some (s,c,l)=>k s c l
def Hp.over(H:Hp)(c:Nat):Bool:=decide (H.anU<c) || decide (H.err≠0)
mutual
def Hp.text (H:Hp):Nat->Nat->Nat->Nat->List Nat->Option Xr
 | 0,_,_,_,_=>V
 | f+1,t,least,c,seen=>
  if H.over (c+1) then O ([],c+1,seen)
  else match H.walk f t with
   | none=>V
   | some t=>
    if (H.nd t).kind=97 then O ((H.nd t).name,c+1,seen)
    else if (H.nd t).kind=110 then O (kX (H.nd t).n,c+1,seen)
    else if (H.nd t).kind=118 then match seen.idxOf? t with
     | some k=>O (95::gw (k+1),c+1,seen)
     | none=>O (95::gw (seen.length+1),c+1,seen++[t])
    else if H.jB t≠0 then
     Xb (H.text f ((H.nd t).args.getD 0 0) (H.jB t) (c+1) seen) fun a c seen=>Xb (H.text f ((H.nd t).args.getD 1 0) (H.jB t+1) c seen) fun b c seen=>
      let op:=if (H.nd t).name=[109,111,100] then [32,109,111,100,32] else(H.nd t).name
      O (if H.jB t<least then 40::(a++op++b++[41]) else a++op++b,c,seen)
    else if (H.nd t).name=[46]/\(H.nd t).args.length=2 then H.list f t [91] (c+1) seen
    else H.targs f (H.nd t).args A ((H.nd t).name++[40]) (c+1) seen
 termination_by structural f=>f
def Hp.targs (H:Hp):Nat->List Nat->Bool->Bs->Nat->List Nat->Option Xr
 | 0,_,_,_,_,_=>V
 | _+1,[],_,out,c,seen=>O (out++[41],c,seen)
 | f+1,a::r,first,out,c,seen=>Xb (H.text f a 0 c seen) fun s c seen=>H.targs f r ae ((if first then out else out++[44])++s) c seen
 termination_by structural f=>f
def Hp.list (H:Hp):Nat->Nat->Bs->Nat->List Nat->Option Xr
 | 0,_,_,_,_=>V
 | f+1,t,out,c,seen=>
  Xb (H.text f ((H.nd t).args.getD 0 0) 0 c seen) fun a c seen=>
   match H.walk f ((H.nd t).args.getD 1 0) with
   | none=>V
   | some r=>
    if H.over c then O (out++a,c,seen)
    else if (H.nd r).kind=97/\(H.nd r).name=[91,93] then O (out++a++[93],c,seen)
    else if (H.nd r).kind=99/\(H.nd r).name=[46]/\(H.nd r).args.length=2 then H.list f r (out++a++[44]) c seen
    else Xb (H.text f r 0 c seen) fun b c seen=>O (out++a++[124]++b++[93],c,seen)
 termination_by structural f=>f
end
end P
open Go.RowKit Sx
abbrev uF(l:Bs):List Y:=l.map fun c=>.int .u8 c.toNat
def sZ(w:Z)(wb:Nat)(S nm:Y)(out:Bs):Prop:=
 ∃ a buf,(a = au V\/a=pp wb)/\w.heap[wb]?=aP #[a,buf,S,nm] 103/\w.ownsRow (wb+1) 5 1 buf out.length (uF out)
def MB(wb b:Nat)(o:Obj):Prop:=b=wb\/(wb<b/\∃ cs z,o = ah cs 5 z)
abbrev jM(wb:Nat)(w w':Z):Prop:=bD (MB wb) w w'
def XC:(Tryz.prog.info? 100).map (·.size)=O 2:=zk
def aJh:liesAt baw Tryz.prog.depth 103 (4 / Tryz.prog.cellsOf 103) 0 100 1=true:=zk
def aJi(h:w.heap[b]?=aP #[pp b,buf,S,nm] 103) :
  Calls baw 82 #[pp b] w fun e w'=>e = ai (aq #[])/\w'=w:=by
 obtain⟨j,hj,_⟩:=a02.1 XC;have h0:w.cell? ⟨b,0,V⟩=O (pp b):=by grind [World.cell?]
 go_enter func82,ntmps82
 go_wp2
 rw[Lib.run_neq_ptr_same w _ underlying97 hj]
 go_wp2
 go_end0
 grind
def aJj(h:w.heap[b]?=aP #[au V,buf,S,nm] 103) :
  Calls baw 82 #[pp b] w fun e w'=>e = ai (aq #[])/\w'=w.setCell ⟨b,0,V⟩ (pp b):=by
 obtain⟨j,hj,PM⟩:=a02.1 XC;have h0:w.cell? ⟨b,0,V⟩=O (au V):=by grind [World.cell?]
 have Ib:w.frozen? ⟨b,0,V⟩=false:=jO h 0;have sX:w.shape? b=O (103,4):=by grind [World.shape?]
 go_enter func82,ntmps82
 go_wp2
 rw[Lib.run_to_unsafe w ⟨b,0,V⟩ underlying97 underlying155 hj zo sX (Nat.zero_lt_succ 3)];simp only[a1r];rw[a2X]
 go_wp2
 rw[run_callFunc_extern func110 zk zk zk (e:=Extern.AbiNoEscape.same) zk];rw[Lib.run_noEscape];simp only[a1r];rw[a2X]
 go_wp2
 rw[Lib.run_from_unsafe w ⟨b,0,V⟩ underlying155 underlying97 hj sX aJh];simp only[a1r];rw[a2X]
 go_wp2
 go_end0
 grind
def anV{wb:Nat}(h:sZ w wb S nm out) :
  Calls baw 82 #[pp wb] w fun e w'=>e = ai (aq #[])/\jM wb w w'/\w'.heap.size=w.heap.size/\∃ buf,
   w'.heap[wb]?=aP #[pp wb,buf,S,nm] 103/\w'.ownsRow (wb+1) 5 1 buf out.length (uF out):=by
 obtain⟨d,buf,b,a,c⟩:=h;rcases b with rfl | rfl
 .refine(aJj a).mono ?_;rintro e w' ⟨rfl,rfl⟩;rw[uZ a];refine⟨J,(bD.refl _ _).bT (.inl fun _=>.inl J),yH,buf,yH,(by grind [JQ])⟩
 .refine(aJi a).mono ?_;rintro e w' ⟨rfl,rfl⟩;exact⟨J,bD.refl _ _,J,buf,a,c⟩
def jM.XD{wb:Nat}(d:w1.ownsRow (wb+1) 5 1 buf n xs)(a:w1.grownBy w2 buf.ownBlock):jM wb w1 w2:=⟨a.os,a.tape,a.output,a.size,fun b o c hm=>by
 rw[a.block b (bn c) (fun e=>?_)]
 .exact yH
 .rcases d.2 with⟨rfl,_⟩| ⟨g,cap,cur,rfl,h,f,_⟩
  .cases e
  .simp only[Value.ownBlock,a0z] at e;subst e;rw[f] at c;injection c with c;exact hm (.inr zg)⟩
def aJk{wb:Nat}(h:sZ w wb S nm out)(s:Bs)(f:out.length+s.length<=1000000000) :
  Calls baw 44 #[pp wb,aW s] w fun e w'=>(∃ v,e = ai v)/\sZ w' wb S nm (out++s)/\jM wb w w':=by
 refine anS ?_;refine(anV h).mono ?_;rintro e w1 ⟨rfl,g,s1,buf,b,a⟩;have i:=bn b;refine cM b ?_;refine ajj (e:=5) zk a s f zo ?_;intro v' w2 o2 c hv;have d:w2.heap[wb]?=aP #[pp wb,buf,S,nm] 103:=by
  rw[c.block wb i (fun e=>by have:=(a.lt wb e.symm).1;omega)];omega
 have j:=bn d;obtain⟨l,rc,rfl⟩:=ij o2;refine cM d ?_;have k:jM wb w1 w2:=jM.XD a c;refine⟨⟨_,J⟩,⟨_,_,.inr J,qo J j,JQ ?_ zo⟩,(g.trans k).bT (.inl fun _=>.inl J)⟩;grind
def anW:(Tryz.prog.info? 5).map (fun i=>(i.zero,i.size,i.bytes))=O (O (.int .u8 0),1,1):=zk
def anX{wb:Nat}(h:sZ w wb S nm out)(c:UInt8)(j:out.length+1<=1000000000) :
  GR (pp wb) (.int .u8 c.toNat) w fun e w'=>(∃ v,e = ai v)/\sZ w' wb S nm (out++[c])/\jM wb w w':=by
 obtain⟨i,k,d⟩:=a02.1 anW;simp only[a0X] at d;obtain⟨l,n,o⟩:=d;unfold GR;refine Calls.mono (anV h) ?_;rintro e w1 ⟨rfl,p,s1,buf,f,a⟩;have s:=bn f;refine dB @GR.eq_1 f ?_;refine Sx.Dr (m:=1) (t:=98) (e:=5) zk k l n o J zd (a.alloc _) (blk_alloc_new _ _) J (fun u hu=>?_) j zd (by rw[size_alloc];omega) ?_
 .simp only[a0N,a0V,or_false] at hu;subst hu;rfl
 intro v' w2 o2 b hv;have s2:=b.size;rw[size_alloc] at s2;have g:w2.heap[wb]?=aP #[pp wb,buf,S,nm] 103:=by
  rw[b.block wb (yH) (fun e=>by have:=(a.lt wb e.symm).1;omega)];exact yH
 have q:=bn g;obtain⟨x,rc,rfl⟩:=ij o2;refine dB @GR.eq_1 g ?_;have r:jM wb w1 w2:=((bD.refl _ _).alloc _).trans (jM.XD (a.alloc _) b);refine⟨⟨_,J⟩,⟨_,_,.inr J,qo J q,JQ ?_ zo⟩,(p.trans r).bT (.inl fun _=>.inl J)⟩;grind
def aJl{wb:Nat}(h:sZ w wb S nm out)(c:UInt8)(a:out.length+1<=1000000000) :
  Calls baw 95 #[pp wb,.int .u8 c.toNat] w fun e w'=>(∃ v,e = ai v)/\sZ w' wb S nm (out++[c])/\jM wb w w':=
 anT (anX h c a)
def anY{wb:Nat}(h:sZ w wb S nm out)(c:UInt8)(a:out.length+1<=1000000000){u:FrameMode} :
  CallsD baw 95 #[pp wb,.int .u8 c.toNat] u w fun e b w'=>b=u/\(∃ v,e = ai v)/\sZ w' wb S nm (out++[c])/\jM wb w w':=
 aJe (anX h c a)
def anZ:Tryz.prog.cellsOf 5=1:=zk
def an0{wb:Nat}{z:Nat×Nat}(d:wb<g)(c:w.heap[g]?=O (ah iK 5 z)):jM wb w (w.freeze ⟨g,0,V⟩ n):=by
 unfold World.freeze;split
 .grind [bD.refl]
 .exact⟨J,J,J,zs,fun b o a hm=>by
   simp only[Array.getElem?_modify];rw[bO]
   .omega
   .rintro rfl;rw[c] at a;injection a with a;exact hm (.inr zg)⟩
def an1{wb:Nat}(h:sZ w wb S nm out)(h0:out≠[]) :
  Calls baw 33 #[pp wb] w fun e w'=>e = ai (aW out)/\jM wb w w':=by
 obtain⟨ad,buf,GS,hb,ho⟩:=h;have qQ:out.length≠0:=zg;obtain⟨g,cap,cur,rfl,ZV,hg,uV,Dg,jP,ZW⟩:∃ g cap cur,buf = cU g out.length cap/\wb+1<=g/\w.heap[g]?=aP cur 5/\out.length<=cap/\cap<=maxLen/\cur.size=cap*1/\cur.toList.take (out.length*1)=uF out:=by
  rcases ho.2 with⟨_,hz⟩| ⟨g,cap,cur,hv,r⟩
  .exact yH
  .exact⟨g,cap,cur,hv,r⟩
 have nK:w.drew.heap[wb]?=aP #[ad,cU g out.length cap,S,nm] 103:=hb;have c1:w.drew.cell? ⟨wb,1,V⟩=O (cU g out.length cap):=by grind [World.cell?]
 have hSD:(Builtin.unsafeSliceData_ #[98] 181 #[cU g out.length cap]).run baw w.drew = .ok (pp g) w.drew:=
  (by grind [Lib.run_unsafeSliceData_row])
 have hUS:(Builtin.unsafeString_ #[181,3] 9 #[pp g,zi out.length]).run baw w.drew = .ok (aW out) (w.drew.freeze ⟨g,0,V⟩ out.length):=by
  refine Lib.run_unsafeString_row w.drew 181 3 9 5 underlying181 anZ g cur.size (by have jI:w.drew.heap[g]?=aP cur 5:=hg;grind [World.shape?]) out h0 zo (by grind [maxLen]) ?_;intro j x hx;have:=ho.cells (g:=g) J j (.int .u8 x.toNat) zg;exact this
 go_enter func33,ntmps33
 go_wp2
 go_region
 all_goals (go_wp2;go_ret;exact⟨J,(bD.drew (bD.refl _ _)).trans (an0 zo hg)⟩)
section
variable{p0 p1 p2 p3 p4 p5 p6 p7:Y}{w:Z}{R:Ending->Z->Prop}
def aJo:=cz w R [p0] (gc [] [] [13]) func61
def aJp:=cz w R [p0] (gc [(1,[0])] [(2000,[18]),(3001,[])] [4,9,10,17,18]) func62
def aJq:=cz w R [p0,p1] (gc [] [(3000,[8]),(5000,[15])] [5,7,8,13,14,15,24,25]) func94
def aJr:=cz w R [p0,p1] (gd [(10,[46])] [] [] [(12,[13,0,1,2,3,4,5,6,7,8,9,10,11,12])] [] [] [12,13,19,20,26,27,47]) func32
end
section
variable{p0 p1 p2 p3 p4 p5 p6 p7:Y}{w:Z}{R:Ending->Z->Prop}
def aJs:=cz w R [p0,p1,p2] (gd [] [(13001,[]),(15004,[9])] [] [(7,[6,0,1,2,3,4,5]),(16,[7,0,1,2,3,4,5,6])] [] [] [10,20,28,37,47,48,49,54,79]) func31
def aJt:=cz w R [p0,p1] (gc [(1,[1,4])] [(7000,[42]),(12008,[1])] [28,41,42,45,48]) func96
def aJu:=cy w R [p0,p1,p2] (gd [(3,[32])] [(16002,[]),(18000,[101])] [(0,9),(1,7),(5,6),(16,7)] [] [] [] [33,52,54,57,78,101,113,114]) func65
end
mutual
def dK (F:Nat->Prop) (ρ:Nat->Nat) (n:Nat) (w:Z) (v:Y):Tm->Prop
 | .atom s=>v = ak 171 (.string (bs s))
 | .int k=>v = ak 172 (.int .i64 k)
 | .var i=>i<n/\v = ak 87 (au (O ⟨ρ i,0,V⟩))
 | .comp name args=>∃ b av vs,v = ak 175 (au (O ⟨b,0,V⟩))/\F b/\w.heap[b]?=O (ah #[.string (bs name),av] 180 (0,0)) /\
  fO F w 89 av vs/\iP F ρ n w vs args
 termination_by structural t=>t
def iP (F:Nat->Prop) (ρ:Nat->Nat) (n:Nat) (w:Z) (vs:List Y):List Tm->Prop
 | []=>vs=[]
 | t::a=>∃ v r,vs=v::r/\dK F ρ n w v t/\iP F ρ n w r a
 termination_by structural t=>t
end
abbrev dN(ρ:Nat->Nat)(n:Nat)(w:Z)(v:Y)(t:Tm):Prop:=dK (fun _=>True) ρ n w v t
abbrev pU(ρ:Nat->Nat)(n:Nat)(w:Z)(vs:List Y)(a:List Tm):Prop:=iP (fun _=>True) ρ n w vs a
def rn(F:Nat->Prop)(w w':Z):Prop:=∀ b cs t,F b->t=180\/t=89->w.heap[b]?=aP cs t->w'.heap[b]?=aP cs t
abbrev XE(w w':Z):Prop:=rn (fun _=>True) w w'
theorem rn.ed(h:Ext w w'):rn F w w':=fun b cs t _ _ a=>h.ext b _ a
mutual
theorem dK.mono {F F':Nat->Prop} {ρ eO:Nat->Nat} {n c:Nat} {w w':Z} (a:∀ b,F b->F' b) (d:n<=c) (e:∀ i,i<n->eO i=ρ i) (hw:rn F w w'):∀ (t:Tm) (v:Y),dK F ρ n w v t->dK F' eO c w' v t
 | .atom s,v,h=>by grind [dK]
 | .int k,v,h=>by grind [dK]
 | .var i,v,h=>by
  grind [dK]
 | .comp name args,v,h=>by
  unfold dK at h ⊢;obtain⟨b,av,vs,j,f,l,m,o⟩:=h;exact⟨b,av,vs,j,a b f,hw b _ _ f (.inl J) l,m.mono a fun b cs p q=>hw b _ _ p (.inr J) q,iP.mono a d e hw args vs o⟩
 termination_by structural t=>t
theorem iP.mono {F F':Nat->Prop} {ρ eO:Nat->Nat} {n c:Nat} {w w':Z} (a:∀ b,F b->F' b) (d:n<=c) (e:∀ i,i<n->eO i=ρ i) (hw:rn F w w'):∀ (g:List Tm) (vs:List Y),iP F ρ n w vs g->iP F' eO c w' vs g
 | [],vs,h=>by grind [iP]
 | t::g,vs,h=>by
  unfold iP at h ⊢;obtain⟨v,r,j,f,l⟩:=h;exact⟨v,r,j,dK.mono a d e hw t v f,iP.mono a d e hw g r l⟩
 termination_by structural t=>t
end
theorem dK.bJ(h:dK F ρ n w v t)(hw:rn F w w'):dK F ρ n w' v t:=dK.mono zg zo zg hw t v h
theorem iP.bJ{t:List Tm}{v:List Y}(h:iP F ρ n w v t)(hw:rn F w w'):iP F ρ n w' v t:=iP.mono zg zo zg hw t v h
theorem dK.toT(h:dK F ρ n w v t):dN ρ n w v t:=dK.mono zg zo zg (fun _ _ _ _ _ h=>h) t v h
theorem iP.toT{t:List Tm}{v:List Y}(h:iP F ρ n w v t):pU ρ n w v t:=iP.mono zg zo zg (fun _ _ _ _ _ h=>h) t v h
def iP.snoc{F:Nat->Prop}{ρ:Nat->Nat}{n:Nat}{w:Z}{v:Y}{x:Tm}(hx:dK F ρ n w v x):∀ {xs:List Tm} {vs:List Y},iP F ρ n w vs xs->iP F ρ n w (vs++[v]) (xs++[x])
 | [],vs,h=>by
  unfold iP at h;subst h;show iP F ρ n w [v] [x];unfold iP;exact⟨v,[],J,hx,by unfold iP;rfl⟩
 | y::a,vs,h=>by
  unfold iP at h;obtain⟨u,r,rfl,b,c⟩:=h;show iP F ρ n w (u::(r++[v])) (y::(a++[x]));unfold iP;exact⟨u,r++[v],J,b,iP.snoc hx c⟩
def iP.length{F:Nat->Prop}{ρ:Nat->Nat}{n:Nat}{w:Z}:∀ {xs:List Tm} {vs:List Y},iP F ρ n w vs xs->vs.length=xs.length
 | [],vs,h=>by unfold iP at h;subst h;rfl
 | y::b,vs,h=>by
  unfold iP at h;obtain⟨u,r,rfl,c,a⟩:=h;simp [iP.length a]
theorem iP.at{F:Nat->Prop}{ρ:Nat->Nat}{n:Nat}{w:Z}:∀ {xs:List Tm} {vs:List Y} (j:Nat) (a:j<xs.length),iP F ρ n w vs xs->∃ v,vs[j]?=O v/\dK F ρ n w v xs[j]
 | x::xs,vs,0,_,h=>by
  unfold iP at h;grind
 | x::xs,vs,j+1,a,h=>by
  unfold iP at h;obtain⟨u,r,rfl,c,b⟩:=h;simpa using iP.at j zg b
def dK.iface{F:Nat->Prop}{ρ:Nat->Nat}{n:Nat}{w:Z}{v:Y}:∀ {t:Tm},dK F ρ n w v t->∃ u x,v = ak u x
 | .atom s,h=>by unfold dK at h;exact⟨_,_,h⟩
 | .int s,h=>by unfold dK at h;exact⟨_,_,h⟩
 | .var s,h=>by unfold dK at h;exact⟨_,_,h.2⟩
 | .comp s l,h=>by unfold dK at h;obtain⟨b,av,vs,h,-⟩:=h;exact⟨_,_,h⟩
structure D9(ρ:Nat->Nat)(n:Nat)(tr:Tr)(w:Z):Prop where
 inj:∀ i j,i<n->j<n->ρ i=ρ j->i=j
 var:∀ i,i<n->∃ ref,w.heap[ρ i]?=O (ah #[ref] 91)/\(match P.look i tr with | none=>ref = aj | some t=>dN ρ n w ref t)
def GU(w w':Z):Prop:=∀ (b:Nat) (cs:Array Y) (t:Nat),t=180\/t=89\/t=91->w.heap[b]?=aP cs t->w'.heap[b]?=aP cs t
theorem GU.toT(h:GU w w'):XE w w':=fun b cs t _ ht=>h b cs t zg
theorem GU.ed(h:Ext w w'):GU w w':=fun b cs t _ a=>h.ext b _ a
theorem D9.bJ{ρ:Nat->Nat}{n:Nat}{tr:Tr}{w w':Z}(h:D9 ρ n tr w)(hk:GU w w'):D9 ρ n tr w':=
 ⟨h.inj,fun i a=>by
  obtain⟨ref,b,c⟩:=h.var i a;refine⟨ref,hk _ _ _ zg b,?_⟩;grind [dK.bJ,GU.toT]⟩
def GV{j:Tm}(h:D9 ρ n tr w)(hv:dN ρ n w v t)(hw:dR tr f t=O j) :
  Calls baw 62 #[v] w fun e w'=>w'=w/\∃ u,e = ai u/\dN ρ n w u j:=by
 refine aJp ?_;refine⟨fun m s w1=>w1=w/\∃ t1,dN ρ n w (s 0) t1/\dR tr m t1=O j,⟨f,J,t,hv,hw⟩,?_⟩;intro m s d w1 q;refine toPr ?_;obtain⟨rfl,t1,c,k⟩:=q;by_cases r:∃ i,t1 = .var i
 .obtain⟨i,rfl⟩:=r;unfold dK at c;obtain⟨y,g⟩:=c;obtain⟨ref,g1,g2⟩:=h.var i y;cases o:P.look i tr with
  | none=>
   rw[o] at g2;have g2:ref = aj:=g2;subst g2;have ht:j = .var i:=by
    grind [dR]
   refine cM g ?_;refine⟨fun _ _=>False,?_,by rintro _ _ h;exact h.elim⟩;refine⟨fun x w'=>w'=w1/\x 18 = .bool A,?_,?_⟩
   .simp (disch:=first|assumption|omega|simp only[zS]<;>omega|decide) only[zB,simprocAttr,lp,g1,jk]
   .rintro x w' ⟨rfl,hx⟩ d2;refine cM hx ?_;rw[ht];unfold dK;grind
  | some t2=>
   rw[o] at g2;have g2:dN ρ n w1 ref t2:=g2;obtain⟨u,x,p⟩:=g2.iface;cases m with
   | zero=>simp [dR,o] at k
   | succ m=>
   simp [dR,o] at k;subst p;refine cM g ?_;refine⟨fun _ w'=>w'=w1,?_,?_⟩
   .refine⟨fun x w'=>w'=w1/\x 18 = .bool ae,?_,?_⟩
    .simp (disch:=first|assumption|omega|simp only[zS]<;>omega|decide) only[zB,simprocAttr,lp,g1,jk]
    .rintro x w' ⟨rfl,hx⟩ d2;exact fj hx
   .rintro x w' rfl d2;refine cM @g1 ?_;grind
 .have ht:t1=j:=by
   cases m<;>cases t1<;>simp [dR] at k<;>first | exact k | exact zg
  have g:∃ u x,s 0 = ak u x/\¬ u=87:=by
   cases t1 with
   | atom a=>unfold dK at c;exact⟨_,_,c,zd⟩
   | int a=>unfold dK at c;exact⟨_,_,c,zd⟩
   | var a=>grind
   | comp a l=>unfold dK at c;obtain⟨b,av,vs,c,-⟩:=c;exact⟨_,_,c,zd⟩
  obtain⟨u,x,g,hu⟩:=g;refine dB g hu ?_;refine⟨fun _ _=>False,?_,by rintro _ _ h;exact h.elim⟩;refine⟨fun x w'=>w'=w1/\x 18 = .bool A,?_,?_⟩
  .simp (disch:=first|assumption|omega|simp only[zS]<;>omega|decide) only[zB,simprocAttr,lp,jk]
  .rintro z w' ⟨rfl,hx⟩ d2;refine cM hx ?_;grind
def gsi{cs:Array Y}{i:Nat}{v:Y}(h:i<cs.size):(cs.setIfInBounds i v)[i]?=O v:=zg
def ssz:(cs.setIfInBounds i v).size=cs.size:=zs
def sss:(cs.setIfInBounds i v).setIfInBounds i u=cs.setIfInBounds i u:=zs
abbrev Nk:Ending:=.panicked [{ v:=ak 134 (.agg #[]),recovered:=false }]
abbrev ky(cs:Array Y)(so:Nat)(z:Int):Array Y:=cs.setIfInBounds (so+1) (zi z)
def an4{T:Nat}{z:Int}(a:w.heap[pb]?=aP (ky cs so z) T)(d:so+2<=cs.size)(f:0<=z/\z<=1000000000) :
  Calls baw 61 #[pq pb so] w fun e w'=>
   e=(if z=0 then Nk else ai (aq #[]))/\w'=bT w pb (ah (ky cs so (z-1)) T (0,0)):=by
 have l:=bn a;have b:(ky cs so z)[so+1]?=O (zi z):=zg;have g:(ky cs so z).size=cs.size:=ssz;refine aJo ?_;by_cases h:z=0
 .have c:z-1<0:=zo;refine dL a b @gsi (zA @ssz @sss) ?_;grind
 .have c:¬ z-1<0:=zo;refine dL a b @gsi (zA @ssz @sss) ?_;grind
def an5(name:Bs)(n:Nat)(w:Z):Calls baw 94 #[aW name,zi n] w fun e w'=>e = ai (zi (jB name n))/\w'=w:=by
 refine aJq ?_;unfold jB;by_cases h:n=2
 .subst h;have e0:((2:Nat):Int)=2:=rfl;refine cM @e0 ?_;refine⟨fun x w'=>w'=w/\x 8 = .bool (decide (name=[43]\/name=[45])),?_,?_⟩
  .by_cases b:name=[43]
   .refine cM b ?_;grind
   .refine cM b ?_;grind
  .rintro x w' ⟨rfl,hx⟩ d;rw[hx];by_cases b:name=[43]\/name=[45]
   .rw[F4 _ _ b];grind
   .rw[F5 _ _ b];refine⟨fun x c=>c=w'/\x 15 = .bool (decide (name=[42]\/name=[47,47]\/name=[109,111,100])),?_,?_⟩
    .by_cases a:name=[42]
     .refine cM a ?_;grind
     .by_cases f:name=[47,47]
      .refine dB a f ?_;grind
      .refine dB a f ?_;grind
    .rintro x c ⟨rfl,hx⟩ d;rw[hx];by_cases a:name=[42]\/name=[47,47]\/name=[109,111,100]
     .rw[F4 _ _ a];grind
     .rw[F5 _ _ a];grind
 .have g:¬ (n:Int)=2:=zo;refine bF ?_;grind
def lP(w:Z):Prop:=Lib.TabIs baw w "internal/strconv.uint64pow10" .u64 Lib.pow10Tab
def ad0:Tryz.prog.globalNamed "internal/strconv.uint64pow10" = O 4:=zk
theorem lP.bJ(h:lP w)(hw:∀ o,w.heap[4]?=O o->w'.heap[4]?=O o):lP w':=by
 unfold lP Lib.TabIs World.var? at h ⊢;rw[ad0] at h ⊢;simp only[Option.bind_some] at h ⊢;cases a:w.heap[4]? with
 | none=>rw[a] at h;cases h
 | some o=>rw[hw o a];rw[a] at h;exact h
theorem lP.ext{w w':Z}(h:lP w)(a:Ext w w'):lP w':=(by grind [bJ,bD.ext])
def an6:∀ (f n:Nat),n<f->Bi f n=a5y n
 | 0,n,h=>zo
 | f+1,n,h=>by
  rw[Bi,a5y];split
  .rfl
  .rw[an6 f (n / 10) zo]
theorem KD(n:Nat):gw n=a5y n:=an6 _ _ zo
theorem ad4(n:Int):kX n=Lib.itoa n:=by
 grind [kX,Lib.itoa,KD]
def an7{os:Array Obj}(h:w'=Go.Sort.grow (w.drewN k) os):Ext w w':=by
 subst h;refine⟨J,J,J,?_,fun b o a _=>?_⟩
 .simp [Go.Sort.grow,World.drewN]
 .have:=bn a;show(w.heap++os)[b]?=O o;exact yH
def an8(n:Int)(a:-9223372036854775808<=n)(b:n<=9223372036854775807)(w:Z)(ht:lP w) :
  Calls baw 63 #[zi n,zi 10] w fun e w'=>e = ai (aW (kX n))/\Ext w w':=by
 refine(Tryz.strconv_FormatInt_10 n a b w ht).mono ?_;rintro e w' ⟨rfl,k,os,h⟩;rw[ad4];exact⟨J,an7 h⟩
def KE(n:Int)(a:-9223372036854775808<=n)(b:n<=9223372036854775807)(w:Z)(ht:lP w) :
  Calls baw 64 #[zi n] w fun e w'=>e = ai (aW (kX n))/\Ext w w':=by
 refine(Tryz.strconv_Itoa n a b w ht).mono ?_;rintro e w' ⟨rfl,k,os,h⟩;rw[ad4];exact⟨J,an7 h⟩
def an9(n:Int)(a:-9223372036854775808<=n)(b:n<=9223372036854775807):(kX n).length<=21:=by
 grind [ad4,Lib.itoa_length_le]
def Az(ρ:Nat->Nat)(seen:List Nat)(k:Nat):List (Nat×Y):=match seen with
 | []=>[]
 | i::r=>(ρ i,.int .i64 ((k+1:Nat)))::Az ρ r (k+1)
def NmA(ρ:Nat->Nat)(w:Z)(wb:Nat)(nm:Y)(seen:List Nat):Prop:=
 (seen=[]/\nm = .map V)\/∃ r c es,nm = .map (O r)/\wb<r/\w.heap[r]?=O (.map es c)/\EK (Az ρ seen 0) es.toList
structure lQ(ρ:Nat->Nat)(n:Nat)(tr:Tr)(wb sb so T:Nat)(cs:Array Y)(nm:Y)(w:Z)(s:Ws):Prop where
 st:D9 ρ n tr w
 bu:sZ w wb (pq sb so) nm s.out
 na:NmA ρ w wb nm s.seen
 fu:w.heap[sb]?=aP (ky cs so s.fuel) T
 XF:lP w
 sn:∀ i∈s.seen,i<n
def GW(ρ:Nat->Nat)(n:Nat)(tr:Tr)(wb sb so T:Nat)(cs:Array Y)(w:Z)(s:Ws):Prop:=∃ nm,lQ ρ n tr wb sb so T cs nm w s
structure x7(tr:Tr)(wb sb so T:Nat)(cs:Array Y):Prop where
 tok:mh tr
 sz:so+2<=cs.size
 ne:sb≠wb
 g1:4<wb
 g2:sb≠4
 T1:T≠5
 T2:T≠180/\T≠89/\T≠91
def MW(wb sb b:Nat)(o:Obj):Prop:=b=wb\/b=sb\/(wb<b/\((∃ cs z,o = ah cs 5 z)\/∃ es c,o = .map es c))
abbrev mW(wb sb:Nat)(w w':Z):Prop:=bD (MW wb sb) w w'
theorem jM.toW{wb:Nat}(h:jM wb w w')(sb:Nat):mW wb sb w w':=h.mono fun b o _ hm=>by
 rcases hm with h | ⟨h,a⟩
 .exact .inl h
 .exact .inr zg
section
variable{ρ:Nat->Nat}{n:Nat}{tr:Tr}{wb sb so T:Nat}{cs:Array Y}{nm:Y}{w w':Z}{s:Ws}
theorem lQ.kv(h:lQ ρ n tr wb sb so T cs nm w s)(hx:x7 tr wb sb so T cs)(d:mW wb sb w w'):GU w w':=fun b c t ht a=>by
 refine d.block b _ a ?_;obtain⟨e,buf,-,hw,-⟩:=h.bu;rintro (rfl | rfl | ⟨_,⟨_,_,h⟩| ⟨_,_,h⟩⟩)
 .grind
 .rw[h.fu] at a;cases a;rcases ht with ht | ht | ht
  .exact hx.T2.1 ht
  .exact hx.T2.2.1 ht
  .exact hx.T2.2.2 ht
 .grind
 grind
def lQ.XH(h:lQ ρ n tr wb sb so T cs nm w s)(hx:x7 tr wb sb so T cs)(a:mW wb sb w w'):lP w':=h.XF.bJ fun o b=>by
 refine a.block _ _ b ?_;have:=hx.g1;rintro (h | h | ⟨h,_⟩)
 .omega
 .exact hx.g2 h.symm
 omega
theorem lQ.wr(h:lQ ρ n tr wb sb so T cs nm w s)(hx:x7 tr wb sb so T cs){x:Bs}(b:sZ w' wb (pq sb so) nm (s.out++x))(a:jM wb w w'):lQ ρ n tr wb sb so T cs nm w' (s.add x):=by
 refine⟨h.st.bJ (by grind [kv,jM.toW]),b,?_,?_,h.XH hx (a.toW sb),h.sn⟩
 .rcases h.na with h | ⟨r,c,es,d,e,f,g⟩
  .exact .inl h
  .exact .inr ⟨r,c,es,d,e,a.block _ _ f (by
    rintro (h | ⟨_,_,_,h⟩)<;>grind),g⟩
 .refine a.block _ _ h.fu ?_;rintro (h | ⟨_,_,_,h⟩)
  .exact hx.ne h
  .injection h with _ h _;exact hx.T1 h
def GX(h:lQ ρ n tr wb sb so T cs nm w s)(hx:x7 tr wb sb so T cs)(x:Bs)(a:s.out.length+x.length<=1000000000) :
  Calls baw 44 #[pp wb,aW x] w fun e w'=>(∃ v,e = ai v)/\lQ ρ n tr wb sb so T cs nm w' (s.add x)/\mW wb sb w w':=by
 refine(aJk h.bu x a).mono ?_;grind [lQ.wr,jM.toW]
def Nn(h:lQ ρ n tr wb sb so T cs nm w s)(hx:x7 tr wb sb so T cs)(c:UInt8)(a:s.out.length+1<=1000000000){z:Int}(b:z=c.toNat) :
  Calls baw 95 #[pp wb,.int .u8 z] w fun e w'=>(∃ v,e = ai v)/\lQ ρ n tr wb sb so T cs nm w' (s.add [c])/\mW wb sb w w':=by
 subst b;refine(aJl h.bu c a).mono ?_;grind [lQ.wr,jM.toW]
theorem lQ.ext(h:lQ ρ n tr wb sb so T cs nm w s)(a:Ext w w'):lQ ρ n tr wb sb so T cs nm w' s:=by
 refine⟨h.st.bJ (GU.ed a),?_,?_,a.ext _ _ h.fu,h.XF.ext a,h.sn⟩
 .obtain⟨f,buf,b,d,e⟩:=h.bu;exact⟨f,buf,b,a.ext _ _ d,jQ a.ext e⟩
 .rcases h.na with h | ⟨r,c,es,b,d,e,g⟩
  .exact .inl h
  .exact .inr ⟨r,c,es,b,d,a.ext _ _ e,g⟩
theorem sZ.other{c:Array Y}(h:sZ w wb S nm out)(j:sb≠wb)(k:w.heap[sb]?=aP c T)(l:T≠5)(o:Obj):sZ (bT w sb o) wb S nm out:=by
 obtain⟨b,buf,d,m,a⟩:=h;refine⟨b,buf,d,yH,a.1,?_⟩;rcases a.2 with a | ⟨g,cap,cur,e,f,n,i⟩
 .exact yH
 .refine .inr ⟨g,cap,cur,e,f,?_,i⟩;exact yH
def lQ.fuel(h:lQ ρ n tr wb sb so T cs nm w s)(hx:x7 tr wb sb so T cs)(f:Nat):lQ ρ n tr wb sb so T cs nm (bT w sb (ah (ky cs so f) T (0,0))) { s with fuel:=f }:=by
 have b:mW wb sb w (bT w sb (ah (ky cs so f) T (0,0))):=(bD.refl _ _).bT (.inl fun _=>.inr (.inl J));refine⟨h.st.bJ (h.kv hx b),?_,?_,qo J (bn h.fu),h.XH hx b,h.sn⟩
 .exact h.bu.other hx.ne h.fu hx.T1 _
 .rcases h.na with a | ⟨r,c,es,a,d,e,g⟩
  .exact .inl a
  .refine .inr ⟨r,c,es,a,d,?_,g⟩;rw[jh]
   .omega
   .rintro rfl;rw[h.fu] at e;grind
def Br(ρ:Nat->Nat)(n:Nat)(tr:Tr)(wb sb so T:Nat)(cs:Array Y)(w:Z)(B:Nat)(r:Option Ws)(e:Ending)(w':Z):Prop:=
 mW wb sb w w'/\match r with
 | some s'=>e = ai (aq #[])/\GW ρ n tr wb sb so T cs w' s'
 | none=>e=Nk/\w'.heap[sb]?=O (ah (ky cs so (-1)) T (0,0))/\∃ nm out,sZ w' wb (au (O ⟨sb,so,V⟩)) nm out/\out.length<=B
theorem aob(ρ:Nat->Nat):∀ (l:List Nat) (k:Nat),(Az ρ l k).length=l.length
 | [],_=>rfl
 | i::r,k=>by simp [Az,aob ρ r]
def aoc:∀ {es:List MapEntry} {l:List (Nat×Y)},EK l es->es.length=l.length
 | [],l,h=>by have h:l=[]:=h;grind
 | e::r,l,h=>by
  obtain⟨b,v,l',rfl,c,d,a⟩:=h;simp [aoc a]
theorem aod:∀ {es:List MapEntry} {l:List (Nat×Y)} {e:MapEntry} {b:Nat} {v:Y},EK l es->e.key=pp b->e.val=v->EK (l++[(b,v)]) (es++[e])
 | [],l,e,b,v,h,hk,hv=>by
  have h:l=[]:=h;subst h;exact⟨b,v,[],J,hk,hv,J⟩
 | e'::r,l,e,b,v,h,hk,hv=>by
  obtain⟨a,v',l',rfl,c,d,f⟩:=h;exact⟨a,v',l'++[(b,v)],J,c,d,aod f hk hv⟩
theorem aoe(ρ:Nat->Nat)(i:Nat):∀ (l:List Nat) (k:Nat),Az ρ (l++[i]) k=Az ρ l k++[(ρ i,zi ((k+l.length+1:Nat)))]
 | [],k=>rfl
 | j::r,k=>by
  show(_,_)::Az ρ (r++[i]) (k+1)=_;rw[aoe ρ i r (k+1)];grind [Az,List.length_cons]
def ad7{ρ:Nat->Nat}:∀ {l:List Nat} {k:Nat} {b:Nat} {v:Y},(b,v)∈Az ρ l k->∃ i∈l,b=ρ i
 | [],_,_,_,h=>by cases h
 | j::r,k,b,v,h=>by
  simp only[Az,a0N,a0X] at h;rcases h with⟨rfl,-⟩| h
  .grind
  .obtain⟨i,a,c⟩:=ad7 h;grind
def ad9{ρ:Nat->Nat}{n i:Nat}(inj:∀ a b,a<n->b<n->ρ a=ρ b->a=b)(c:i<n):∀ (l:List Nat) (k j:Nat),(∀ a∈l,a<n) ->
  Hz (ρ i) (Az ρ l k) j=(l.idxOf? i).map fun m=>(j+m,zi ((k+m+1:Nat)))
 | [],_,_,_=>rfl
 | a::r,k,j,h=>by
  have o:=h a (a0O ..);unfold Az Hz;rw[List.idxOf?_cons];by_cases e:a=i
  .grind
  .have d:¬ ρ i=ρ a:=zg;rw[bO d,ad9 inj c r (k+1) (j+1) fun a f=>h a (a1u _ f)];have g:(a == i)=false:=zg;rw[g];cases r.idxOf? i with
   | none=>rfl
   | some m=>
    grind
end
def aJw{P:Program}{t T:TypeId}{k e:TypeId}(ht:AS P t=O (k,e)){r:Nat}(a:w.heap[r]?=O (.map es c)) :
  RD P (Builtin.len_ #[t] T #[.map (O r)]) w K X=K (zi es.size):=by
 refine ig ?_;simp [Builtin.len_,run_underlying (Gb ht),Gc a,goInt]
section
variable{p0 p1 p2 p3 p4 p5 p6 p7:Y}{w:Z}{R:Ending->Z->Prop}
def aJx:=cz w R [p0] (gc [] [] []) func214
def aJy:=cz w R [p0,p1] (gc [(1,[13])] [] [14]) func208
def aJz:=cz w R [p0,p1,p2] (gc [] [] []) func217
def aJA:=cz w R [p0,p1,p2] (gc [(9,[29])] [] [6,16,20,22,30,36]) func221
def aJB:=cz w R [p0,p1,p2] (gc [] [] [6,10]) func216
def aJC:=cz w R [p0,p1,p2] (gd [(16,[94])] [(11000,[63]),(12001,[]),(13000,[88]),(14001,[])] [(13,22),(18,15)] [] [] [] [6,8,10,12,14,26,27,36,37,42,43,47,52,57,58,61,62,63,66,87,88,95,112,113]) func210
def aJD:=cz w R [p0,p1,p2] (gd [(10,[64])] [(5000,[33]),(6001,[]),(7000,[58]),(8001,[])] [(7,22),(12,15)] [] [] [] [6,8,10,22,27,28,31,32,33,36,57,58,65,82,83]) func218
def aJE:=cz w R [p0,p1,p2] (gc [] [(9001,[]),(13000,[43]),(14001,[7])] [9,10,14,15,19,20,25,28,39,41,42,43]) func222
def aJF:=cz w R [p0,p1] (gd [] [] [(11,9)] [(12,[21,0,1,2,3,4,5,6,7,8,9,10,12,13,14,15,16,17,18,11,19,20,21])] [] [] [13,17,21,33]) func219
def aJG:=cz w R [p0,p1] (gc [] [] [4,7,10,12,18,19,21,27,28,30]) func220
def aJH:=cz w R [p0,p1,p2] (gd [] [(18003,[64]),(21020,[])] [(5,7),(8,7),(12,7)] [(14,[11,0,1,2,3,4,5,6,7,8,9,10,11]),(22,[10,0,1,2,3,5,6,7,8,4,9,10,11])] [] [] [6,8,12,13,14,15,23,24,25,35,39,40,41,42,50,51,52,63,64,65,66,67,68,74,75,76,88,89,92,93,94,97,98,99,102,103,104,107,110]) func213
end
def lh(T:Nat):Prop:=T=91\/T=87\/T=130\/T=356\/T=116\/T=342\/T=20
def EM(D:Nat->Prop)(b:Nat)(o:Obj):Prop:=D b/\∃ cs T z,o = ah cs T z/\lh T
abbrev di(D:Nat->Prop)(w w':Z):Prop:=bD (EM D) w w'
theorem di.bJ(h:di D w w'){T:Nat}(c:¬ lh T)(a:w.heap[b]?=aP cs T):w'.heap[b]?=aP cs T:=by
 refine h.block _ _ a ?_;rintro ⟨_,cs',d,z,e,f⟩;grind
theorem di.toT(h:di D w w'):XE w w':=fun b cs t _ ht a=>h.bJ (by rcases ht with rfl | rfl<;>(unfold lh;decide)) a
theorem di.ed(h:Ext w w'):di D w w':=yF
def rp(ρ:Nat->Nat)(tr:Tr):List Y:=tr.reverse.map fun p=>pp (ρ p.1)
def aJI(ρ:Nat->Nat)(i:Nat)(t:Tm)(tr:Tr):rp ρ ((i,t)::tr)=rp ρ tr++[pp (ρ i)]:=by simp [rp]
@[simp] theorem aJJ(ρ:Nat->Nat)(tr:Tr):(rp ρ tr).length=tr.length:=by simp [rp]
structure vH(so T:Nat)(cs:Array Y):Prop where
 sz:so+2<=cs.size
 ty:T=130\/T=116
structure gV(D:Nat->Prop)(ρ:Nat->Nat)(n sb so T:Nat)(cs:Array Y)(tv:Y)(w:Z)(s:Sr):Prop where
 sv:D9 ρ n s.tr w
 dv:∀ i,i<n->D (ρ i)
 cell:w.heap[sb]?=aP (ky (cs.setIfInBounds so tv) so s.fuel) T
 row:w.ownsRow 0 87 1 tv s.tr.length (rp ρ s.tr)
 dr:∀ g,tv.ownBlock=O g->D g
 ds:D sb
 nd:(s.tr.map (·.1)).Nodup
 lt:∀ p∈s.tr,p.1<n
 ok:mh s.tr
section
variable{D:Nat->Prop}{ρ:Nat->Nat}{n sb so T:Nat}{cs:Array Y}{tv:Y}{w w':Z}{s:Sr}
theorem gV.ext(h:gV D ρ n sb so T cs tv w s)(a:Ext w w'):gV D ρ n sb so T cs tv w' s:=
 ⟨h.sv.bJ (GU.ed a),h.dv,a.ext _ _ h.cell,jQ a.ext h.row,h.dr,h.ds,h.nd,h.lt,h.ok⟩
theorem gV.XI(h:gV D ρ n sb so T cs tv w s){c:Array Y}{U:Nat}(b:w.heap[g]?=aP c U)(d:U≠87):tv.ownBlock≠O g:=by
 intro a;rcases h.row.2 with⟨rfl,-⟩| ⟨e,cap,cur,rfl,-,f,-⟩
 .cases a
 grind [Value.ownBlock,a0z]
def vH.mu(a:vH so T cs):lh T:=by grind [lh,ty]
theorem IK{size:Nat}{o:Obj}(h:w.ownsRow base e size v m xs)(a:v.ownBlock≠O g):(bT w g o).ownsRow base e size v m xs:=by
 refine⟨h.1,?_⟩;rcases h.2 with f | ⟨b,cap,cur,rfl,c,i,d⟩
 .exact yH
 .exact .inr ⟨b,cap,cur,J,c,by rw[jh (fun e=>a (by subst e;rfl))];omega,d⟩
def gV.cells(h:gV D ρ n sb so T cs tv w s)(d:vH so T cs){cs':Array Y}{f:Nat} :
  gV D ρ n sb so T cs' tv (bT w sb (ah (ky (cs'.setIfInBounds so tv) so f) T (0,0))) { s with fuel:=f }/\di D w (bT w sb (ah (ky (cs'.setIfInBounds so tv) so f) T (0,0))):=by
 have l:=bn h.cell;have g:T≠87/\T≠91/\T≠180/\T≠89:=by rcases d.ty with h | h<;>subst h<;>decide
 have i:di D w (bT w sb (ah (ky (cs'.setIfInBounds so tv) so f) T (0,0))):=⟨J,J,J,yH,fun b o a hm=>by
  by_cases e:b=sb
  .subst e;rw[h.cell] at a;exact absurd ⟨h.ds,_,_,_,(Option.some.inj a).symm,d.mu⟩ hm
  exact yH⟩
 have j:GU w (bT w sb (ah (ky (cs'.setIfInBounds so tv) so f) T (0,0))):=fun b c t ht a=>by
  rw[jh]
  .omega
  .rintro rfl;rw[h.cell] at a;grind
 exact⟨⟨h.sv.bJ j,h.dv,yH,IK h.row (h.XI h.cell g.1),h.dr,h.ds,h.nd,h.lt,h.ok⟩,i⟩
theorem gV.aJK(h:gV D ρ n sb so T cs tv w s)(a:vH so T cs)(b:s.fuel≠0) :
  gV D ρ n sb so T cs tv (bT w sb (ah (ky (cs.setIfInBounds so tv) so ((s.fuel:Int)-1)) T (0,0))) s.dec/\di D w (bT w sb (ah (ky (cs.setIfInBounds so tv) so ((s.fuel:Int)-1)) T (0,0))):=by
 have:=h.cells a (cs':=cs) (f:=s.fuel-1);rw[show((s.fuel-1:Nat):Int)=(s.fuel:Int)-1 by omega] at this;exact this
def gW:iM->Ending
 | .fault k=>.panicked [{ v:=ak 27 (.int .i64 k),recovered:=false }]
 | .y3=>Nk
def EPost(D:Nat->Prop)(w:Z){α:Type}(R:α->Ending->Z->Prop)(r:Except iM α)(e:Ending)(w':Z):Prop:=
 di D w w'/\match r with
  | .ok a=>R a e w'
  | .error t=>e=gW t
abbrev xj(D:Nat->Prop)(ρ:Nat->Nat)(n sb so T:Nat)(cs:Array Y)(p:Bool×Sr)(e:Ending)(w':Z):Prop:=
 e = ai (.bool p.1)/\∃ tv,gV D ρ n sb so T cs tv w' p.2
theorem EPost.of{α:Type}{R:α->Ending->Z->Prop}{r:Except iM α}{e:Ending}(h:EPost D w1 R r e w')(a:di D w w1):EPost D w R r e w':=⟨a.trans h.1,h.2⟩
def EPost.tail{α:Type}{R:α->Ending->Z->Prop}(b:∀ {a e w},R a e w->∃ v,e = ai v){r:Except iM α}{e:Ending}(h:EPost D w R r e w') :
  ends (fun x w'=>EPost D w R r (ai x) w') (PC (EPost D w R r)) e w':=by
 cases e with
 | returned v=>exact h
 | panicked c=>exact h
 | outgrown=>
  obtain⟨-,h⟩:=h;cases r with
  | ok a=>obtain⟨v,h⟩:=b h;cases h
  | error t=>cases t<;>cases h
def EPost.Tk{r:Except iM (Bool×Sr)}{e:Ending}(h:EPost D w (xj D ρ n sb so T cs) r e w') :
 ends (fun x w'=>EPost D w (xj D ρ n sb so T cs) r (ai x) w') (PC (EPost D w (xj D ρ n sb so T cs) r)) e w':=h.tail zg
def EPost.aJL{r:Except iM (Bool×Sr)}{e:Ending}(h:EPost D w (xj D ρ n sb so T cs) r e w') :
  ends (fun x w'=>EPost D w (xj D ρ n sb so T cs) r (ai x) w') (LQ (EPost D w (xj D ρ n sb so T cs) r)) e w':=by
 cases e with
 | returned v=>exact h
 | panicked c=>exact fun _=>h
 | outgrown=>
  obtain⟨-,h⟩:=h;cases r with
  | ok a=>obtain⟨h,-⟩:=h;cases h
  | error t=>cases t<;>cases h
def No(h:gV D ρ n sb so T cs tv w s)(a:vH so T cs)(f:s.fuel<=1000000000) :
  Calls baw 61 #[pq sb so] w fun e w'=>di D w w'/\(if s.fuel=0 then e=Nk else e = ai (aq #[])/\gV D ρ n sb so T cs tv w' s.dec):=by
 refine(an4 h.cell (by rw[Array.size_setIfInBounds];exact a.sz) zg).mono ?_;rintro e w1 ⟨he,rfl⟩;by_cases c:s.fuel=0
 .rw[zip zo] at he;rw[zip c];refine⟨?_,he⟩;exact⟨J,J,J,yH,fun b o d hm=>by
   by_cases e:b=sb
   .subst e;rw[h.cell] at d;exact absurd ⟨h.ds,_,_,_,(Option.some.inj d).symm,a.mu⟩ hm
   .rw[jh e];omega⟩
 .rw[bO zo] at he;rw[bO c];grind [gV.aJK]
end
def aJM{P:Program}{t bytes:Nat}(ht:P.underlying t=O (.slice e))(c:(P.info? e).map (fun i=>(i.zero,i.size,i.bytes))=O (O z,1,bytes))(f:z.cells.size=1)(g:bytes<=1000)
 (j:w.ownsRow base e 1 v n xs) {a:Y} (l:w.heap[b]?=aP #[a] e) (s:a.oneCell'=A)
  (x:n<=900000000) (o:base<=w.heap.size) {K:Y->Z->Prop}
  (h:∀ v' w',w'.ownsRow base e 1 v' (n+1) (xs++[a])->w.grownBy w' v.ownBlock->(v'.ownBlock=v.ownBlock\/∀ k,v'.ownBlock=O k->w.heap.size<=k)->K v' w') :
  WR P (Builtin.append_ #[t,t] pb #[v,cU b 1 m]) w K X:=by
 obtain⟨i,c,d⟩:=a02.1 c;simp only[a0X] at d;obtain⟨p,q,r⟩:=d;refine Sx.Dr (m:=1) (t:=t) (e:=e) ht c p q r f zo j l J (fun u hu=>?_) zo g o h;grind
def Tl(h:w.ownsRow base e 1 v n xs){t:Nat}(ht:t<n):∃ g c u,v = cU g n c/\w.heap[g]?=aP u e/\u[t]?=xs[t]?:=by
 rcases h.2 with⟨-,a⟩| ⟨g,cap,cur,rfl,b,d,f,i,j,k⟩<;>grind
theorem aJN(h:¬ cap=0):sliced (O ⟨b,0,V⟩) 0 pb cap n = cU b pb cap:=by
 grind [sliced,Addr.add]
