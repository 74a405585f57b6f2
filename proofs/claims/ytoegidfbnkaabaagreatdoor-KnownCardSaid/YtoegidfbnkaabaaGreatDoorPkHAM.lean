/- A part of one proof (PureU, PureTot, PureY, PureR, PureS, PureNx, PureZ, PureAk, PureVm). -/
import Derived.Test.YtoegidfbnkaabaaGreatDoorPkHAL
set_option linter.all false
set_option maxRecDepth 100000
set_option maxHeartbeats 8000000
open Option renaming some → O, none → V
open Bool renaming true → A, false → G
open Option.some renaming injEq → aZ9
open Nat renaming le_refl → a0d, le_trans → a0f, le_succ → a1i, le_add_right → a1q, sub_le → a1R
open List renaming mem_cons → a0n, replicate → a0P, suffix_refl → a16
open Prod.mk renaming injEq → a0y
open Bool renaming false_eq_true → a0K
open Except.ok renaming injEq → a1S
namespace Go.Proofs.YtoegidfbnkaabaaGreatDoor
variable{M d f i m n pb:Nat}{fQ:List Nat}
namespace P
structure aG6(f:Nat):Prop where
 tm:∀ {i:Nat} {t:Tm} {s:Sr} {p:Bool×Sr},yT f i t s=O (.ok p)->p.2.tr=s.tr/\p.2.fuel<=s.fuel
 EU:∀ {i:Nat} {l:List Tm} {s:Sr} {p:Bool×Sr},Am f i l s=O (.ok p)->p.2.tr=s.tr/\p.2.fuel<=s.fuel
def Io:∀ f,aG6 f
 | 0=>⟨fun h=>by simp_all [yT],fun h=>by simp_all [Am]⟩
 | f+1=>by
  have ih:=Io f;refine⟨fun{i t s p} h=>?_,fun{i l s p} h=>?_⟩
  .rw[yT] at h;split at h
   .grind
   .split at h
    .grind
    .injection h with h;injection h with h;subst h;exact⟨J,a1R _ _⟩
    .obtain⟨c,b⟩:=ih.EU h;exact⟨c,a0f b (a1R _ _)⟩
    .injection h with h;injection h with h;subst h;exact⟨J,a1R _ _⟩
  .cases l with
   | nil=>grind [Am]
   | cons a r=>
    rw[Am] at h;obtain⟨q,c,b⟩| ⟨e,c,b⟩:=Out.bind_some h
    .obtain⟨d,g⟩:=ih.tm c;split at b
     .grind
     .obtain⟨j,k⟩:=ih.EU b;grind
    grind
theorem acB{i:Nat}:∀ {tr:Tr},look i tr=V->i ∉ tr.map (·.1)
 | [],_=>zs
 | (j,t)::r,h=>by
  rw[look] at h;split at h
  .grind
  .rename_i a;simp only[List.map_cons,a0n,not_or];exact⟨a,acB h⟩
theorem Ip{tr:Tr}:∀ {f:Nat} {t:Tm} {i:Nat},fA tr f t=O (.var i)->look i tr=V
 | f,.atom a,i,h=>by simp_all [fA]
 | f,.int a,i,h=>by simp_all [fA]
 | f,.comp a l,i,h=>by simp_all [fA]
 | 0,.var j,i,h=>by
  grind [look,fA]
 | f+1,.var j,i,h=>by
  cases b:look j tr with
  | none=>simp_all [fA]
  | some t=>simp [fA,b] at h;exact Ip h
def Be:Tm->Bool
 | .comp _ _=>A
 | _=>G
def isVar:Tm->Bool
 | .var _=>A
 | _=>G
def Sr.cS(s:Sr):Nat:=s.tr.length+s.fuel
def aG7{t:Tm}{s:Sr}{p:Bool×Sr}(h:tz f i t s=O (.ok p)):p.2.cS<=s.cS+1/\p.2.fuel<=s.fuel:=by
 unfold tz at h;obtain⟨q,a,b⟩| ⟨e,a,b⟩:=Out.bind_some h
 .obtain⟨c,d⟩:=(Io f).tm a;grind [Sr.cS,Sr.bind,List.length_cons]
 grind
structure aG8(f:Nat):Prop where
 tm:∀ {a b:Tm} {s:Sr} {p:Bool×Sr},lH f a b s=O (.ok p)->p.2.cS<=s.cS/\p.2.fuel<=s.fuel
 EU:∀ {a b:List Tm} {s:Sr} {p:Bool×Sr},nh f a b s=O (.ok p)->p.2.cS<=s.cS/\p.2.fuel<=s.fuel
def EV:∀ f,aG8 f
 | 0=>⟨fun h=>by simp_all [lH],fun h=>by simp_all [nh]⟩
 | f+1=>by
  have ih:=EV f;have j:∀ {i:Nat} {t:Tm} {s:Sr} {p:Bool×Sr},s.fuel≠0->tz f i t s.dec=O (.ok p)->p.2.cS<=s.cS/\p.2.fuel<=s.fuel:=fun{i t s p} g h=>by
   obtain⟨d,c⟩:=aG7 h;grind [Sr.cS,Sr.dec]
  have hdec:∀ {s:Sr},s.dec.cS<=s.cS/\s.dec.fuel<=s.fuel:=fun{s}=>by simp_all [Sr.cS,Sr.dec]
  refine⟨fun{a b s p} h=>?_,fun{a b s p} h=>?_⟩
  .rw[lH] at h;split at h
   .grind
   .rename_i g;split at h
    .grind
    .grind
    .grind
    .split at h
     .obtain⟨d,c⟩:=ih.EU h;grind
     grind
    .grind
    grind
  .cases a with
   | nil=>rw[nh] at h<;>grind
   | cons a l=>
    cases b with
    | nil=>rw[nh] at h<;>grind
    | cons b r=>
     rw[nh] at h;obtain⟨q,d,c⟩| ⟨e,d,c⟩:=Out.bind_some h
     .obtain⟨k,m⟩:=ih.tm d;split at c
      .obtain⟨n,o⟩:=ih.EU c;omega
      grind
     grind
structure aG9(f:Nat):Prop where
 tm:∀ {a b:Tm} {s:Sr} {p:Bool×Sr},Cb f a b s=O (.ok p)->p.2.tr=s.tr/\p.2.fuel<=s.fuel
 EU:∀ {a b:List Tm} {s:Sr} {p:Bool×Sr},Bc f a b s=O (.ok p)->p.2.tr=s.tr/\p.2.fuel<=s.fuel
def SF:∀ f,aG9 f
 | 0=>⟨fun h=>by simp_all [Cb],fun h=>by simp_all [Bc]⟩
 | f+1=>by
  have ih:=SF f;have hdec:∀ {s:Sr},s.dec.tr=s.tr/\s.dec.fuel<=s.fuel:=fun{s}=>⟨J,a1R _ _⟩;refine⟨fun{a b s p} h=>?_,fun{a b s p} h=>?_⟩
  .rw[Cb] at h;split at h
   .grind
   .split at h
    .split at h
     .obtain⟨d,c⟩:=ih.EU h;grind
     grind
    .grind
    grind
  .cases a with
   | nil=>rw[Bc] at h<;>grind
   | cons a l=>
    cases b with
    | nil=>rw[Bc] at h<;>grind
    | cons b r=>
     rw[Bc] at h;obtain⟨q,d,c⟩| ⟨e,d,c⟩:=Out.bind_some h
     .obtain⟨g,i⟩:=ih.tm d;split at c
      .obtain⟨j,k⟩:=ih.EU c;grind
      grind
     grind
def Ki(z:Int):Prop:=-9223372036854775808<=z/\z<=9223372036854775807
theorem wrap64_in(z:Int):Ki (wrap64 z):=by grind [Ki,wrap64]
theorem aHa{a b:Int}(c:Ki a):Ki (a.tmod b):=by
 unfold Ki at *;have d:(a.tmod b).natAbs<=a.natAbs:=by
  simp_all [Int.natAbs_tmod,Nat.mod_le]
 by_cases e:0<=a
 .omega
 .have:a.tmod b<=0:=by
   have:=Int.tmod_nonneg (a:=-a) b zo;simp_all
  omega
def aHb{name:Bs}{a b z:Int}(c:Ki a)(h:reckon name a b = .ok z):Ki z:=by
 grind [reckon,wrap64_in,aHa]
theorem DC:∀ (f:Nat) {t:Tm} {s:Sr} {p:Int×Sr},mH s.tr->ef t->ue f t s=O (.ok p)->p.2.tr=s.tr/\p.2.fuel<=s.fuel/\Ki p.1
 | 0,_,_,_,_,_,h=>by simp_all [ue]
 | f+1,t,s,p,ht,d,h=>by
  rw[ue] at h;split at h
  .grind
  .split at h
   .grind
   .rename_i n hw;injection h with h;injection h with h;subst h;exact⟨J,a1R _ _,by have:=tj ht d hw;unfold ef at this;exact this⟩
   .grind
   .rename_i name a b hw;have g:=tj ht d hw;unfold ef at g;obtain⟨-,-,m⟩:=g;obtain⟨o,r⟩:=Im m;split at h
    .obtain⟨q,i,j⟩| ⟨e,i,j⟩:=Out.bind_some h
     .obtain⟨k,u,w⟩:=DC f (s:=s.dec) ht o i;obtain⟨q2,l,c⟩| ⟨e,l,c⟩:=Out.bind_some j
      .obtain⟨g1,g2,g3⟩:=DC f (s:=q.2) (by rw[k];exact ht) r l;split at c
       .grind
       .rename_i z x;injection c with c;injection c with c;subst c;exact⟨g1.trans k,a0f g2 (a0f u (a1R _ _)),aHb w x⟩
      grind
     grind
    grind
   grind
structure aHe(f:Nat):Prop where
 tm:∀ {a b:Tm} {s:Sr} {p:Bool×Sr},lH f a b s=O (.ok p)->s.tr <:+ p.2.tr
 EU:∀ {a b:List Tm} {s:Sr} {p:Bool×Sr},nh f a b s=O (.ok p)->s.tr <:+ p.2.tr
theorem acC{t:Tm}{s:Sr}{p:Bool×Sr}(h:tz f i t s=O (.ok p)):s.tr <:+ p.2.tr:=by
 unfold tz at h;obtain⟨q,b,a⟩| ⟨e,b,a⟩:=Out.bind_some h
 .have c:=((Io f).tm b).1;split at a
  .grind
  .injection a with a;injection a with a;subst a;rw[<- c];exact List.suffix_cons _ _
 grind
def MM:∀ f,aHe f
 | 0=>⟨fun h=>by simp_all [lH],fun h=>by simp_all [nh]⟩
 | f+1=>by
  have ih:=MM f;refine⟨fun{a b s p} h=>?_,fun{a b s p} h=>?_⟩
  .have i:s.dec.tr=s.tr:=rfl;rw[lH] at h;split at h
   .grind
   .split at h
    .grind [a16,acC]
    .grind [acC]
    .grind [acC]
    .split at h
     .exact(show s.dec.tr <:+ p.2.tr from ih.EU h)
     grind
    .grind
    grind
  .cases a with
   | nil=>grind [nh,a16]
   | cons a l=>
    cases b with
    | nil=>grind [nh,a16]
    | cons b r=>
     rw[nh] at h;obtain⟨q,d,c⟩| ⟨e,d,c⟩:=Out.bind_some h
     .have g:=ih.tm d;split at c
      .exact g.trans (ih.EU c)
      grind
     grind
inductive EW(tr:Tr)(i:Nat):Tm->Prop
 | here:look i tr=V->EW tr i (.var i)
 | via {j:Nat} {t:Tm}:look j tr=O t->EW tr i t->EW tr i (.var j)
 | arg {n:Bs} {l:List Tm} {a:Tm}:a∈l->EW tr i a->EW tr i (.comp n l)
def yV:Tr->Prop
 | []=>True
 | (i,t)::r=>yV r/\look i r=V/\¬ EW r i t
def yV.drop:∀ (k:Nat) {tr:Tr},yV tr->yV (tr.drop k)
 | 0,_,h=>h
 | _+1,[],h=>h
 | k+1,(_,_)::_,h=>yV.drop k h.1
def alS{tr:Tr}{i:Nat}:∀ {f:Nat} {t u:Tm},fA tr f t=O u->(EW tr i t↔EW tr i u)
 | f,.atom s,u,h=>by simp_all [fA]
 | f,.int s,u,h=>by simp_all [fA]
 | f,.comp s l,u,h=>by simp_all [fA]
 | 0,.var j,u,h=>by
  grind [fA]
 | f+1,.var j,u,h=>by
  rw[fA] at h;split at h
  .grind
  .rename_i t b;rw[<- alS h];constructor
   .intro a;cases a with
    | here c=>grind
    | via d e=>grind
   .exact fun a=>.via b a
def alT:∀ f,(∀ i t s s',yT f i t s=O (.ok (G,s'))->look i s.tr=V->¬ EW s.tr i t)/\(∀ i l s s',Am f i l s=O (.ok (G,s'))->look i s.tr=V->∀ t∈l,¬ EW s.tr i t)
 | 0=>⟨fun _ _ _ _ h=>(by cases h),fun _ _ _ _ h=>(by cases h)⟩
 | f+1=>by
  obtain⟨o,g⟩:=alT f;constructor
  .intro i t s s' h d;rw[yT] at h;split at h
   .grind
   .cases hw:fA s.tr f t with
    | none=>grind
    | some u=>
     rw[hw] at h;rw[alS hw];cases u with
     | atom a=>intro c;cases c
     | int a=>intro c;cases c
     | var j=>
      simp only[aZ9,a1S,a0y,decide_eq_false_iff_not] at h;intro c;cases c with
      | here q=>omega
      | via r c=>grind [Ip]
     | comp n l=>
      intro c;cases c with
      | arg k c=>exact g i l s.dec s' h d _ k c
  .intro i l s s' h d;cases l with
   | nil=>grind
   | cons a l=>
    rw[Am] at h;obtain⟨p,g1,g2⟩| ⟨e,g1,g2⟩:=Out.bind_some h
    .split at g2
     .grind
     .rename_i w;obtain⟨b,s1⟩:=p;have m:b=false:=zg;subst m;have ht:s1.tr=s.tr:=((Io f).tm g1).1;grind
    grind
theorem acD{t:Tm}{s:Sr}{p:Bool×Sr}(ht:yV s.tr)(d:look i s.tr=V)(h:tz f i t s=O (.ok p)):yV p.2.tr:=by
 unfold tz at h;obtain⟨q,a,c⟩| ⟨e,a,c⟩:=Out.bind_some h
 .obtain⟨b,s1⟩:=q;have g:s1.tr=s.tr:=((Io f).tm a).1;cases b with
  | true=>
   grind
  | false=>
   simp only[a0K,if_false,aZ9,a1S] at c;subst c;show yV ((i,t)::s1.tr);rw[g];exact⟨ht,d,(alT f).1 _ _ _ _ a d⟩
 grind
def alU:∀ f,(∀ a b s p,yV s.tr->lH f a b s=O (.ok p)->yV p.2.tr)/\(∀ l r s p,yV s.tr->nh f l r s=O (.ok p)->yV p.2.tr)
 | 0=>⟨fun _ _ _ _ _ h=>(by cases h),fun _ _ _ _ _ h=>(by cases h)⟩
 | f+1=>by
  obtain⟨d,g⟩:=alU f;constructor
  .intro a b s p ht h;rw[lH] at h;split at h
   .grind
   .cases hw:fA s.tr f a with
    | none=>grind
    | some u=>
     cases hv:fA s.tr f b with
     | none=>grind
     | some v=>
      rw[hw,hv] at h;have c:yV s.dec.tr:=ht;cases u with
      | var i=>
       have k:look i s.dec.tr=none:=Ip hw;grind [acD]
      | comp n l=>
       cases v with
       | var j=>exact acD c (Ip hv) h
       | comp m r=>
        grind
       | _=>injection h with h;injection h with h;subst h;exact ht
      | _=>
       cases v with
       | var j=>exact acD c (Ip hv) h
       | _=>injection h with h;injection h with h;subst h;exact ht
  .intro l r s p ht h;cases l with
   | nil=>grind [nh]
   | cons a l=>
    cases r with
    | nil=>grind [nh]
    | cons b r=>
     rw[nh] at h;obtain⟨q,g1,g2⟩| ⟨e,g1,g2⟩:=Out.bind_some h<;>grind
def Dfd{α:Type}(F:Nat->Option α):Prop:=∃ f r,F f=O r
def Mon{α:Type}(F:Nat->Option α):Prop:=∀ f,Le (F f) (F (f+1))
def aHg(a b:Tm)(s:Sr):Mon (fun f=>lH f a b s):=fun f=>(SE f).1 a b s
def aHh(n:Bs)(a:List Tm)(s:Sr):Mon (fun f=>xI f n a s):=fun f=>aG5
structure Goal where
 EX:Option Bd
 vars:List Nat
 cut:Nat
structure nY where
 mark:Nat
 todo:List Goal
 clauses:List Cl
 args:List Tm
structure Wk where
 n:Nat
 sr:Sr
 todo:List Goal
 br:List nY
def vg(f:Nat)(vars:List Nat):List Tm->List Ex->Sr->Out (Bool×Sr)
 | a::l,x::r,s=>Out.bind (lH f a (made vars x) s) fun p=>if p.1 then vg f vars l r p.2 else O (.ok (G,p.2))
 | _,_,s=>O (.ok (A,s))
def wo(br:List nY)(m:Nat):List Cl->List nY
 | []=>br.take m
 | c::r=>match br[m]? with
  | some a=>br.take m++[{ a with clauses:=c::r }]
  | none=>br.take m
def wq(f:Nat)(args:List Tm)(l:List Cl)(todo:List Goal)(m:Nat)(k:Wk):Out (Bool×Wk):=
 if k.sr.fuel=0 then O (.error .DB)
 else match l with
  | []=>V
  | c::rest=>
   Out.bind (vg f (List.range' k.n c.vars.length) args c.args k.sr.dec) fun p=>
    if p.1 then O (.ok (A,⟨k.n+c.vars.length,p.2,⟨O c.body,List.range' k.n c.vars.length,m⟩::todo,wo k.br m rest⟩))
    else O (.ok (G,⟨k.n+c.vars.length,p.2,k.todo,wo k.br m rest⟩))
def Kj(base:List Cl)(f:Nat)(name:Bs)(ex:List Ex)(vars:List Nat)(k:Wk):Out (Bool×Wk):=
 if jK name=ex.length then Out.bind (xI f name (mS vars ex) k.sr) fun p=>O (.ok (p.1,{ k with sr:=p.2 }))
 else match base.filter fun c=>c.name == name && c.args.length == ex.length with
  | []=>O (.error (.fault 10))
  | l=>wq f (mS vars ex) l k.todo k.br.length { k with br:=k.br++[⟨k.sr.tr.length,k.todo,l,mS vars ex⟩] }
def Wk.WA(k:Wk)(todo:List Goal):Wk:={ k with br:=k.br++[⟨k.sr.tr.length,todo,[],[]⟩] }
def DD(base:List Cl)(f:Nat)(g:Goal)(k:Wk):Out (Bool×Wk):=
 if k.sr.fuel=0 then O (.error .DB)
 else
  let k:={ k with sr:=k.sr.dec }
  match g.EX with
  | none=>O (.ok (A,{ k with br:=k.br.take g.cut }))
  | some (.mk kind name args parts)=>
   if kind=33 then O (.ok (A,{ k with br:=k.br.take g.cut }))
   else if kind=44 then O (.ok (A,{ k with todo:=(parts.map fun p=>⟨O p,g.vars,g.cut⟩)++k.todo }))
   else if kind=59 then match parts with
    | [a,b]=>O (.ok (A,{ k.WA (⟨O b,g.vars,g.cut⟩::k.todo) with todo:=⟨O a,g.vars,g.cut⟩::k.todo }))
    | _=>V
   else if kind=63 then match parts with
    | [a,b,c]=>O (.ok (A,{ k.WA (⟨O c,g.vars,g.cut⟩::k.todo) with todo:=⟨O a,g.vars,k.br.length⟩::⟨V,[],k.br.length⟩::⟨O b,g.vars,g.cut⟩::k.todo }))
    | _=>V
   else if kind=126 then match parts with
    | [a]=>O (.ok (A,{ k.WA k.todo with todo:=[⟨O a,g.vars,k.br.length⟩,⟨V,[],k.br.length⟩,⟨O zJ,[],0⟩] }))
    | _=>V
   else Kj base f name args g.vars k
def kO(base:List Cl)(d:Nat):Nat->Bool->Wk->Out (Bool×Wk)
 | 0,_,_=>V
 | f+1,A,k=>match k.todo with
  | []=>O (.ok (A,{ k with todo:=[⟨O zJ,[],0⟩] }))
  | g::r=>Out.bind (DD base d g { k with todo:=r }) fun p=>kO base d f p.1 p.2
 | f+1,G,k=>match k.br.getLast? with
  | none=>O (.ok (G,k))
  | some a=>match a.clauses with
   | []=>kO base d f A { k with sr:=k.sr.iF a.mark,todo:=a.todo,br:=k.br.dropLast }
   | c::l=>Out.bind (wq d a.args (c::l) a.todo (k.br.length-1) { k with sr:=k.sr.iF a.mark }) fun p=>kO base d f p.1 p.2
def MN(tr:Tr)(f:Nat):List Bs->List Tm->Ws->Option (Option Ws)
 | nm::l,t::r,s=>
  if nm.head?=O 95 then MN tr f l r s
  else Wb (ku tr f t 0 ((if s.out=[] then s else s.add [44,32]).add (nm++[32,61,32]))) fun s=>MN tr f l r s
 | _,_,s=>O (O s)
structure Qw where
 err:Nat
 wk:Wk
def Qw.new(b:Bd)(nv:Nat):Qw:=⟨0,nv,⟨[],0⟩,[⟨O b,List.range nv,0⟩],[]⟩
structure yW(M:Nat)(c:Cl):Prop where
 body:eV c.vars.length M c.body
 args:eZ c.vars.length c.args
 ql:c.args.length<=4
 sz:ft c.args<=M
 vars:c.vars.length<=M
def ni(M n:Nat):Nat->List Goal->Prop
 | _,[]=>True
 | h,g::r=>g.cut<=h/\(∀ i∈g.vars,i<n)/\(∀ b,g.EX=O b->eV g.vars.length M b)/\ni M n g.cut r
theorem ni.up{M n:Nat}:∀ {l:List Goal} {h a:Nat},ni M n h l->h<=a->ni M n a l
 | [],_,_,_,_=>trivial
 | _::_,_,_,b,c=>⟨a0f b.1 c,b.2⟩
def ni.more{M n b:Nat}(c:n<=b):∀ {l:List Goal} {h:Nat},ni M n h l->ni M b h l
 | [],_,_=>trivial
 | _::_,_,a=>⟨a.1,fun i d=>Nat.lt_of_lt_of_le (a.2.1 i d) c,a.2.2.1,a.2.2.2.more c⟩
structure Kk(M n i:Nat)(a:nY):Prop where
 todo:ni M n i a.todo
 args:ji a.args
 ql:a.args.length<=4
 cls:∀ c∈a.clauses,yW M c/\c.args.length=a.args.length
structure aHj(M:Nat)(k:Wk):Prop where
 todo:ni M k.n k.br.length k.todo
 ag:∀ (i:Nat) (a:nY),k.br[i]?=O a->Kk M k.n i a
 marks:∀ (i:Nat) (a:nY),k.br[i]?=O a->a.mark<=k.sr.tr.length
 mono:∀ (i j:Nat) (a b:nY),i<=j->k.br[i]?=O a->k.br[j]?=O b->a.mark<=b.mark
section
def alW{f:Nat}{vs:List Nat}:∀ {l:List Tm} {r:List Ex} {s:Sr} {p:Bool×Sr},vg f vs l r s=O (.ok p)->s.tr <:+ p.2.tr/\p.2.fuel<=s.fuel/\p.2.cS<=s.cS
 | [],r,s,p,h=>by rw[vg] at h<;>grind
 | a::l,[],s,p,h=>by rw[vg] at h<;>grind
 | a::l,x::r,s,p,h=>by
  rw[vg] at h;obtain⟨q,b,c⟩| ⟨e,b,c⟩:=Out.bind_some h
  .obtain⟨d,g⟩:=(EV f).tm b;have i:=(MM f).tm b;split at c
   .obtain⟨g1,g2,g3⟩:=alW c;grind
   grind
  grind
def aHk{s:Sr}{t:Tr}(h:t <:+ s.tr)(a:n=t.length):(s.iF n).tr=t:=by
 obtain⟨u,h⟩:=h;subst a;unfold Sr.iF;simp only;rw[<- h];simp
def alX{name:Bs}{args:List Tm}{s:Sr}{p:Bool×Sr}(ht:mH s.tr)(l:∀ t∈args,ef t)(i:jK name=args.length)(h:xI f name args s=O (.ok p)):s.tr <:+ p.2.tr/\p.2.fuel<=s.fuel/\p.2.cS<=s.cS:=by
 have k:∀ j,j<args.length->ef (args.getD j default):=fun j m=>by
  grind
 have cS:∀ {s':Sr},s'.tr=s.tr->s'.fuel<=s.fuel->s'.cS<=s.cS:=fun b a=>by simp_all [Sr.cS]
 unfold xI at h;split at h
 .grind
 split at h
 .exact⟨(MM f).tm h,((EV f).tm h).2,((EV f).tm h).1⟩
 split at h
 .obtain⟨q,b,a⟩| ⟨e,b,a⟩:=Out.bind_some h
  .injection a with a;injection a with a;subst a;have d:=(MM f).tm b;have c:=((EV f).tm b).2;have g:=aHk d J;exact⟨zg,c,cS g c⟩
  grind
 split at h
 .obtain⟨b,a⟩:=(SF f).tm h;grind
 split at h
 .obtain⟨q,b,a⟩| ⟨e,b,a⟩:=Out.bind_some h
  .obtain⟨g1,g2,-⟩:=DC f ht (k 1 (by have n:(2:Int)=args.length:=(by subst_vars;exact i);omega)) b;have d:=(MM f).tm a;obtain⟨c,g⟩:=(EV f).tm a;grind
  grind
 split at h
 .grind
 split at h
 .grind
 .obtain⟨q,b,a⟩| ⟨e,b,a⟩:=Out.bind_some h
  .obtain⟨q2,d,c⟩| ⟨e,d,c⟩:=Out.bind_some a
   .grind [jK,DC,a16]
   grind
  grind
def WB{br:List nY}{rest:List Cl}{a:nY}(h:(wo br m rest)[i]?=O a):∃ b,br[i]?=O b/\i<=m/\a.mark=b.mark/\a.todo=b.todo/\a.args=b.args/\(a.clauses=b.clauses\/(i=m/\a.clauses=rest))/\(i=m->rest≠[]):=by
 cases rest with
 | nil=>
  grind [wo]
 | cons c r=>
  grind [wo]
def aHl{br:List nY}{rest:List Cl}(hm:m<=br.length)(a:rest≠[]->m<br.length):(wo br m rest).length=if rest=[] then m else m+1:=by
 cases rest with
 | nil=>rw[wo,List.length_take,zip rfl];omega
 | cons c r=>
  simp_all [wo,List.getElem?_eq_getElem,bX,List.length_append,List.length_take,List.length_cons,List.length_nil]
structure lN(M B:Nat)(k:Wk):Prop extends aHj M k where
 cS:k.sr.cS<=B
 nj:k.br.length+k.sr.fuel<=B
variable{B:Nat}
def Kk.more{M n b i:Nat}{a:nY}(h:Kk M n i a)(c:n<=b):Kk M b i a:=⟨h.todo.more c,h.args,h.ql,h.cls⟩
def alY{args:List Tm}{l:List Cl}{td:List Goal}{k k':Wk}{b:Bool}(hk:lN M B k)(hm:m<=k.br.length)(y:1<l.length->m<k.br.length)(R:m<k.br.length\/True)(F:ni M k.n m td)
  (H:∀ c∈l,yW M c) (S:∀ a,k.br[m]?=O a->∀ c∈l,c.args.length=a.args.length) (h:wq f args l td m k=O (.ok (b,k'))):lN M B { k' with todo:=if b then k'.todo else [] }/\k.n<=k'.n/\k'.sr.fuel<k.sr.fuel:=by
 unfold wq at h;split at h
 .grind
 rename_i T;cases l with
 | nil=>grind
 | cons c rest=>
 simp only at h;obtain⟨p,z,d⟩| ⟨e,z,d⟩:=Out.bind_some h
 .obtain⟨g1,g2,g3⟩:=alW z;have gf:k.sr.dec.fuel=k.sr.fuel-1:=rfl;have gt:k.sr.dec.tr=k.sr.tr:=rfl;have gp:k.sr.dec.cS<=k.sr.cS:=by simp_all [Sr.cS]
  have hlen:=aHl (rest:=rest) hm (fun hr=>y (by cases rest with | nil=>grind | cons _ _=>simp));have I:(wo k.br m rest).length<=k.br.length/\m<=(wo k.br m rest).length:=by
   rw[hlen];split
   .omega
   .rename_i hr;have:=y (by cases rest with | nil=>grind | cons _ _=>simp);omega
  have C:∀ (i:Nat) (a:nY),(wo k.br m rest)[i]?=O a->Kk M (k.n+c.vars.length) i a:=fun i a g=>by
   obtain⟨b,r,U,q,s,t,u,-⟩:=WB g;have o:=(hk.ag i b r).more (a1q k.n c.vars.length);refine⟨by rw[s];exact o.todo,by rw[t];exact o.args,by rw[t];exact o.ql,fun x hx=>?_⟩;rcases u with u | ⟨rfl,u⟩
   .rw[t];exact o.cls x zg
   grind
  have D:∀ (i:Nat) (a:nY),(wo k.br m rest)[i]?=O a->a.mark<=p.2.tr.length:=fun i a g=>by
   obtain⟨b,r,-,q,-⟩:=WB g;rw[q];have:=hk.marks i b r;grind
  have E:∀ (i j:Nat) (a b:nY),i<=j->(wo k.br m rest)[i]?=O a->(wo k.br m rest)[j]?=O b->a.mark<=b.mark:=fun i j a b K g L=>by
   obtain⟨a',N,-,q,-⟩:=WB g;obtain⟨P,o,-,s,-⟩:=WB L;rw[q,s];exact hk.mono i j a' P K N o
  have Q:=H c (List.mem_cons_self ..);have W:=hk.cS;have X:=hk.nj;split at d
  .injection d with d;injection d with d;injection d with d w;subst d w;refine⟨⟨⟨⟨I.2,fun i g=>?_,fun x hx=>?_,F.more (a1q _ _)⟩,C,D,E⟩,zg,zg⟩,a1q _ _,zg⟩
   .grind
   .injection hx with hx;subst hx;rw[List.length_range'];exact Q.body
  .injection d with d;injection d with d;injection d with d w;subst d w;exact⟨⟨⟨trivial,C,D,E⟩,zg,zg⟩,a1q _ _,zg⟩
 grind
theorem acE:∀ {l:List Tm} {t:Tm},ji l->t∈l->ef t
 | [],_,_,h=>zg
 | a::l,t,h,ht=>by
  unfold ji at h;rcases a0n.1 ht with rfl | ht
  .grind
  .exact acE h.2 ht
def lN.more{k:Wk}(hk:lN M B k){a:nY}{s:Sr}(f:s.tr=k.sr.tr)(q:s.fuel<k.sr.fuel)(hm:a.mark=k.sr.tr.length)(r:Kk M k.n k.br.length a){td:List Goal}(t:ni M k.n (k.br.length+1) td) :
  lN M B { k with sr:=s,todo:=td,br:=k.br++[a] }:=by
 have u:(k.br++[a]).length=k.br.length+1:=zs;have d:∀ (i:Nat) (b:nY),(k.br++[a])[i]?=O b->(i<k.br.length/\k.br[i]?=O b)\/(i=k.br.length/\b=a):=fun i b h=>by
  grind
 have w:=hk.cS;have x:=hk.nj;refine⟨⟨zg,fun i b h=>?_,fun i b h=>?_,fun i j b c g l m=>?_⟩,?_,?_⟩
 .rcases d i b h with⟨_,h⟩| ⟨rfl,rfl⟩
  .exact hk.ag i b h
  omega
 .show b.mark<=s.tr.length;rw[f];rcases d i b h with⟨_,h⟩| ⟨rfl,rfl⟩
  .exact hk.marks i b h
  omega
 .rcases d i b l with⟨_,e⟩| ⟨y,z⟩
  .rcases d j c m with⟨_,o⟩| ⟨C,p⟩
   .exact hk.mono i j b c g e o
   .rw[p,hm];exact hk.marks i b e
  grind
 .grind [Sr.cS]
 grind
def lN.cut{k:Wk}(hk:lN M B k){s:Sr}(e:k.sr.tr <:+ s.tr)(o:s.fuel<=k.sr.fuel)(p:s.cS<=k.sr.cS+1)(q:s.fuel<k.sr.fuel\/s.cS<=k.sr.cS)(d:s.cS<=B){td:List Goal}(hm:m<=k.br.length)(r:ni M k.n m td) :
  lN M B { k with sr:=s,todo:=td,br:=k.br.take m }:=by
 have t:(k.br.take m).length=m:=zg;have a:∀ (i:Nat) (b:nY),(k.br.take m)[i]?=O b->k.br[i]?=O b:=fun i b h=>by
  grind
 have u:=hk.nj;refine⟨⟨zg,fun i b h=>hk.ag i b (a i b h),fun i b h=>a0f (hk.marks i b (a i b h)) e.length_le,fun i j b c f g l=>hk.mono i j b c f (a i b g) (a j c l)⟩,d,?_⟩;grind
theorem ni.map{M n h:Nat}{vs:List Nat}(hv:∀ i∈vs,i<n):∀ {parts:List Bd} {r:List Goal},eW vs.length M parts->ni M n h r->ni M n h ((parts.map fun p=>⟨O p,vs,h⟩)++r)
 | [],_,_,hr=>hr
 | p::ps,r,a,hr=>by
  unfold eW at a;exact⟨a0d _,hv,fun b c=>zg,ni.map hv a.2 hr⟩
def al0{base:List Cl}{g:Goal}{r:List Goal}{k k':Wk}{b:Bool}(hk:lN M B { k with todo:=g::r })(X:mH k.sr.tr)(gT:∀ c∈base,yW M c)(h:DD base f g { k with todo:=r }=O (.ok (b,k'))) :
  lN M B { k' with todo:=if b then k'.todo else [] }/\k.n<=k'.n/\k'.sr.fuel<k.sr.fuel:=by
 obtain⟨hcut,N,P,hr⟩:=(hk.todo:ni M k.n k.br.length (g::r));have hcut:g.cut<=k.br.length:=hcut;have z:k.sr.cS<=B:=hk.cS;have MO:k.br.length+k.sr.fuel<=B:=hk.nj;unfold DD at h;split at h
 .grind
 rename_i F;have F:¬ k.sr.fuel=0:=F;have gf:k.sr.dec.fuel=k.sr.fuel-1:=rfl;have gt:k.sr.dec.tr=k.sr.tr:=rfl;have gp:k.sr.dec.cS<=k.sr.cS:=by simp_all [Sr.cS]
 have Q:lN M B { k with todo:=[],sr:=k.sr.dec }:=⟨⟨trivial,hk.ag,hk.marks,hk.mono⟩,a0f gp z,zg⟩;have R:∀ td,ni M k.n g.cut td->lN M B { k with sr:=k.sr.dec,todo:=td,br:=k.br.take g.cut }:=fun td d=>
  Q.cut (a16 _) (a0d _) (a1i _) (.inr (a0d _)) (a0f gp z) hcut d
 have s:k.sr.dec.fuel<k.sr.fuel:=zo;have w:∀ (a:nY) (td:List Goal),a.mark=k.sr.tr.length->Kk M k.n k.br.length a->ni M k.n (k.br.length+1) td->lN M B { k with sr:=k.sr.dec,todo:=td,br:=k.br++[a] }:=fun a td hm S d=>
  lN.more (k:={ k with todo:=g::r }) hk gt s hm S d
 have x:ni M k.n k.br.length r:=hr.up hcut;have y:∀ {td:List Goal},ni M k.n g.cut td->ni M k.n k.br.length td:=fun h=>h.up hcut;cases H:g.EX with
 | none=>
  grind
 | some bd=>
  obtain⟨kind,name,args,parts⟩:=bd;rw[H] at h;simp only at h;have eX:=P _ H;unfold eV at eX;obtain⟨my,nA,⟨O4,O5,O6⟩,Gv,T,jc,jY,j⟩:=eX;split at h
  .grind
  split at h
  .simp only[aZ9,a1S,a0y] at h;obtain⟨rfl,rfl⟩:=h;refine⟨⟨⟨?_,hk.ag,hk.marks,hk.mono⟩,a0f gp z,zg⟩,a0d _,s⟩;grind [ni.map]
  have one:∀ {p:Bd},eV g.vars.length M p->∀ {o:Nat} {td:List Goal},ni M k.n o td->ni M k.n o (⟨O p,g.vars,o⟩::td):=fun hp=>fun d=>⟨a0d _,N,fun b C=>zg,d⟩;have u:∀ {o:Nat} {td:List Goal},ni M k.n o td->ni M k.n o (⟨V,[],o⟩::td):=fun d=>⟨a0d _,(fun i D=>zg),(fun b C=>zg),d⟩;have q:∀ {td:List Goal},ni M k.n k.br.length td->Kk M k.n k.br.length ⟨k.sr.tr.length,td,[],[]⟩:=fun d=>⟨d,(by simp_all [ji]),zs,(fun c U=>zg)⟩;split at h
  .split at h
   .rename_i I pb;unfold eW eW eW at j;simp only[aZ9,a1S,a0y] at h;obtain⟨rfl,rfl⟩:=h;exact⟨w _ _ J (q (y (one j.2.1 hr))) ((y (one j.1 hr)).up (a1i _)),a0d _,s⟩
   grind
  split at h
  .split at h
   .rename_i I pb pc;unfold eW eW eW eW at j;simp only[aZ9,a1S,a0y] at h;obtain⟨rfl,rfl⟩:=h;exact⟨w _ _ J (q (y (one j.2.2.1 hr))) ((one j.1 (u (y (one j.2.1 hr)))).up (a1i _)),a0d _,s⟩
   grind
  split at h
  .split at h
   .rename_i I;unfold eW eW at j;simp only[aZ9,a1S,a0y] at h;obtain⟨rfl,rfl⟩:=h;refine⟨w _ _ J (q x) ((one j.1 (u (show ni M k.n k.br.length [⟨O zJ,[],0⟩] from⟨Nat.zero_le _,(fun i D=>zg),(fun b C=>by grind [acr]),trivial⟩))).up (a1i _)),a0d _,s⟩
   grind
  .unfold Kj at h;have K:=Ke g.vars args T;split at h
   .rename_i ht;obtain⟨p,L,m⟩| ⟨e,L,m⟩:=Out.bind_some h
    .injection m with m;injection m with m;injection m with m W;subst m W;obtain⟨E,e2,e3⟩:=alX zg (fun t ht=>acE K.1 ht) zo L;have E:k.sr.tr <:+ p.2.tr:=E;refine⟨⟨⟨?_,hk.ag,fun i a D=>a0f (hk.marks i a D) E.length_le,hk.mono⟩,zg,zg⟩,a0d _,zg⟩;split
     .omega
     .trivial
    grind
   .split at h
    .grind
    .rename_i l dZ;have C:=alY (k:={ k with sr:=k.sr.dec,todo:=r,br:=k.br++[⟨k.sr.dec.tr.length,r,base.filter (fun c=>c.name == name && c.args.length == args.length),mS g.vars args⟩] }) (M:=M) (B:=B) ?_ ?_ ?_ (.inr trivial) x ?_ ?_ h
     .grind
     .refine w _ _ J ⟨x,K.1,zg,fun c U=>?_⟩ (x.up (a1i _));grind
     .grind
     .grind
     .grind
     grind
theorem lN.iF{M:Nat}{k:Wk}(hk:lN M B { k with todo:=[] }){a:nY}(j:k.br.getLast?=O a) :
  lN M B { k with sr:=k.sr.iF a.mark,todo:=[] }/\k.br[k.br.length-1]?=O a/\a.mark<=k.sr.tr.length/\(k.sr.iF a.mark).fuel=k.sr.fuel:=by
 have c:k.br[k.br.length-1]?=O a:=zg;have g:a.mark<=k.sr.tr.length:=hk.marks _ _ c;have d:(k.sr.iF a.mark).tr.length=a.mark:=by
  grind [Sr.iF,List.length_drop]
 have e:=hk.cS;have h:=hk.nj;refine⟨⟨⟨trivial,hk.ag,fun i b f=>?_,hk.mono⟩,?_,h⟩,c,g,J⟩
 .show b.mark<=(k.sr.iF a.mark).tr.length;rw[d];have:=(List.getElem?_eq_some_iff.1 f).1;exact hk.mono i _ b a zg f c
 .show(k.sr.iF a.mark).cS<=_;have e:k.sr.tr.length+k.sr.fuel<=B:=e;unfold Sr.cS;rw[d];show a.mark+k.sr.fuel<=_;omega
def lN.back{k:Wk}(hk:lN M B { k with todo:=[] }){a:nY}(c:k.br.getLast?=O a):lN M B { k with sr:=k.sr.iF a.mark,todo:=a.todo,br:=k.br.dropLast }:=by
 obtain⟨b,d,e,f⟩:=hk.iF c;have g:=b.cut (m:=k.br.length-1) (a16 _) (a0d _) (a1i _) (.inr (a0d _)) b.cS (a1R _ _) (b.ag _ _ d).todo;simp_all [List.dropLast_eq_take]
def lN.again{k k':Wk}(hk:lN M B { k with todo:=[] }){a:nY}(o:k.br.getLast?=O a){b:Bool}(h:wq d a.args a.clauses a.todo (k.br.length-1) { k with sr:=k.sr.iF a.mark }=O (.ok (b,k'))) :
  lN M B { k' with todo:=if b then k'.todo else [] }/\k.n<=k'.n/\k'.sr.fuel<k.sr.fuel:=by
 obtain⟨l,m,t,u⟩:=hk.iF o;have g:=l.ag _ _ m;have i:wq d a.args a.clauses a.todo (k.br.length-1) { k with sr:=k.sr.iF a.mark,todo:=[] }=O (.ok (b,{ k' with todo:=if b then k'.todo else [] })):=by
  unfold wq at h ⊢;simp only at h ⊢;split at h
  .grind
  .rename_i q;rw[bX q]
   revert h
   split
   .grind
   .intro h;obtain⟨p,r,s⟩| ⟨e,r,s⟩:=Out.bind_some h
    .grind [Out.eh]
    grind
 have:=alY l (a1R _ _) (fun _=>zg) (.inr trivial) g.todo (fun c j=>(g.cls c j).1) (fun b f c j=>by
  have f:k.br[k.br.length-1]?=O b:=f;rw[m] at f;injection f with f;subst f;exact(g.cls c j).2) i
 grind
end
section
variable{B:Nat}
structure WFu(tr:Tr)(f:Nat):Prop where
 tm:∀ t l s r,ku tr f t l s=O (O r)->r.fuel<s.fuel
 comp:∀ n a l s r,yR tr f n a l s=O (O r)->r.fuel<=s.fuel
 args:∀ c a s r,py tr f c a s=O (O r)->r.fuel<=s.fuel
 list:∀ c a b s r,vf tr f c a b s=O (O r)->r.fuel<s.fuel
section
variable{tr:Tr}(ht:yV tr){n:Nat}(ih:∀ s:Ws,s.fuel<n->∀ t l,Dfd (fun f=>ku tr f t l s))
include ih
end
theorem aHn{t:Tm}{s:Sr}{p:Bool×Sr}(hk:mH s.tr)(ht:ef t)(h:tz f i t s=O (.ok p)):mH p.2.tr:=by
 unfold tz at h;obtain⟨q,c,a⟩| ⟨e,c,a⟩:=Out.bind_some h
 .obtain⟨b,s1⟩:=q;have d:s1.tr=s.tr:=((Io f).tm c).1;cases b with
  | true=>
   grind
  | false=>
   simp only[a0K,if_false,aZ9,a1S] at a;subst a;show mH ((i,t)::s1.tr);rw[d];exact⟨ht,hk⟩
 grind
def al2:ef (.var i):=by simp_all [ef]
def al3:∀ f,(∀ a b s p,mH s.tr->ef a->ef b->lH f a b s=O (.ok p)->mH p.2.tr)/\(∀ l r s p,mH s.tr->ji l->ji r->nh f l r s=O (.ok p)->mH p.2.tr)
 | 0=>⟨fun _ _ _ _ _ _ _ h=>(by cases h),fun _ _ _ _ _ _ _ h=>(by cases h)⟩
 | f+1=>by
  obtain⟨i,j⟩:=al3 f;constructor
  .intro a b s p ht c d h;rw[lH] at h;split at h
   .grind
   .cases hw:fA s.tr f a with
    | none=>grind
    | some u=>
     cases hv:fA s.tr f b with
     | none=>grind
     | some v=>
      rw[hw,hv] at h;have k:mH s.dec.tr:=ht;have hu:=tj ht c hw;have m:=tj ht d hv;grind [aHn,ef]
  .intro l r s p ht g hr h;cases l with
   | nil=>grind [nh]
   | cons a l=>
    cases r with
    | nil=>grind [nh]
    | cons b r=>
     unfold ji at g hr;rw[nh] at h;obtain⟨q,g1,g2⟩| ⟨e,g1,g2⟩:=Out.bind_some h<;>grind
structure lB(s:Sr):Prop where
 E1:yV s.tr
 ok:mH s.tr
theorem lB.iF{s:Sr}(h:lB s)(m:Nat):lB (s.iF m):=⟨h.E1.drop _,P.mH.al4 _ h.ok⟩
where
 P.mH.al4:∀ (k:Nat) {tr:Tr},mH tr->mH (tr.drop k)
  | 0,_,h=>h
  | _+1,[],h=>h
  | k+1,(_,_)::_,h=>P.mH.al4 k h.2
theorem lB.Gw{a b:Tm}{s:Sr}{p:Bool×Sr}(h:lB s)(c:ef a)(d:ef b)(hr:lH f a b s=O (.ok p)):lB p.2:=⟨(alU f).1 _ _ _ _ h.E1 hr,(al3 f).1 _ _ _ _ h.ok c d hr⟩
theorem lB.test{name:Bs}{args:List Tm}{s:Sr}{p:Bool×Sr}(g:lB s)(l:∀ t∈args,ef t)(m:jK name=args.length)(h:xI f name args s=O (.ok p)):lB p.2:=by
 have d:∀ j,j<args.length->ef (args.getD j default):=fun j n=>by
  grind
 have two:∀ x∈([[61],[92,61],[61,61],[105,115],[60],[62],[61,60],[62,61],[61,58,61]]:List Bs),name=x->1<args.length:=fun x hx e=>by
  subst e;have:jK name=2:=by
   simp only[a0n,List.not_mem_nil,or_false] at hx;rcases hx with rfl | rfl | rfl | rfl | rfl | rfl | rfl | rfl | rfl<;>rfl
  omega
 have tr:∀ {q:Sr},q.tr=s.tr->lB q:=fun e=>⟨by grind [E1],by grind [ok]⟩;unfold xI at h;split at h
 .grind
 split at h
 .grind [Gw]
 split at h
 .rename_i c;have:=two [92,61] zs c;obtain⟨q,b,a⟩| ⟨e,b,a⟩:=Out.bind_some h
  .grind [iF,Gw]
  grind
 split at h
 .exact tr ((SF f).tm h).1
 split at h
 .rename_i c;have:=two [105,115] zs c;obtain⟨q,b,a⟩| ⟨e,b,a⟩:=Out.bind_some h
  .obtain⟨g1,g2,g3⟩:=DC f g.ok (d 1 this) b;refine(tr g1).Gw (d 0 zo) (by unfold ef;exact g3) a
  grind
 split at h
 .grind
 split at h
 .grind
 .obtain⟨q,b,a⟩| ⟨e,b,a⟩:=Out.bind_some h
  .obtain⟨q2,i,k⟩| ⟨e,i,k⟩:=Out.bind_some a
   .grind [jK,DC,ok]
   grind
  grind
theorem lB.head{f:Nat}{vs:List Nat}:∀ {l:List Tm} {r:List Ex} {s:Sr} {p:Bool×Sr},lB s->ji l->eZ vs.length r->vg f vs l r s=O (.ok p)->lB p.2
 | [],r,s,p,b,_,_,h=>by grind [vg]
 | a::l,[],s,p,b,_,_,h=>by grind [vg]
 | a::l,x::r,s,p,b,c,hr,h=>by
  rw[vg] at h;unfold ji at c;unfold eZ at hr;obtain⟨q,g,d⟩| ⟨e,g,d⟩:=Out.bind_some h
  .have i:=b.Gw c.1 (SA vs _ hr.1) g;split at d
   .exact lB.head i c.2 hr.2 d
   grind
  grind
def al5(vs:List Nat):∀ (l:List Tm) (r:List Ex) (s:Sr),Mon (fun f=>vg f vs l r s)
 | [],r,s=>by intro f;simp_all [vg,Le.rfl]
 | _::_,[],s=>by intro f;simp_all [vg,Le.rfl]
 | a::l,x::r,s=>by
  intro f;simp only[vg];refine Out.yU (aHg _ _ _ f) fun p=>?_;split
  .exact al5 vs l r p.2 f
  simp_all [Le.rfl]
def al6(args:List Tm)(l:List Cl)(td:List Goal)(m:Nat)(k:Wk):Mon (fun f=>wq f args l td m k):=by
 intro f;simp only[wq];split
 .exact Le.rfl
 .cases l with
  | nil=>exact Le.rfl
  | cons c rest=>exact Out.yU (al5 _ _ _ _ f) fun _=>Le.rfl
def lB.clause{args:List Tm}{l:List Cl}{td:List Goal}{k:Wk}{p:Bool×Wk}(a:lB k.sr)(d:ji args)(g:∀ c∈l,yW M c)(h:wq f args l td m k=O (.ok p)):lB p.2.sr:=by
 unfold wq at h;split at h
 .grind
 .cases l with
  | nil=>grind
  | cons c rest=>
   have i:=g c (List.mem_cons_self ..);simp only at h;obtain⟨q,b,j⟩| ⟨e,b,j⟩:=Out.bind_some h
   .have n:=lB.head (show lB k.sr.dec from⟨a.E1,a.ok⟩) d (by rw[List.length_range'];exact i.args) b;grind
   grind
def aHo(base:List Cl)(name:Bs)(ex:List Ex)(vars:List Nat)(k:Wk):Mon (fun f=>Kj base f name ex vars k):=by
 intro f;simp only[Kj];split
 .exact Out.yU (aHh _ _ _ f) fun _=>Le.rfl
 .cases base.filter fun c=>c.name == name && c.args.length == ex.length with
  | nil=>exact Le.rfl
  | cons c l=>exact al6 _ _ _ _ _ f
def lB.goal{base:List Cl}{name:Bs}{ex:List Ex}{k:Wk}{p:Bool×Wk}(i:lB k.sr)(hx:eZ fQ.length ex)(a:∀ c∈base,yW M c)(h:Kj base f name ex fQ k=O (.ok p)):lB p.2.sr:=by
 have b:=Ke fQ ex hx;unfold Kj at h;split at h
 .rename_i ht;obtain⟨q,d,g⟩| ⟨e,d,g⟩:=Out.bind_some h
  .grind [acE,test]
  grind
 .split at h
  .grind
  .exact lB.clause zo b.1 (fun x hx=>a x (List.mem_filter.1 hx).1) h
def aHp(base:List Cl)(g:Goal)(k:Wk):Mon (fun f=>DD base f g k):=by
 intro f;simp only[DD];split
 .exact Le.rfl
 .cases g.EX with
  | none=>exact Le.rfl
  | some b=>
   cases b;simp only;split
   .exact Le.rfl
   split
   .exact Le.rfl
   split
   .exact Le.rfl
   split
   .exact Le.rfl
   split
   .exact Le.rfl
   .exact aHo _ _ _ _ _ f
theorem lB.step{base:List Cl}{g:Goal}{k:Wk}{p:Bool×Wk}(d:lB k.sr)(e:∀ b,g.EX=O b->eV g.vars.length M b)(i:∀ c∈base,yW M c)(h:DD base f g k=O (.ok p)):lB p.2.sr:=by
 have a:lB k.sr.dec:=⟨d.E1,d.ok⟩;unfold DD at h;split at h
 .grind
 .cases hw:g.EX with
  | none=>grind
  | some b=>
   obtain⟨kind,name,args,parts⟩:=b;have eX:=e _ hw;unfold eV at eX;obtain⟨l,m,⟨n,o,q⟩,r,j,s,jY,t⟩:=eX;rw[hw] at h;simp only at h;split at h
   .grind
   split at h
   .grind
   split at h
   .split at h
    .injection h with h;injection h with h;subst h;exact a
    grind
   split at h
   .split at h
    .injection h with h;injection h with h;subst h;exact a
    grind
   split at h
   .split at h
    .injection h with h;injection h with h;subst h;exact a
    grind
   .exact lB.goal zo j i h
def WE(base:List Cl):∀ (f d:Nat) (b:Bool) (k:Wk),Le (kO base d f b k) (kO base (d+1) f b k)
 | 0,d,b,k=>by intro r h;simp_all [kO]
 | f+1,d,A,k=>by
  rw[kO,kO];cases k.todo with
  | nil=>exact Le.rfl
  | cons g r=>exact Out.yU (aHp base g _ d) fun p=>WE base f d p.1 p.2
 | f+1,d,G,k=>by
  rw[kO,kO];cases k.br.getLast? with
  | none=>exact Le.rfl
  | some a=>
   simp only;cases a.clauses with
   | nil=>exact WE base f d _ _
   | cons c l=>exact Out.yU (al6 _ _ _ _ _ d) fun p=>WE base f d p.1 p.2
def WG(base:List Cl)(d:Nat):∀ (f:Nat) (b:Bool) (k:Wk),Le (kO base d f b k) (kO base d (f+1) b k)
 | 0,b,k=>by intro r h;simp_all [kO]
 | f+1,A,k=>by
  rw[kO,kO];cases k.todo with
  | nil=>exact Le.rfl
  | cons g r=>exact Out.yU Le.rfl fun p=>WG base d f p.1 p.2
 | f+1,G,k=>by
  rw[kO,kO];cases k.br.getLast? with
  | none=>exact Le.rfl
  | some a=>
   simp only;cases a.clauses with
   | nil=>exact WG base d f _ _
   | cons c l=>exact Out.yU Le.rfl fun p=>WG base d f p.1 p.2
def aHq{base:List Cl}{f':Nat}{b:Bool}{k:Wk}{r:Except jE (Bool×Wk)}(h:kO base d f b k=O r)(a:d<=pb)(c:f<=f'):kO base pb f' b k=O r:=by
 have e:kO base pb f b k=O r:=Le.many (F:=fun d=>kO base d f b k) (fun d=>WE base f d b k) a _ h;exact Le.many (F:=fun f=>kO base pb f b k) (fun f=>WG base pb f b k) c _ e
def WH{base:List Cl}{M d:Nat}(m:∀ c∈base,yW M c):∀ (f:Nat) (b:Bool) (k:Wk) (p:Bool×Wk),lN M B { k with todo:=if b then k.todo else [] }->lB k.sr->kO base d f b k=O (.ok p) ->
  lN M B { p.2 with todo:=if p.1 then p.2.todo else [] }/\lB p.2.sr/\k.n<=p.2.n/\p.2.sr.fuel<=k.sr.fuel
 | 0,_,_,_,_,_,h=>by simp_all [kO]
 | f+1,A,k,p,hk,o,h=>by
  rw[kO] at h;simp only[if_true] at hk;cases ht:k.todo with
  | nil=>
   rw[ht] at h;injection h with h;injection h with h;subst h;refine⟨⟨⟨?_,hk.ag,hk.marks,hk.mono⟩,hk.cS,hk.nj⟩,o,a0d _,a0d _⟩;exact⟨Nat.zero_le _,(fun i K=>zg),(fun b L=>by grind [acr]),trivial⟩
  | cons g r=>
   rw[ht] at h;have w:lN M B { k with todo:=g::r }:=zg;have z:=(w.todo:ni M k.n k.br.length (g::r)).2.2.1;obtain⟨q,j,s⟩| ⟨e,j,s⟩:=Out.bind_some h
   .obtain⟨g1,g2,g3⟩:=al0 w o.ok m j;obtain⟨C,D,E,F⟩:=WH m f q.1 q.2 p g1 (lB.step (k:={ k with todo:=r }) zo z m j) s;grind
   grind
 | f+1,G,k,p,hk,o,h=>by
  rw[kO] at h;simp only[a0K,if_false] at hk;cases t:k.br.getLast? with
  | none=>
   grind
  | some a=>
   rw[t] at h;simp only at h;obtain⟨N,H,P,Q⟩:=hk.iF t;have y:=hk.ag _ _ H;cases u:a.clauses with
   | nil=>
    rw[u] at h;exact WH m f A { k with sr:=k.sr.iF a.mark,todo:=a.todo,br:=k.br.dropLast } p (hk.back t) (by exact o.iF _) h
   | cons c l=>
    rw[u] at h;simp only at h;rw[<- u] at h;have I:∀ x∈a.clauses,yW M x:=fun x hx=>(y.cls x hx).1;obtain⟨q,j,s⟩| ⟨e,j,s⟩:=Out.bind_some h
    .obtain⟨g1,g2,g3⟩:=hk.again t j;obtain⟨C,D,E,F⟩:=WH m f q.1 q.2 p g1 (lB.clause (k:={ k with sr:=k.sr.iF a.mark }) (by exact o.iF _) y.args I j) s;grind
    grind
end
structure In where
 word:Bs
 name:Bs
 const:Option Tm
 s:List Nat
deriving Inhabited
structure Co where
 slots:Nat
 ins:List In
deriving Inhabited
structure Mk where
 slots:Nat
 ins:List In
 vars:List (Option Nat)
def Mk.put(m:Mk)(word name:Bs)(c:Option Tm)(s:List Nat):Mk:={ m with ins:=m.ins++[⟨word,name,c,s⟩] }
def Mk.slot(m:Mk):Option (Nat×Mk):=if 64<m.slots+1 then V else O (m.slots,{ m with slots:=m.slots+1 })
def Mk.rY(m:Mk):Nat->Option (List Nat×Mk)
 | 0=>O ([],m)
 | n+1=>match m.slot with
  | none=>V
  | some (s,m)=>match m.rY n with
   | none=>V
   | some (l,m)=>O (s::l,m)
def Ce(kind:Nat)(name:Bs)(n:Int):Tm:=if kind=110 then .int n else .atom name
mutual
def yY:Ex->Nat->Mk->Option Mk
 | .mk kind name n k args,s,m=>
  if kind=118 then match m.vars.getD k V with
   | none=>O { m with vars:=m.vars.set k (O s) }
   | some t=>O (m.put [115,97,109,101] [] V [s,t])
  else if kind=99 then match m.rY args.length with
   | none=>V
   | some (l,m)=>rZ args l (m.put [115,112,108,105,116] name V (s::l))
  else O (m.put [99,111,110,115,116] [] (O (Ce kind name n)) [s])
 termination_by structural x=>x
def rZ:List Ex->List Nat->Mk->Option Mk
 | [],_,m=>O m
 | x::xs,l,m=>match yY x (l.headD 0) m with
  | none=>V
  | some m=>rZ xs l.tail m
 termination_by structural x=>x
end
mutual
def An:Ex->Mk->Option (Nat×Mk)
 | .mk kind name n k args,m=>
  if kind=118 then O ((m.vars.getD k V).getD 0,m)
  else if kind≠99 then match m.slot with
   | none=>V
   | some (s,m)=>O (s,m.put [112,117,116] [] (O (Ce kind name n)) [s])
  else match r9 args m with
   | none=>V
   | some (l,m)=>match m.slot with
    | none=>V
    | some (s,m)=>O (s,m.put [109,97,107,101] name V (s::l))
 termination_by structural x=>x
def r9:List Ex->Mk->Option (List Nat×Mk)
 | [],m=>O ([],m)
 | x::xs,m=>match An x m with
  | none=>V
  | some (s,m)=>match r9 xs m with
   | none=>V
   | some (l,m)=>O (s::l,m)
 termination_by structural x=>x
end
def Mk.land(m:Mk)(k:Nat):Mk:={ m with ins:=m.ins.modify k fun i=>{ i with s:=[m.ins.length] } }
def kx:Bs:=[116,114,121]
def jP:Bs:=[106,117,109,112]
def kW:Bs:=[99,117,116]
def qO:Bs:=[108,101,118,101,108]
def nk:Bs:=[116,101,115,116]
def Ao:Bs:=[99,97,108,108]
def ug:Bs:=[110,101,119]
def vh:Bs:=[109,97,114,107]
mutual
def kX:Bd->Nat->Mk->Option Mk
 | .mk kind name args parts,cut,m=>
  if kind=33 then O (m.put kW [] V [cut])
  else if kind=44 then sd parts cut m
  else if kind=59 then DG parts cut m
  else if kind=63 then match m.slot with
   | none=>V
   | some (s,m)=>DH parts s cut (m.put qO [] V [s])
  else if kind=126 then match m.slot with
   | none=>V
   | some (s,m)=>DI parts s (m.put qO [] V [s])
  else match r9 args m with
   | none=>V
   | some (l,m)=>O (m.put (if jK name=l.length then nk else Ao) name V l)
 termination_by structural x=>x
def sd:List Bd->Nat->Mk->Option Mk
 | [],_,m=>O m
 | b::r,cut,m=>match kX b cut m with
  | none=>V
  | some m=>sd r cut m
 termination_by structural x=>x
def DG:List Bd->Nat->Mk->Option Mk
 | [],_,_=>V
 | a::r,cut,m=>match kX a cut (m.put kx [] V [0]) with
  | none=>V
  | some m1=>match sd r cut ((m1.put jP [] V [0]).land m.ins.length) with
   | none=>V
   | some m2=>O (m2.land m1.ins.length)
 termination_by structural x=>x
def DH:List Bd->Nat->Nat->Mk->Option Mk
 | [],_,_,_=>V
 | a::r,s,cut,m=>match kX a s (m.put kx [] V [0]) with
  | none=>V
  | some m1=>E2 r cut m.ins.length (m1.put kW [] V [s])
 termination_by structural x=>x
def E2:List Bd->Nat->Nat->Mk->Option Mk
 | [],_,_,_=>V
 | b::r,cut,k,m=>match kX b cut m with
  | none=>V
  | some m1=>match sd r cut ((m1.put jP [] V [0]).land k) with
   | none=>V
   | some m2=>O (m2.land m1.ins.length)
 termination_by structural x=>x
def DI:List Bd->Nat->Mk->Option Mk
 | [],_,_=>V
 | a::_,s,m=>match kX a s (m.put kx [] V [0]) with
  | none=>V
  | some m1=>O (((m1.put kW [] V [s]).put nk [102,97,105,108] V []).land m.ins.length)
 termination_by structural x=>x
end
def Mk.news(m:Mk):Nat->Nat->Option Mk
 | _,0=>O m
 | k,n+1=>match m.slot with
  | none=>V
  | some (s,m')=>Mk.news ({ m' with vars:=m'.vars.set k (O s) }.put ug [] V [s]) (k+1) n
def Mk.rest(m:Mk):Nat->Nat->Option Mk
 | _,0=>O m
 | k,n+1=>match m.vars.getD k V with
  | some _=>Mk.rest m (k+1) n
  | none=>match m.slot with
   | none=>V
   | some (s,m')=>Mk.rest ({ m' with vars:=m'.vars.set k (O s) }.put ug [] V [s]) (k+1) n
def Bg(args:List Ex)(body:Bd)(nv:Nat)(a:Bool):Option Co:=
 match (⟨0,[],a0P nv V⟩:Mk).rY args.length with
 | none=>V
 | some (b,m)=>match (if a then m.news 0 nv else O m) with
  | none=>V
  | some m=>match m.slot with
   | none=>V
   | some (cut,m)=>match rZ args b (m.put vh [] V [cut]) with
    | none=>V
    | some m=>match m.rest 0 nv with
     | none=>V
     | some m=>match kX body cut m with
      | none=>V
      | some m=>O ⟨m.slots,(m.put (if a then [100,111,110,101] else [114,101,116]) [] V []).ins⟩
structure Pd where
 name:Bs
 arity:Nat
 clauses:List Co
def rz(name:Bs)(n:Nat)(c:Co):List Pd->List Pd
 | []=>[⟨name,n,[c]⟩]
 | p::r=>if p.name=name/\p.arity=n then{ p with clauses:=p.clauses++[c] }::r else p::rz name n c r
def xK:List Cl->List Pd->Option (List Pd)
 | [],l=>O l
 | c::r,l=>match Bg c.args c.body c.vars.length G with
  | none=>V
  | some x=>xK r (rz c.name c.args.length x l)
def mJ(first:Bs)(l:List Bs):Bs:=first++(l.map fun w=>32::w).flatten++[10]
def mL(w:Bs):Option Bs:=
 if w=ug\/w=vh\/w=qO\/w=kW then O [115]
 else if w=[112,117,116]\/w=[99,111,110,115,116] then O [115,99]
 else if w=[115,97,109,101] then O [115,115]
 else if w=[109,97,107,101]\/w=[115,112,108,105,116] then O [115,110,42]
 else if w=nk\/w=Ao then O [110,42]
 else if w=kx\/w=jP then O [112]
 else if w=[114,101,116]\/w=[100,111,110,101] then O []
 else V
def Cf:Option Tm->Bs
 | some (.int n)=>kV n
 | some (.atom a)=>a
 | _=>[]
def uh(i:In):Bs->List Nat->List Bs
 | [],_=>[]
 | x::r,s=>
  if x=115\/x=112 then gj (s.headD 0)::uh i r s.tail
  else if x=99 then Cf i.const::uh i r s
  else if x=110 then i.name::uh i r s
  else s.map gj++uh i r s
def Gx(i:In):Bs:=mJ i.word (uh i ((mL i.word).getD []) i.s)
def Ap(c:Co):Bs:=(c.ins.map Gx).flatten
def wI(p:Pd):Bs:=mJ [112,114,101,100] [p.name,gj p.arity]++(p.clauses.map fun c=>mJ [99,108,97,117,115,101] [gj c.slots]++Ap c).flatten
def yZ(l:List Pd)(ask:Co)(told:Nat):Bs:=(l.map wI).flatten++mJ [113,117,101,114,121] [gj ask.slots,gj told]++Ap ask
inductive Sl where
 | nil
 | term (t:Tm)
 | level (n:Nat)
deriving Inhabited
structure Fm where
 code:Co
 slots:List Sl
 entry:Nat
 back:Option Nat
 pc:Nat
 ask:Bool
structure Ga where
 mark:Nat
 f:Nat
 pc:Nat
 others:List Co
 args:List Sl
structure Vm where
 n:Nat
 sr:Sr
 fs:List Fm
 f:Nat
 pc:Nat
 br:List Ga
def Vm.slot(m:Vm)(k:Nat):Sl:=match m.fs[m.f]? with
 | some x=>x.slots.getD k .nil
 | none=>.nil
def Vm.set(m:Vm)(k:Nat)(v:Sl):Vm:={ m with fs:=m.fs.modify m.f fun x=>{ x with slots:=x.slots.set k v } }
def Vm.at(m:Vm)(i:In)(k:Nat):Except jE Tm:=match m.slot (i.s.getD k 0) with
 | .term t=>.ok t
 | _=>.error (.fault 5)
def Vm.iL(m:Vm):List Nat->Except jE (List Tm)
 | []=>.ok []
 | k::r=>match m.slot k with
  | .term t=>match m.iL r with
   | .ok l=>.ok (t::l)
   | .error e=>.error e
  | _=>.error (.fault 5)
def Iq{α β:Type}(x:Except jE α)(k:α->Out β):Out β:=match x with
 | .error e=>O (.error e)
 | .ok a=>k a
def Vm.enter(m:Vm)(l:List Co)(args:List Sl)(f pc n:Nat):Option Vm:=
 match l with
 | []=>V
 | c::rest=>O { m with br:=m.br.take n++(match rest with | []=>[] | _=>[⟨m.sr.tr.length,f,pc,rest,args⟩]),fs:=m.fs++[⟨c,args++a0P (max c.slots args.length-args.length) .nil,n,O f,pc,G⟩],f:=m.fs.length,pc:=0 }
def Vm.back(m:Vm):Option (Bool×Vm):=
 match m.br.getLast? with
 | none=>O (G,m)
 | some a=>match a.others with
  | []=>O (A,{ m with sr:=m.sr.iF a.mark,f:=a.f,pc:=a.pc,br:=m.br.dropLast })
  | l=>match ({ m with sr:=m.sr.iF a.mark }:Vm).enter l a.args a.f a.pc (m.br.length-1) with
   | none=>V
   | some m=>O (A,m)
def vi(dI:List Pd)(d:Nat)(i:In)(m:Vm):Out (Bool×Vm):=
 let Gw (x:Out (Bool×Sr)):Out (Bool×Vm):=Out.bind x fun p=>O (.ok (p.1,{ m with sr:=p.2 }));let s0:=i.s.getD 0 0
 if i.word=ug then O (.ok (A,{ m.set s0 (.term (.var m.n)) with n:=m.n+1 }))
 else if i.word=[112,117,116] then O (.ok (A,m.set s0 (match i.const with | some t=>.term t | none=>.nil)))
 else if i.word=[99,111,110,115,116] then Iq (m.at i 0) fun t=>Gw (lH d t (i.const.getD default) m.sr)
 else if i.word=[115,97,109,101] then Iq (m.at i 0) fun t=>Iq (m.at i 1) fun u=>Gw (lH d t u m.sr)
 else if i.word=[109,97,107,101] then Iq (m.iL i.s.tail) fun l=>O (.ok (A,m.set s0 (.term (.comp i.name l))))
 else if i.word=[115,112,108,105,116] then Iq (m.at i 0) fun t=>match fA m.sr.tr d t with
  | none=>V
  | some (.var v)=>let m1:=i.s.tail.zipIdx.foldl (fun m p=>m.set p.1 (.term (.var (m.n+p.2)))) m;O (.ok (A,{ m1 with n:=m.n+i.s.tail.length,sr:=m.sr.bind v (.comp i.name ((List.range' m.n i.s.tail.length).map .var)) }))
  | some (.comp name args)=>if name=i.name/\args.length=i.s.length-1 then O (.ok (A,(i.s.tail.zip args).foldl (fun m p=>m.set p.1 (.term p.2)) m)) else O (.ok (G,m))
  | some _=>O (.ok (G,m))
 else if i.word=nk then Iq (m.iL i.s) fun l=>Gw (xI d i.name l m.sr)
 else if i.word=vh then O (.ok (A,m.set s0 (.level (match m.fs[m.f]? with | some x=>x.entry | none=>0))))
 else if i.word=qO then O (.ok (A,m.set s0 (.level m.br.length)))
 else if i.word=kW then match m.slot s0 with
  | .level n=>O (.ok (A,{ m with br:=m.br.take (min n m.br.length) }))
  | _=>O (.error (.fault 5))
 else if i.word=kx then O (.ok (A,{ m with br:=m.br++[⟨m.sr.tr.length,m.f,s0,[],[]⟩] }))
 else if i.word=jP then O (.ok (A,{ m with pc:=s0 }))
 else if i.word=Ao then match dI.find? fun p=>p.name == i.name && p.arity == i.s.length with
  | none=>O (.error (.fault 10))
  | some p=>match p.clauses with
   | []=>O (.ok (G,m))
   | l=>match m.enter l (i.s.map m.slot) m.f m.pc m.br.length with
    | none=>V
    | some m=>O (.ok (A,m))
 else if i.word=[114,101,116] then match m.fs[m.f]? with
  | none=>V
  | some x=>match x.back with
   | none=>O (.error (.fault 5))
   | some b=>O (.ok (A,{ m with f:=b,pc:=x.pc }))
 else O (.ok (A,m))
def y3(dI:List Pd)(d:Nat):Nat->Vm->Out (Bool×Vm)
 | 0,_=>V
 | f+1,m=>
  if m.sr.fuel=0 then O (.error .DB)
  else match m.fs[m.f]? with
   | none=>V
   | some x=>match x.code.ins[m.pc]? with
    | none=>O (.error (.fault 5))
    | some i=>
     let m:={ m with sr:=m.sr.dec,pc:=m.pc+1 }
     if i.word=[100,111,110,101] then(if x.ask then O (.ok (A,m)) else O (.error (.fault 5)))
     else Out.bind (vi dI d i m) fun p=>
      if p.1 then y3 dI d f p.2
      else match p.2.back with
       | none=>V
       | some (G,m)=>O (.ok (G,m))
       | some (A,m)=>y3 dI d f m
def MQ(dI:List Pd)(d f:Nat)(m:Vm):Out (Bool×Vm):=
 if 0<m.pc then match m.back with
  | none=>V
  | some (G,m)=>O (.ok (G,m))
  | some (A,m)=>y3 dI d f m
 else y3 dI d f m
structure Qv where
 err:Nat
 vm:Vm
def Qv.new(c:Co):Qv:=⟨0,0,⟨[],0⟩,[⟨c,a0P c.slots .nil,0,V,0,A⟩],0,0,[]⟩
structure En where
 St:Type
 sr:St->Sr
 nv:St->Nat
 fu:St->Nat->St
 nx:Nat->Nat->St->Out (Bool×St)
 told:St->Except jE (List Tm)
def jE.no:jE->Nat
 | .fault e=>e
 | .DB=>11
abbrev Qs(E:En):=Option Nat×E.St
def Gy(E:En)(names:List Bs)(d f:Nat)(q:Qs E):Option ((Bs×Nat)×Qs E):=
 match q.1 with
 | some e=>O (([],e),q)
 | none=>match E.nx d f (E.fu q.2 1000000) with
  | none=>V
  | some (.error t)=>O (([],t.no),(O t.no,q.2))
  | some (.ok (G,k))=>O (([],6),(O 6,k))
  | some (.ok (A,k))=>match E.told k with
   | .error t=>O (([],t.no),(O t.no,k))
   | .ok l=>match MN (E.sr k).tr d names l ⟨(E.sr k).fuel,[],[]⟩with
    | none=>V
    | some V=>O (([],11),(O 11,k))
    | some (O s)=>O ((if s.out=[] then [116,114,117,101] else s.out,0),(V,E.fu k s.fuel))
def MR(E:En)(names:List Bs)(d f:Nat):Nat->Qs E->Option (List (Bs×Nat)×Qs E)
 | 0,q=>O ([],q)
 | n+1,q=>match Gy E names d f q with
  | none=>V
  | some (a,q)=>match MR E names d f n q with
   | none=>V
   | some (l,q)=>O (a::l,q)
def WI(base:List Cl)(nv:Nat):En where
 St:=Wk
 sr k:=k.sr
 nv k:=k.n
 fu k f:={ k with sr:={ k.sr with fuel:=f } }
 nx d f k:=kO base d f A k
 told _:=.ok ((List.range nv).map .var)
def E3:Bs:=[112,117,116]
def DK:Bs:=[99,111,110,115,116]
def E5:Bs:=[115,97,109,101]
def Ir:Bs:=[109,97,107,101]
def Is:Bs:=[115,112,108,105,116]
def MT:Bs:=[114,101,116]
def MU:Bs:=[100,111,110,101]
def SG:Tm->Bool
 | .atom _=>A
 | .int _=>A
 | _=>G
structure um(n:Nat)(i:In):Prop where
 kn:i.word∈[ug,E3,DK,E5,Ir,Is,nk,vh,qO,kW,kx,jP,Ao,MT,MU]
 sl:i.word≠kx->i.word≠jP->∀ k∈i.s,k<n
 one:i.word=ug\/i.word=E3\/i.word=DK\/i.word=vh\/i.word=qO\/i.word=kW\/i.word=kx\/i.word=jP->i.s.length=1
 same:i.word=E5->i.s.length=2
 two:i.word=Ir\/i.word=Is->2<=i.s.length
 test:i.word=nk->jK i.name=i.s.length
 con:i.word=E3\/i.word=DK->∃ t,i.const=O t/\ef t/\SG t=A
 SH:i.name.length<=20
 ql:i.s.length<=60
 small:∀ k∈i.s,k<100000
structure y6(c:Co):Prop where
 ins:∀ i∈c.ins,um c.slots i
 sl:c.slots<=64
 len:c.ins.length<=100000
structure al9(p:Pd):Prop where
 cls:∀ c∈p.clauses,y6 c
 len:p.clauses.length<=100000
def Aq:Sl->Prop
 | .term t=>ef t
 | _=>True
structure acH(n:Nat)(x:Fm):Prop where
 code:y6 x.code
 sl:x.code.slots<=x.slots.length
 tm:∀ y∈x.slots,Aq y
 back:∀ b,x.back=O b->b<n
structure WJ(n:Nat)(a:Ga):Prop where
 f:a.f<n
 others:∀ c∈a.others,y6 c
 args:∀ y∈a.args,Aq y
 ql:a.args.length<=60
structure gD(B:Nat)(m:Vm):Prop where
 f:m.f<m.fs.length
 fr:∀ (i:Nat) (x:Fm),m.fs[i]?=O x->acH m.fs.length x
 ag:∀ (i:Nat) (a:Ga),m.br[i]?=O a->WJ m.fs.length a
 marks:∀ (i:Nat) (a:Ga),m.br[i]?=O a->a.mark<=m.sr.tr.length
 mono:∀ (i j:Nat) (a b:Ga),i<=j->m.br[i]?=O a->m.br[j]?=O b->a.mark<=b.mark
 cS:m.sr.cS<=B
 nj:m.br.length+m.sr.fuel<=B
 pc:m.pc<=200000
 wJ:∀ (i:Nat) (x:Fm),m.fs[i]?=O x->x.pc<=200000
 xL:∀ (i:Nat) (a:Ga),m.br[i]?=O a->a.pc<=200000
end P
