/- A part of one proof (PureU, PureTot, PureY, PureR, PureS, PureNx, PureZ, PureAk, PureVm). -/
import Derived.Test.YtoegidfbnkaabaaGreatDoorPkIAL
set_option linter.all false
set_option maxRecDepth 100000
set_option maxHeartbeats 8000000
open Option renaming some → O, none → V
open Bool renaming true → A, false → G
open Option.some renaming injEq → a07
open Nat renaming le_refl → a1c, le_trans → a1d, le_succ → a2n, le_add_right → a2u, sub_le → a2S
open List renaming mem_cons → a1g, replicate → a1N, suffix_refl → a27
open Prod.mk renaming injEq → a1z
open Bool renaming false_eq_true → a1F
open Except.ok renaming injEq → a2T
namespace Go.Proofs.YtoegidfbnkaabaaGreatDoor
variable{M d f i n pb:Nat}{ft:List Nat}
namespace P
structure aHS(f:Nat):Prop where
 tm:∀ {i:Nat} {t:Tm} {s:Sr} {p:Bool×Sr},zu f i t s=O (.ok p)->p.2.tr=s.tr/\p.2.fuel<=s.fuel
 FA:∀ {i:Nat} {l:List Tm} {s:Sr} {p:Bool×Sr},AQ f i l s=O (.ok p)->p.2.tr=s.tr/\p.2.fuel<=s.fuel
def Jd:∀ f,aHS f
 | 0=>⟨fun h=>by simp_all [zu],fun h=>by simp_all [AQ]⟩
 | f+1=>by
  have ih:=Jd f;refine⟨fun{i t s p} h=>?_,fun{i l s p} h=>?_⟩
  .rw[zu] at h;split at h
   .grind
   .split at h
    .grind
    .injection h with h;injection h with h;subst h;exact⟨J,a2S _ _⟩
    .obtain⟨c,b⟩:=ih.FA h;exact⟨c,a1d b (a2S _ _)⟩
    .injection h with h;injection h with h;subst h;exact⟨J,a2S _ _⟩
  .cases l with
   | nil=>grind [AQ]
   | cons a r=>
    rw[AQ] at h;obtain⟨q,c,b⟩| ⟨e,c,b⟩:=Out.bind_some h
    .obtain⟨d,g⟩:=ih.tm c;split at b
     .grind
     .obtain⟨j,k⟩:=ih.FA b;grind
    grind
theorem adC{i:Nat}:∀ {tr:Tr},look i tr=V->i ∉ tr.map (·.1)
 | [],_=>zs
 | (j,t)::r,h=>by
  rw[look] at h;split at h
  .grind
  .rename_i a;simp only[List.map_cons,a1g,not_or];exact⟨a,adC h⟩
theorem Je{tr:Tr}:∀ {f:Nat} {t:Tm} {i:Nat},fE tr f t=O (.var i)->look i tr=V
 | f,.atom a,i,h=>by simp_all [fE]
 | f,.int a,i,h=>by simp_all [fE]
 | f,.comp a l,i,h=>by simp_all [fE]
 | 0,.var j,i,h=>by
  grind [look,fE]
 | f+1,.var j,i,h=>by
  cases b:look j tr with
  | none=>simp_all [fE]
  | some t=>simp [fE,b] at h;exact Je h
def BP:Tm->Bool
 | .comp _ _=>A
 | _=>G
def isVar:Tm->Bool
 | .var _=>A
 | _=>G
def Sr.cW(s:Sr):Nat:=s.tr.length+s.fuel
def aHT{t:Tm}{s:Sr}{p:Bool×Sr}(h:ud f i t s=O (.ok p)):p.2.cW<=s.cW+1/\p.2.fuel<=s.fuel:=by
 unfold ud at h;obtain⟨q,a,b⟩| ⟨e,a,b⟩:=Out.bind_some h
 .obtain⟨c,d⟩:=(Jd f).tm a;grind [Sr.cW,Sr.bind,List.length_cons]
 grind
structure aHU(f:Nat):Prop where
 tm:∀ {a b:Tm} {s:Sr} {p:Bool×Sr},lS f a b s=O (.ok p)->p.2.cW<=s.cW/\p.2.fuel<=s.fuel
 FA:∀ {a b:List Tm} {s:Sr} {p:Bool×Sr},nJ f a b s=O (.ok p)->p.2.cW<=s.cW/\p.2.fuel<=s.fuel
def FB:∀ f,aHU f
 | 0=>⟨fun h=>by simp_all [lS],fun h=>by simp_all [nJ]⟩
 | f+1=>by
  have ih:=FB f;have j:∀ {i:Nat} {t:Tm} {s:Sr} {p:Bool×Sr},s.fuel≠0->ud f i t s.dec=O (.ok p)->p.2.cW<=s.cW/\p.2.fuel<=s.fuel:=fun{i t s p} g h=>by
   obtain⟨d,c⟩:=aHT h;grind [Sr.cW,Sr.dec]
  have hdec:∀ {s:Sr},s.dec.cW<=s.cW/\s.dec.fuel<=s.fuel:=fun{s}=>by simp_all [Sr.cW,Sr.dec]
  refine⟨fun{a b s p} h=>?_,fun{a b s p} h=>?_⟩
  .rw[lS] at h;split at h
   .grind
   .rename_i g;split at h
    .grind
    .grind
    .grind
    .split at h
     .obtain⟨d,c⟩:=ih.FA h;grind
     grind
    .grind
    grind
  .cases a with
   | nil=>rw[nJ] at h<;>grind
   | cons a l=>
    cases b with
    | nil=>rw[nJ] at h<;>grind
    | cons b r=>
     rw[nJ] at h;obtain⟨q,d,c⟩| ⟨e,d,c⟩:=Out.bind_some h
     .obtain⟨k,m⟩:=ih.tm d;split at c
      .obtain⟨n,o⟩:=ih.FA c;omega
      grind
     grind
structure aHV(f:Nat):Prop where
 tm:∀ {a b:Tm} {s:Sr} {p:Bool×Sr},CS f a b s=O (.ok p)->p.2.tr=s.tr/\p.2.fuel<=s.fuel
 FA:∀ {a b:List Tm} {s:Sr} {p:Bool×Sr},BO f a b s=O (.ok p)->p.2.tr=s.tr/\p.2.fuel<=s.fuel
def TD:∀ f,aHV f
 | 0=>⟨fun h=>by simp_all [CS],fun h=>by simp_all [BO]⟩
 | f+1=>by
  have ih:=TD f;have hdec:∀ {s:Sr},s.dec.tr=s.tr/\s.dec.fuel<=s.fuel:=fun{s}=>⟨J,a2S _ _⟩;refine⟨fun{a b s p} h=>?_,fun{a b s p} h=>?_⟩
  .rw[CS] at h;split at h
   .grind
   .split at h
    .split at h
     .obtain⟨d,c⟩:=ih.FA h;grind
     grind
    .grind
    grind
  .cases a with
   | nil=>rw[BO] at h<;>grind
   | cons a l=>
    cases b with
    | nil=>rw[BO] at h<;>grind
    | cons b r=>
     rw[BO] at h;obtain⟨q,d,c⟩| ⟨e,d,c⟩:=Out.bind_some h
     .obtain⟨g,i⟩:=ih.tm d;split at c
      .obtain⟨j,k⟩:=ih.FA c;grind
      grind
     grind
def La(z:Int):Prop:=-9223372036854775808<=z/\z<=9223372036854775807
theorem wrap64_in(z:Int):La (wrap64 z):=by grind [La,wrap64]
theorem aHW{a b:Int}(c:La a):La (a.tmod b):=by
 unfold La at *;have d:(a.tmod b).natAbs<=a.natAbs:=by
  simp_all [Int.natAbs_tmod,Nat.mod_le]
 by_cases e:0<=a
 .omega
 .have:a.tmod b<=0:=by
   have:=Int.tmod_nonneg (a:=-a) b zo;simp_all
  omega
def aHX{name:Bs}{a b z:Int}(c:La a)(h:reckon name a b = .ok z):La z:=by
 grind [reckon,wrap64_in,aHW]
theorem Eh:∀ (f:Nat) {t:Tm} {s:Sr} {p:Int×Sr},ng s.tr->eu t->uI f t s=O (.ok p)->p.2.tr=s.tr/\p.2.fuel<=s.fuel/\La p.1
 | 0,_,_,_,_,_,h=>by simp_all [uI]
 | f+1,t,s,p,ht,d,h=>by
  rw[uI] at h;split at h
  .grind
  .split at h
   .grind
   .rename_i n hw;injection h with h;injection h with h;subst h;exact⟨J,a2S _ _,by have:=tY ht d hw;unfold eu at this;exact this⟩
   .grind
   .rename_i name a b hw;have g:=tY ht d hw;unfold eu at g;obtain⟨-,-,m⟩:=g;obtain⟨o,r⟩:=Jb m;split at h
    .obtain⟨q,i,j⟩| ⟨e,i,j⟩:=Out.bind_some h
     .obtain⟨k,u,w⟩:=Eh f (s:=s.dec) ht o i;obtain⟨q2,l,c⟩| ⟨e,l,c⟩:=Out.bind_some j
      .obtain⟨g1,g2,g3⟩:=Eh f (s:=q.2) (by rw[k];exact ht) r l;split at c
       .grind
       .rename_i z x;injection c with c;injection c with c;subst c;exact⟨g1.trans k,a1d g2 (a1d u (a2S _ _)),aHX w x⟩
      grind
     grind
    grind
   grind
structure aH0(f:Nat):Prop where
 tm:∀ {a b:Tm} {s:Sr} {p:Bool×Sr},lS f a b s=O (.ok p)->s.tr <:+ p.2.tr
 FA:∀ {a b:List Tm} {s:Sr} {p:Bool×Sr},nJ f a b s=O (.ok p)->s.tr <:+ p.2.tr
theorem adD{t:Tm}{s:Sr}{p:Bool×Sr}(h:ud f i t s=O (.ok p)):s.tr <:+ p.2.tr:=by
 unfold ud at h;obtain⟨q,b,a⟩| ⟨e,b,a⟩:=Out.bind_some h
 .have c:=((Jd f).tm b).1;split at a
  .grind
  .injection a with a;injection a with a;subst a;rw[<- c];exact List.suffix_cons _ _
 grind
def N2:∀ f,aH0 f
 | 0=>⟨fun h=>by simp_all [lS],fun h=>by simp_all [nJ]⟩
 | f+1=>by
  have ih:=N2 f;refine⟨fun{a b s p} h=>?_,fun{a b s p} h=>?_⟩
  .have i:s.dec.tr=s.tr:=rfl;rw[lS] at h;split at h
   .grind
   .split at h
    .grind [a27,adD]
    .grind [adD]
    .grind [adD]
    .split at h
     .exact(show s.dec.tr <:+ p.2.tr from ih.FA h)
     grind
    .grind
    grind
  .cases a with
   | nil=>grind [nJ,a27]
   | cons a l=>
    cases b with
    | nil=>grind [nJ,a27]
    | cons b r=>
     rw[nJ] at h;obtain⟨q,d,c⟩| ⟨e,d,c⟩:=Out.bind_some h
     .have g:=ih.tm d;split at c
      .exact g.trans (ih.FA c)
      grind
     grind
inductive FC(tr:Tr)(i:Nat):Tm->Prop
 | here:look i tr=V->FC tr i (.var i)
 | via {j:Nat} {t:Tm}:look j tr=O t->FC tr i t->FC tr i (.var j)
 | arg {n:Bs} {l:List Tm} {a:Tm}:a∈l->FC tr i a->FC tr i (.comp n l)
def zw:Tr->Prop
 | []=>True
 | (i,t)::r=>zw r/\look i r=V/\¬ FC r i t
def zw.drop:∀ (k:Nat) {tr:Tr},zw tr->zw (tr.drop k)
 | 0,_,h=>h
 | _+1,[],h=>h
 | k+1,(_,_)::_,h=>zw.drop k h.1
def amU{tr:Tr}{i:Nat}:∀ {f:Nat} {t u:Tm},fE tr f t=O u->(FC tr i t↔FC tr i u)
 | f,.atom s,u,h=>by simp_all [fE]
 | f,.int s,u,h=>by simp_all [fE]
 | f,.comp s l,u,h=>by simp_all [fE]
 | 0,.var j,u,h=>by
  grind [fE]
 | f+1,.var j,u,h=>by
  rw[fE] at h;split at h
  .grind
  .rename_i t b;rw[<- amU h];constructor
   .intro a;cases a with
    | here c=>grind
    | via d e=>grind
   .exact fun a=>.via b a
def amV:∀ f,(∀ i t s s',zu f i t s=O (.ok (G,s'))->look i s.tr=V->¬ FC s.tr i t)/\(∀ i l s s',AQ f i l s=O (.ok (G,s'))->look i s.tr=V->∀ t∈l,¬ FC s.tr i t)
 | 0=>⟨fun _ _ _ _ h=>(by cases h),fun _ _ _ _ h=>(by cases h)⟩
 | f+1=>by
  obtain⟨o,g⟩:=amV f;constructor
  .intro i t s s' h d;rw[zu] at h;split at h
   .grind
   .cases hw:fE s.tr f t with
    | none=>grind
    | some u=>
     rw[hw] at h;rw[amU hw];cases u with
     | atom a=>intro c;cases c
     | int a=>intro c;cases c
     | var j=>
      simp only[a07,a2T,a1z,decide_eq_false_iff_not] at h;intro c;cases c with
      | here q=>omega
      | via r c=>grind [Je]
     | comp n l=>
      intro c;cases c with
      | arg k c=>exact g i l s.dec s' h d _ k c
  .intro i l s s' h d;cases l with
   | nil=>grind
   | cons a l=>
    rw[AQ] at h;obtain⟨p,g1,g2⟩| ⟨e,g1,g2⟩:=Out.bind_some h
    .split at g2
     .grind
     .rename_i w;obtain⟨b,s1⟩:=p;have m:b=false:=zg;subst m;have ht:s1.tr=s.tr:=((Jd f).tm g1).1;grind
    grind
theorem adE{t:Tm}{s:Sr}{p:Bool×Sr}(ht:zw s.tr)(d:look i s.tr=V)(h:ud f i t s=O (.ok p)):zw p.2.tr:=by
 unfold ud at h;obtain⟨q,a,c⟩| ⟨e,a,c⟩:=Out.bind_some h
 .obtain⟨b,s1⟩:=q;have g:s1.tr=s.tr:=((Jd f).tm a).1;cases b with
  | true=>
   grind
  | false=>
   simp only[a1F,if_false,a07,a2T] at c;subst c;show zw ((i,t)::s1.tr);rw[g];exact⟨ht,d,(amV f).1 _ _ _ _ a d⟩
 grind
def amW:∀ f,(∀ a b s p,zw s.tr->lS f a b s=O (.ok p)->zw p.2.tr)/\(∀ l r s p,zw s.tr->nJ f l r s=O (.ok p)->zw p.2.tr)
 | 0=>⟨fun _ _ _ _ _ h=>(by cases h),fun _ _ _ _ _ h=>(by cases h)⟩
 | f+1=>by
  obtain⟨d,g⟩:=amW f;constructor
  .intro a b s p ht h;rw[lS] at h;split at h
   .grind
   .cases hw:fE s.tr f a with
    | none=>grind
    | some u=>
     cases hv:fE s.tr f b with
     | none=>grind
     | some v=>
      rw[hw,hv] at h;have c:zw s.dec.tr:=ht;cases u with
      | var i=>
       have k:look i s.dec.tr=none:=Je hw;grind [adE]
      | comp n l=>
       cases v with
       | var j=>exact adE c (Je hv) h
       | comp m r=>
        grind
       | _=>injection h with h;injection h with h;subst h;exact ht
      | _=>
       cases v with
       | var j=>exact adE c (Je hv) h
       | _=>injection h with h;injection h with h;subst h;exact ht
  .intro l r s p ht h;cases l with
   | nil=>grind [nJ]
   | cons a l=>
    cases r with
    | nil=>grind [nJ]
    | cons b r=>
     rw[nJ] at h;obtain⟨q,g1,g2⟩| ⟨e,g1,g2⟩:=Out.bind_some h<;>grind
def Dfd{α:Type}(F:Nat->Option α):Prop:=∃ f r,F f=O r
def Mon{α:Type}(F:Nat->Option α):Prop:=∀ f,Le (F f) (F (f+1))
def aH2(a b:Tm)(s:Sr):Mon (fun f=>lS f a b s):=fun f=>(TC f).1 a b s
def aH3(n:Bs)(a:List Tm)(s:Sr):Mon (fun f=>yk f n a s):=fun f=>aHR
structure Goal where
 FD:Option Bd
 vars:List Nat
 cut:Nat
structure oJ where
 mark:Nat
 todo:List Goal
 clauses:List Cl
 args:List Tm
structure Wk where
 n:Nat
 sr:Sr
 todo:List Goal
 bz:List oJ
def vI(f:Nat)(vars:List Nat):List Tm->List Ex->Sr->Out (Bool×Sr)
 | a::l,x::r,s=>Out.bind (lS f a (made vars x) s) fun p=>if p.1 then vI f vars l r p.2 else O (.ok (G,p.2))
 | _,_,s=>O (.ok (A,s))
def xp(bz:List oJ)(m:Nat):List Cl->List oJ
 | []=>bz.take m
 | c::r=>match bz[m]? with
  | some a=>bz.take m++[{ a with clauses:=c::r }]
  | none=>bz.take m
def xr(f:Nat)(args:List Tm)(l:List Cl)(todo:List Goal)(m:Nat)(k:Wk):Out (Bool×Wk):=
 if k.sr.fuel=0 then O (.error .Eg)
 else match l with
  | []=>V
  | c::rest=>
   Out.bind (vI f (List.range' k.n c.vars.length) args c.args k.sr.dec) fun p=>
    if p.1 then O (.ok (A,⟨k.n+c.vars.length,p.2,⟨O c.body,List.range' k.n c.vars.length,m⟩::todo,xp k.bz m rest⟩))
    else O (.ok (G,⟨k.n+c.vars.length,p.2,k.todo,xp k.bz m rest⟩))
def Lb(base:List Cl)(f:Nat)(name:Bs)(ex:List Ex)(vars:List Nat)(k:Wk):Out (Bool×Wk):=
 if jW name=ex.length then Out.bind (yk f name (km vars ex) k.sr) fun p=>O (.ok (p.1,{ k with sr:=p.2 }))
 else match base.filter fun c=>c.name == name && c.args.length == ex.length with
  | []=>O (.error (.fault 10))
  | l=>xr f (km vars ex) l k.todo k.bz.length { k with bz:=k.bz++[⟨k.sr.tr.length,k.todo,l,km vars ex⟩] }
def Wk.XC(k:Wk)(todo:List Goal):Wk:={ k with bz:=k.bz++[⟨k.sr.tr.length,todo,[],[]⟩] }
def Ei(base:List Cl)(f:Nat)(g:Goal)(k:Wk):Out (Bool×Wk):=
 if k.sr.fuel=0 then O (.error .Eg)
 else
  let k:={ k with sr:=k.sr.dec }
  match g.FD with
  | none=>O (.ok (A,{ k with bz:=k.bz.take g.cut }))
  | some (.mk kind name args parts)=>
   if kind=33 then O (.ok (A,{ k with bz:=k.bz.take g.cut }))
   else if kind=44 then O (.ok (A,{ k with todo:=(parts.map fun p=>⟨O p,g.vars,g.cut⟩)++k.todo }))
   else if kind=59 then match parts with
    | [a,b]=>O (.ok (A,{ k.XC (⟨O b,g.vars,g.cut⟩::k.todo) with todo:=⟨O a,g.vars,g.cut⟩::k.todo }))
    | _=>V
   else if kind=63 then match parts with
    | [a,b,c]=>O (.ok (A,{ k.XC (⟨O c,g.vars,g.cut⟩::k.todo) with todo:=⟨O a,g.vars,k.bz.length⟩::⟨V,[],k.bz.length⟩::⟨O b,g.vars,g.cut⟩::k.todo }))
    | _=>V
   else if kind=126 then match parts with
    | [a]=>O (.ok (A,{ k.XC k.todo with todo:=[⟨O a,g.vars,k.bz.length⟩,⟨V,[],k.bz.length⟩,⟨O An,[],0⟩] }))
    | _=>V
   else Lb base f name args g.vars k
def kY(base:List Cl)(d:Nat):Nat->Bool->Wk->Out (Bool×Wk)
 | 0,_,_=>V
 | f+1,A,k=>match k.todo with
  | []=>O (.ok (A,{ k with todo:=[⟨O An,[],0⟩] }))
  | g::r=>Out.bind (Ei base d g { k with todo:=r }) fun p=>kY base d f p.1 p.2
 | f+1,G,k=>match k.bz.getLast? with
  | none=>O (.ok (G,k))
  | some a=>match a.clauses with
   | []=>kY base d f A { k with sr:=k.sr.iS a.mark,todo:=a.todo,bz:=k.bz.dropLast }
   | c::l=>Out.bind (xr d a.args (c::l) a.todo (k.bz.length-1) { k with sr:=k.sr.iS a.mark }) fun p=>kY base d f p.1 p.2
def N3(tr:Tr)(f:Nat):List Bs->List Tm->Ws->Option (Option Ws)
 | nm::l,t::r,s=>
  if nm.head?=O 95 then N3 tr f l r s
  else Wb (ix tr f t 0 ((if s.out=[] then s else s.add [44,32]).add (nm++[32,61,32]))) fun s=>N3 tr f l r s
 | _,_,s=>O (O s)
structure Qw where
 err:Nat
 wk:Wk
def Qw.new(b:Bd)(nv:Nat):Qw:=⟨0,nv,⟨[],0⟩,[⟨O b,List.range nv,0⟩],[]⟩
structure zx(M:Nat)(c:Cl):Prop where
 body:fe c.vars.length M c.body
 args:fi c.vars.length c.args
 qT:c.args.length<=4
 sz:fB c.args<=M
 vars:c.vars.length<=M
def nK(M n:Nat):Nat->List Goal->Prop
 | _,[]=>True
 | h,g::r=>g.cut<=h/\(∀ i∈g.vars,i<n)/\(∀ b,g.FD=O b->fe g.vars.length M b)/\nK M n g.cut r
theorem nK.up{M n:Nat}:∀ {l:List Goal} {h a:Nat},nK M n h l->h<=a->nK M n a l
 | [],_,_,_,_=>trivial
 | _::_,_,_,b,c=>⟨a1d b.1 c,b.2⟩
def nK.more{M n b:Nat}(c:n<=b):∀ {l:List Goal} {h:Nat},nK M n h l->nK M b h l
 | [],_,_=>trivial
 | _::_,_,a=>⟨a.1,fun i d=>Nat.lt_of_lt_of_le (a.2.1 i d) c,a.2.2.1,a.2.2.2.more c⟩
structure Lc(M n i:Nat)(a:oJ):Prop where
 todo:nK M n i a.todo
 args:jy a.args
 qT:a.args.length<=4
 cls:∀ c∈a.clauses,zx M c/\c.args.length=a.args.length
structure aH5(M:Nat)(k:Wk):Prop where
 todo:nK M k.n k.bz.length k.todo
 ag:∀ (i:Nat) (a:oJ),k.bz[i]?=O a->Lc M k.n i a
 marks:∀ (i:Nat) (a:oJ),k.bz[i]?=O a->a.mark<=k.sr.tr.length
 mono:∀ (i j:Nat) (a b:oJ),i<=j->k.bz[i]?=O a->k.bz[j]?=O b->a.mark<=b.mark
section
def amY{f:Nat}{vs:List Nat}:∀ {l:List Tm} {r:List Ex} {s:Sr} {p:Bool×Sr},vI f vs l r s=O (.ok p)->s.tr <:+ p.2.tr/\p.2.fuel<=s.fuel/\p.2.cW<=s.cW
 | [],r,s,p,h=>by rw[vI] at h<;>grind
 | a::l,[],s,p,h=>by rw[vI] at h<;>grind
 | a::l,x::r,s,p,h=>by
  rw[vI] at h;obtain⟨q,b,c⟩| ⟨e,b,c⟩:=Out.bind_some h
  .obtain⟨d,g⟩:=(FB f).tm b;have i:=(N2 f).tm b;split at c
   .obtain⟨g1,g2,g3⟩:=amY c;grind
   grind
  grind
def aH6{s:Sr}{t:Tr}(h:t <:+ s.tr)(a:n=t.length):(s.iS n).tr=t:=by
 obtain⟨u,h⟩:=h;subst a;unfold Sr.iS;simp only;rw[<- h];simp
def amZ{name:Bs}{args:List Tm}{s:Sr}{p:Bool×Sr}(ht:ng s.tr)(l:∀ t∈args,eu t)(i:jW name=args.length)(h:yk f name args s=O (.ok p)):s.tr <:+ p.2.tr/\p.2.fuel<=s.fuel/\p.2.cW<=s.cW:=by
 have k:∀ j,j<args.length->eu (args.getD j default):=fun j m=>by
  grind
 have cW:∀ {s':Sr},s'.tr=s.tr->s'.fuel<=s.fuel->s'.cW<=s.cW:=fun b a=>by simp_all [Sr.cW]
 unfold yk at h;split at h
 .grind
 split at h
 .exact⟨(N2 f).tm h,((FB f).tm h).2,((FB f).tm h).1⟩
 split at h
 .obtain⟨q,b,a⟩| ⟨e,b,a⟩:=Out.bind_some h
  .injection a with a;injection a with a;subst a;have d:=(N2 f).tm b;have c:=((FB f).tm b).2;have g:=aH6 d J;exact⟨zg,c,cW g c⟩
  grind
 split at h
 .obtain⟨b,a⟩:=(TD f).tm h;grind
 split at h
 .obtain⟨q,b,a⟩| ⟨e,b,a⟩:=Out.bind_some h
  .obtain⟨g1,g2,-⟩:=Eh f ht (k 1 (by have n:(2:Int)=args.length:=(by subst_vars;exact i);omega)) b;have d:=(N2 f).tm a;obtain⟨c,g⟩:=(FB f).tm a;grind
  grind
 split at h
 .grind
 split at h
 .grind
 .obtain⟨q,b,a⟩| ⟨e,b,a⟩:=Out.bind_some h
  .obtain⟨q2,d,c⟩| ⟨e,d,c⟩:=Out.bind_some a
   .grind [jW,Eh,a27]
   grind
  grind
def XD{bz:List oJ}{m:Nat}{rest:List Cl}{a:oJ}(h:(xp bz m rest)[i]?=O a):∃ b,bz[i]?=O b/\i<=m/\a.mark=b.mark/\a.todo=b.todo/\a.args=b.args/\(a.clauses=b.clauses\/(i=m/\a.clauses=rest))/\(i=m->rest≠[]):=by
 cases rest with
 | nil=>
  grind [xp]
 | cons c r=>
  grind [xp]
def aH7{bz:List oJ}{m:Nat}{rest:List Cl}(hm:m<=bz.length)(a:rest≠[]->m<bz.length):(xp bz m rest).length=if rest=[] then m else m+1:=by
 cases rest with
 | nil=>rw[xp,List.length_take,zip rfl];omega
 | cons c r=>
  simp_all [xp,List.getElem?_eq_getElem,bI,List.length_append,List.length_take,List.length_cons,List.length_nil]
structure me(M B:Nat)(k:Wk):Prop extends aH5 M k where
 cW:k.sr.cW<=B
 nL:k.bz.length+k.sr.fuel<=B
variable{B:Nat}
def Lc.more{M n b i:Nat}{a:oJ}(h:Lc M n i a)(c:n<=b):Lc M b i a:=⟨h.todo.more c,h.args,h.qT,h.cls⟩
def am0{m:Nat}{args:List Tm}{l:List Cl}{td:List Goal}{k k':Wk}{b:Bool}(hk:me M B k)(hm:m<=k.bz.length)(y:1<l.length->m<k.bz.length)(R:m<k.bz.length\/True)(F:nK M k.n m td)
  (H:∀ c∈l,zx M c) (S:∀ a,k.bz[m]?=O a->∀ c∈l,c.args.length=a.args.length) (h:xr f args l td m k=O (.ok (b,k'))):me M B { k' with todo:=if b then k'.todo else [] }/\k.n<=k'.n/\k'.sr.fuel<k.sr.fuel:=by
 unfold xr at h;split at h
 .grind
 rename_i T;cases l with
 | nil=>grind
 | cons c rest=>
 simp only at h;obtain⟨p,z,d⟩| ⟨e,z,d⟩:=Out.bind_some h
 .obtain⟨g1,g2,g3⟩:=amY z;have gf:k.sr.dec.fuel=k.sr.fuel-1:=rfl;have gt:k.sr.dec.tr=k.sr.tr:=rfl;have gp:k.sr.dec.cW<=k.sr.cW:=by simp_all [Sr.cW]
  have hlen:=aH7 (rest:=rest) hm (fun hr=>y (by cases rest with | nil=>grind | cons _ _=>simp));have I:(xp k.bz m rest).length<=k.bz.length/\m<=(xp k.bz m rest).length:=by
   rw[hlen];split
   .omega
   .rename_i hr;have:=y (by cases rest with | nil=>grind | cons _ _=>simp);omega
  have C:∀ (i:Nat) (a:oJ),(xp k.bz m rest)[i]?=O a->Lc M (k.n+c.vars.length) i a:=fun i a g=>by
   obtain⟨b,r,U,q,s,t,u,-⟩:=XD g;have o:=(hk.ag i b r).more (a2u k.n c.vars.length);refine⟨by rw[s];exact o.todo,by rw[t];exact o.args,by rw[t];exact o.qT,fun x hx=>?_⟩;rcases u with u | ⟨rfl,u⟩
   .rw[t];exact o.cls x zg
   grind
  have D:∀ (i:Nat) (a:oJ),(xp k.bz m rest)[i]?=O a->a.mark<=p.2.tr.length:=fun i a g=>by
   obtain⟨b,r,-,q,-⟩:=XD g;rw[q];have:=hk.marks i b r;grind
  have E:∀ (i j:Nat) (a b:oJ),i<=j->(xp k.bz m rest)[i]?=O a->(xp k.bz m rest)[j]?=O b->a.mark<=b.mark:=fun i j a b K g L=>by
   obtain⟨a',N,-,q,-⟩:=XD g;obtain⟨P,o,-,s,-⟩:=XD L;rw[q,s];exact hk.mono i j a' P K N o
  have Q:=H c (List.mem_cons_self ..);have W:=hk.cW;have X:=hk.nL;split at d
  .injection d with d;injection d with d;injection d with d w;subst d w;refine⟨⟨⟨⟨I.2,fun i g=>?_,fun x hx=>?_,F.more (a2u _ _)⟩,C,D,E⟩,zg,zg⟩,a2u _ _,zg⟩
   .grind
   .injection hx with hx;subst hx;rw[List.length_range'];exact Q.body
  .injection d with d;injection d with d;injection d with d w;subst d w;exact⟨⟨⟨trivial,C,D,E⟩,zg,zg⟩,a2u _ _,zg⟩
 grind
theorem adF:∀ {l:List Tm} {t:Tm},jy l->t∈l->eu t
 | [],_,_,h=>zg
 | a::l,t,h,ht=>by
  unfold jy at h;rcases a1g.1 ht with rfl | ht
  .grind
  .exact adF h.2 ht
def me.more{k:Wk}(hk:me M B k){a:oJ}{s:Sr}(f:s.tr=k.sr.tr)(q:s.fuel<k.sr.fuel)(hm:a.mark=k.sr.tr.length)(r:Lc M k.n k.bz.length a){td:List Goal}(t:nK M k.n (k.bz.length+1) td) :
  me M B { k with sr:=s,todo:=td,bz:=k.bz++[a] }:=by
 have u:(k.bz++[a]).length=k.bz.length+1:=zs;have d:∀ (i:Nat) (b:oJ),(k.bz++[a])[i]?=O b->(i<k.bz.length/\k.bz[i]?=O b)\/(i=k.bz.length/\b=a):=fun i b h=>by
  grind
 have w:=hk.cW;have x:=hk.nL;refine⟨⟨zg,fun i b h=>?_,fun i b h=>?_,fun i j b c g l m=>?_⟩,?_,?_⟩
 .rcases d i b h with⟨_,h⟩| ⟨rfl,rfl⟩
  .exact hk.ag i b h
  omega
 .show b.mark<=s.tr.length;rw[f];rcases d i b h with⟨_,h⟩| ⟨rfl,rfl⟩
  .exact hk.marks i b h
  omega
 .rcases d i b l with⟨_,e⟩| ⟨y,z⟩
  .rcases d j c m with⟨_,o⟩| ⟨C,p⟩
   .exact hk.mono i j b c g e o
   .rw[p,hm];exact hk.marks i b e
  grind
 .grind [Sr.cW]
 grind
def me.cut{k:Wk}(hk:me M B k){s:Sr}(e:k.sr.tr <:+ s.tr)(o:s.fuel<=k.sr.fuel)(p:s.cW<=k.sr.cW+1)(q:s.fuel<k.sr.fuel\/s.cW<=k.sr.cW){m:Nat}(d:s.cW<=B){td:List Goal}(hm:m<=k.bz.length)(r:nK M k.n m td) :
  me M B { k with sr:=s,todo:=td,bz:=k.bz.take m }:=by
 have t:(k.bz.take m).length=m:=zg;have a:∀ (i:Nat) (b:oJ),(k.bz.take m)[i]?=O b->k.bz[i]?=O b:=fun i b h=>by
  grind
 have u:=hk.nL;refine⟨⟨zg,fun i b h=>hk.ag i b (a i b h),fun i b h=>a1d (hk.marks i b (a i b h)) e.length_le,fun i j b c f g l=>hk.mono i j b c f (a i b g) (a j c l)⟩,d,?_⟩;grind
theorem nK.map{M n h:Nat}{vs:List Nat}(hv:∀ i∈vs,i<n):∀ {parts:List Bd} {r:List Goal},ff vs.length M parts->nK M n h r->nK M n h ((parts.map fun p=>⟨O p,vs,h⟩)++r)
 | [],_,_,hr=>hr
 | p::ps,r,a,hr=>by
  unfold ff at a;exact⟨a1c _,hv,fun b c=>zg,nK.map hv a.2 hr⟩
def am2{base:List Cl}{g:Goal}{r:List Goal}{k k':Wk}{b:Bool}(hk:me M B { k with todo:=g::r })(X:ng k.sr.tr)(gZ:∀ c∈base,zx M c)(h:Ei base f g { k with todo:=r }=O (.ok (b,k'))) :
  me M B { k' with todo:=if b then k'.todo else [] }/\k.n<=k'.n/\k'.sr.fuel<k.sr.fuel:=by
 obtain⟨hcut,N,P,hr⟩:=(hk.todo:nK M k.n k.bz.length (g::r));have hcut:g.cut<=k.bz.length:=hcut;have z:k.sr.cW<=B:=hk.cW;have N4:k.bz.length+k.sr.fuel<=B:=hk.nL;unfold Ei at h;split at h
 .grind
 rename_i F;have F:¬ k.sr.fuel=0:=F;have gf:k.sr.dec.fuel=k.sr.fuel-1:=rfl;have gt:k.sr.dec.tr=k.sr.tr:=rfl;have gp:k.sr.dec.cW<=k.sr.cW:=by simp_all [Sr.cW]
 have Q:me M B { k with todo:=[],sr:=k.sr.dec }:=⟨⟨trivial,hk.ag,hk.marks,hk.mono⟩,a1d gp z,zg⟩;have R:∀ td,nK M k.n g.cut td->me M B { k with sr:=k.sr.dec,todo:=td,bz:=k.bz.take g.cut }:=fun td d=>
  Q.cut (a27 _) (a1c _) (a2n _) (.inr (a1c _)) (a1d gp z) hcut d
 have s:k.sr.dec.fuel<k.sr.fuel:=zo;have w:∀ (a:oJ) (td:List Goal),a.mark=k.sr.tr.length->Lc M k.n k.bz.length a->nK M k.n (k.bz.length+1) td->me M B { k with sr:=k.sr.dec,todo:=td,bz:=k.bz++[a] }:=fun a td hm S d=>
  me.more (k:={ k with todo:=g::r }) hk gt s hm S d
 have x:nK M k.n k.bz.length r:=hr.up hcut;have y:∀ {td:List Goal},nK M k.n g.cut td->nK M k.n k.bz.length td:=fun h=>h.up hcut;cases H:g.FD with
 | none=>
  grind
 | some bd=>
  obtain⟨kind,name,args,parts⟩:=bd;rw[H] at h;simp only at h;have fg:=P _ H;unfold fe at fg;obtain⟨mU,nT,⟨Qa,Qb,Qc⟩,Hf,T,jh,kg,j⟩:=fg;split at h
  .grind
  split at h
  .simp only[a07,a2T,a1z] at h;obtain⟨rfl,rfl⟩:=h;refine⟨⟨⟨?_,hk.ag,hk.marks,hk.mono⟩,a1d gp z,zg⟩,a1c _,s⟩;grind [nK.map]
  have one:∀ {p:Bd},fe g.vars.length M p->∀ {o:Nat} {td:List Goal},nK M k.n o td->nK M k.n o (⟨O p,g.vars,o⟩::td):=fun hp=>fun d=>⟨a1c _,N,fun b C=>zg,d⟩;have u:∀ {o:Nat} {td:List Goal},nK M k.n o td->nK M k.n o (⟨V,[],o⟩::td):=fun d=>⟨a1c _,(fun i D=>zg),(fun b C=>zg),d⟩;have q:∀ {td:List Goal},nK M k.n k.bz.length td->Lc M k.n k.bz.length ⟨k.sr.tr.length,td,[],[]⟩:=fun d=>⟨d,(by simp_all [jy]),zs,(fun c U=>zg)⟩;split at h
  .split at h
   .rename_i I pb;unfold ff ff ff at j;simp only[a07,a2T,a1z] at h;obtain⟨rfl,rfl⟩:=h;exact⟨w _ _ J (q (y (one j.2.1 hr))) ((y (one j.1 hr)).up (a2n _)),a1c _,s⟩
   grind
  split at h
  .split at h
   .rename_i I pb pc;unfold ff ff ff ff at j;simp only[a07,a2T,a1z] at h;obtain⟨rfl,rfl⟩:=h;exact⟨w _ _ J (q (y (one j.2.2.1 hr))) ((one j.1 (u (y (one j.2.1 hr)))).up (a2n _)),a1c _,s⟩
   grind
  split at h
  .split at h
   .rename_i I;unfold ff ff at j;simp only[a07,a2T,a1z] at h;obtain⟨rfl,rfl⟩:=h;refine⟨w _ _ J (q x) ((one j.1 (u (show nK M k.n k.bz.length [⟨O An,[],0⟩] from⟨Nat.zero_le _,(fun i D=>zg),(fun b C=>by grind [adu]),trivial⟩))).up (a2n _)),a1c _,s⟩
   grind
  .unfold Lb at h;have K:=K6 g.vars args T;split at h
   .rename_i ht;obtain⟨p,L,m⟩| ⟨e,L,m⟩:=Out.bind_some h
    .injection m with m;injection m with m;injection m with m W;subst m W;obtain⟨E,e2,e3⟩:=amZ zg (fun t ht=>adF K.1 ht) zo L;have E:k.sr.tr <:+ p.2.tr:=E;refine⟨⟨⟨?_,hk.ag,fun i a D=>a1d (hk.marks i a D) E.length_le,hk.mono⟩,zg,zg⟩,a1c _,zg⟩;split
     .omega
     .trivial
    grind
   .split at h
    .grind
    .rename_i l ed;have C:=am0 (k:={ k with sr:=k.sr.dec,todo:=r,bz:=k.bz++[⟨k.sr.dec.tr.length,r,base.filter (fun c=>c.name == name && c.args.length == args.length),km g.vars args⟩] }) (M:=M) (B:=B) ?_ ?_ ?_ (.inr trivial) x ?_ ?_ h
     .grind
     .refine w _ _ J ⟨x,K.1,zg,fun c U=>?_⟩ (x.up (a2n _));grind
     .grind
     .grind
     .grind
     grind
theorem me.iS{M:Nat}{k:Wk}(hk:me M B { k with todo:=[] }){a:oJ}(j:k.bz.getLast?=O a) :
  me M B { k with sr:=k.sr.iS a.mark,todo:=[] }/\k.bz[k.bz.length-1]?=O a/\a.mark<=k.sr.tr.length/\(k.sr.iS a.mark).fuel=k.sr.fuel:=by
 have c:k.bz[k.bz.length-1]?=O a:=zg;have g:a.mark<=k.sr.tr.length:=hk.marks _ _ c;have d:(k.sr.iS a.mark).tr.length=a.mark:=by
  grind [Sr.iS,List.length_drop]
 have e:=hk.cW;have h:=hk.nL;refine⟨⟨⟨trivial,hk.ag,fun i b f=>?_,hk.mono⟩,?_,h⟩,c,g,J⟩
 .show b.mark<=(k.sr.iS a.mark).tr.length;rw[d];have:=(List.getElem?_eq_some_iff.1 f).1;exact hk.mono i _ b a zg f c
 .show(k.sr.iS a.mark).cW<=_;have e:k.sr.tr.length+k.sr.fuel<=B:=e;unfold Sr.cW;rw[d];show a.mark+k.sr.fuel<=_;omega
def me.back{k:Wk}(hk:me M B { k with todo:=[] }){a:oJ}(c:k.bz.getLast?=O a):me M B { k with sr:=k.sr.iS a.mark,todo:=a.todo,bz:=k.bz.dropLast }:=by
 obtain⟨b,d,e,f⟩:=hk.iS c;have g:=b.cut (m:=k.bz.length-1) (a27 _) (a1c _) (a2n _) (.inr (a1c _)) b.cW (a2S _ _) (b.ag _ _ d).todo;simp_all [List.dropLast_eq_take]
def me.again{k k':Wk}(hk:me M B { k with todo:=[] }){a:oJ}(o:k.bz.getLast?=O a){b:Bool}(h:xr d a.args a.clauses a.todo (k.bz.length-1) { k with sr:=k.sr.iS a.mark }=O (.ok (b,k'))) :
  me M B { k' with todo:=if b then k'.todo else [] }/\k.n<=k'.n/\k'.sr.fuel<k.sr.fuel:=by
 obtain⟨l,m,t,u⟩:=hk.iS o;have g:=l.ag _ _ m;have i:xr d a.args a.clauses a.todo (k.bz.length-1) { k with sr:=k.sr.iS a.mark,todo:=[] }=O (.ok (b,{ k' with todo:=if b then k'.todo else [] })):=by
  unfold xr at h ⊢;simp only at h ⊢;split at h
  .grind
  .rename_i q;rw[bI q]
   revert h
   split
   .grind
   .intro h;obtain⟨p,r,s⟩| ⟨e,r,s⟩:=Out.bind_some h
    .grind [Out.ee]
    grind
 have:=am0 l (a2S _ _) (fun _=>zg) (.inr trivial) g.todo (fun c j=>(g.cls c j).1) (fun b f c j=>by
  have f:k.bz[k.bz.length-1]?=O b:=f;rw[m] at f;injection f with f;subst f;exact(g.cls c j).2) i
 grind
end
section
variable{B:Nat}
structure WFu(tr:Tr)(f:Nat):Prop where
 tm:∀ t l s r,ix tr f t l s=O (O r)->r.fuel<s.fuel
 comp:∀ n a l s r,rB tr f n a l s=O (O r)->r.fuel<=s.fuel
 args:∀ c a s r,kX tr f c a s=O (O r)->r.fuel<=s.fuel
 list:∀ c a b s r,oZ tr f c a b s=O (O r)->r.fuel<s.fuel
section
variable{tr:Tr}(ht:zw tr){n:Nat}(ih:∀ s:Ws,s.fuel<n->∀ t l,Dfd (fun f=>ix tr f t l s))
include ih
end
theorem aH9{t:Tm}{s:Sr}{p:Bool×Sr}(hk:ng s.tr)(ht:eu t)(h:ud f i t s=O (.ok p)):ng p.2.tr:=by
 unfold ud at h;obtain⟨q,c,a⟩| ⟨e,c,a⟩:=Out.bind_some h
 .obtain⟨b,s1⟩:=q;have d:s1.tr=s.tr:=((Jd f).tm c).1;cases b with
  | true=>
   grind
  | false=>
   simp only[a1F,if_false,a07,a2T] at a;subst a;show ng ((i,t)::s1.tr);rw[d];exact⟨ht,hk⟩
 grind
def am4:eu (.var i):=by simp_all [eu]
def am5:∀ f,(∀ a b s p,ng s.tr->eu a->eu b->lS f a b s=O (.ok p)->ng p.2.tr)/\(∀ l r s p,ng s.tr->jy l->jy r->nJ f l r s=O (.ok p)->ng p.2.tr)
 | 0=>⟨fun _ _ _ _ _ _ _ h=>(by cases h),fun _ _ _ _ _ _ _ h=>(by cases h)⟩
 | f+1=>by
  obtain⟨i,j⟩:=am5 f;constructor
  .intro a b s p ht c d h;rw[lS] at h;split at h
   .grind
   .cases hw:fE s.tr f a with
    | none=>grind
    | some u=>
     cases hv:fE s.tr f b with
     | none=>grind
     | some v=>
      rw[hw,hv] at h;have k:ng s.dec.tr:=ht;have hu:=tY ht c hw;have m:=tY ht d hv;grind [aH9,eu]
  .intro l r s p ht g hr h;cases l with
   | nil=>grind [nJ]
   | cons a l=>
    cases r with
    | nil=>grind [nJ]
    | cons b r=>
     unfold jy at g hr;rw[nJ] at h;obtain⟨q,g1,g2⟩| ⟨e,g1,g2⟩:=Out.bind_some h<;>grind
structure lM(s:Sr):Prop where
 FH:zw s.tr
 ok:ng s.tr
theorem lM.iS{s:Sr}(h:lM s)(m:Nat):lM (s.iS m):=⟨h.FH.drop _,P.ng.am6 _ h.ok⟩
where
 P.ng.am6:∀ (k:Nat) {tr:Tr},ng tr->ng (tr.drop k)
  | 0,_,h=>h
  | _+1,[],h=>h
  | k+1,(_,_)::_,h=>P.ng.am6 k h.2
theorem lM.Hg{a b:Tm}{s:Sr}{p:Bool×Sr}(h:lM s)(c:eu a)(d:eu b)(hr:lS f a b s=O (.ok p)):lM p.2:=⟨(amW f).1 _ _ _ _ h.FH hr,(am5 f).1 _ _ _ _ h.ok c d hr⟩
theorem lM.test{name:Bs}{args:List Tm}{s:Sr}{p:Bool×Sr}(g:lM s)(l:∀ t∈args,eu t)(m:jW name=args.length)(h:yk f name args s=O (.ok p)):lM p.2:=by
 have d:∀ j,j<args.length->eu (args.getD j default):=fun j n=>by
  grind
 have two:∀ x∈([[61],[92,61],[61,61],[105,115],[60],[62],[61,60],[62,61],[61,58,61]]:List Bs),name=x->1<args.length:=fun x hx e=>by
  subst e;have:jW name=2:=by
   simp only[a1g,List.not_mem_nil,or_false] at hx;rcases hx with rfl | rfl | rfl | rfl | rfl | rfl | rfl | rfl | rfl<;>rfl
  omega
 have tr:∀ {q:Sr},q.tr=s.tr->lM q:=fun e=>⟨by grind [FH],by grind [ok]⟩;unfold yk at h;split at h
 .grind
 split at h
 .grind [Hg]
 split at h
 .rename_i c;have:=two [92,61] zs c;obtain⟨q,b,a⟩| ⟨e,b,a⟩:=Out.bind_some h
  .grind [iS,Hg]
  grind
 split at h
 .exact tr ((TD f).tm h).1
 split at h
 .rename_i c;have:=two [105,115] zs c;obtain⟨q,b,a⟩| ⟨e,b,a⟩:=Out.bind_some h
  .obtain⟨g1,g2,g3⟩:=Eh f g.ok (d 1 this) b;refine(tr g1).Hg (d 0 zo) (by unfold eu;exact g3) a
  grind
 split at h
 .grind
 split at h
 .grind
 .obtain⟨q,b,a⟩| ⟨e,b,a⟩:=Out.bind_some h
  .obtain⟨q2,i,k⟩| ⟨e,i,k⟩:=Out.bind_some a
   .grind [jW,Eh,ok]
   grind
  grind
theorem lM.head{f:Nat}{vs:List Nat}:∀ {l:List Tm} {r:List Ex} {s:Sr} {p:Bool×Sr},lM s->jy l->fi vs.length r->vI f vs l r s=O (.ok p)->lM p.2
 | [],r,s,p,b,_,_,h=>by grind [vI]
 | a::l,[],s,p,b,_,_,h=>by grind [vI]
 | a::l,x::r,s,p,b,c,hr,h=>by
  rw[vI] at h;unfold jy at c;unfold fi at hr;obtain⟨q,g,d⟩| ⟨e,g,d⟩:=Out.bind_some h
  .have i:=b.Hg c.1 (Tz vs _ hr.1) g;split at d
   .exact lM.head i c.2 hr.2 d
   grind
  grind
def am7(vs:List Nat):∀ (l:List Tm) (r:List Ex) (s:Sr),Mon (fun f=>vI f vs l r s)
 | [],r,s=>by intro f;simp_all [vI,Le.rfl]
 | _::_,[],s=>by intro f;simp_all [vI,Le.rfl]
 | a::l,x::r,s=>by
  intro f;simp only[vI];refine Out.zv (aH2 _ _ _ f) fun p=>?_;split
  .exact am7 vs l r p.2 f
  simp_all [Le.rfl]
def am8(args:List Tm)(l:List Cl)(td:List Goal)(m:Nat)(k:Wk):Mon (fun f=>xr f args l td m k):=by
 intro f;simp only[xr];split
 .exact Le.rfl
 .cases l with
  | nil=>exact Le.rfl
  | cons c rest=>exact Out.zv (am7 _ _ _ _ f) fun _=>Le.rfl
def lM.clause{args:List Tm}{l:List Cl}{td:List Goal}{m:Nat}{k:Wk}{p:Bool×Wk}(a:lM k.sr)(d:jy args)(g:∀ c∈l,zx M c)(h:xr f args l td m k=O (.ok p)):lM p.2.sr:=by
 unfold xr at h;split at h
 .grind
 .cases l with
  | nil=>grind
  | cons c rest=>
   have i:=g c (List.mem_cons_self ..);simp only at h;obtain⟨q,b,j⟩| ⟨e,b,j⟩:=Out.bind_some h
   .have n:=lM.head (show lM k.sr.dec from⟨a.FH,a.ok⟩) d (by rw[List.length_range'];exact i.args) b;grind
   grind
def aIa(base:List Cl)(name:Bs)(ex:List Ex)(vars:List Nat)(k:Wk):Mon (fun f=>Lb base f name ex vars k):=by
 intro f;simp only[Lb];split
 .exact Out.zv (aH3 _ _ _ f) fun _=>Le.rfl
 .cases base.filter fun c=>c.name == name && c.args.length == ex.length with
  | nil=>exact Le.rfl
  | cons c l=>exact am8 _ _ _ _ _ f
def lM.goal{base:List Cl}{name:Bs}{ex:List Ex}{k:Wk}{p:Bool×Wk}(i:lM k.sr)(hx:fi ft.length ex)(a:∀ c∈base,zx M c)(h:Lb base f name ex ft k=O (.ok p)):lM p.2.sr:=by
 have b:=K6 ft ex hx;unfold Lb at h;split at h
 .rename_i ht;obtain⟨q,d,g⟩| ⟨e,d,g⟩:=Out.bind_some h
  .grind [adF,test]
  grind
 .split at h
  .grind
  .exact lM.clause zo b.1 (fun x hx=>a x (List.mem_filter.1 hx).1) h
def aIb(base:List Cl)(g:Goal)(k:Wk):Mon (fun f=>Ei base f g k):=by
 intro f;simp only[Ei];split
 .exact Le.rfl
 .cases g.FD with
  | none=>exact Le.rfl
  | some b=>
   cases b;simp only;split
   .exact Le.rfl
   split
   .exact Le.rfl
   split
   .exact Le.rfl
   split
   .exact Le.rfl
   split
   .exact Le.rfl
   .exact aIa _ _ _ _ _ f
theorem lM.step{base:List Cl}{g:Goal}{k:Wk}{p:Bool×Wk}(d:lM k.sr)(e:∀ b,g.FD=O b->fe g.vars.length M b)(i:∀ c∈base,zx M c)(h:Ei base f g k=O (.ok p)):lM p.2.sr:=by
 have a:lM k.sr.dec:=⟨d.FH,d.ok⟩;unfold Ei at h;split at h
 .grind
 .cases hw:g.FD with
  | none=>grind
  | some b=>
   obtain⟨kind,name,args,parts⟩:=b;have fg:=e _ hw;unfold fe at fg;obtain⟨l,m,⟨n,o,q⟩,r,j,s,kg,t⟩:=fg;rw[hw] at h;simp only at h;split at h
   .grind
   split at h
   .grind
   split at h
   .split at h
    .injection h with h;injection h with h;subst h;exact a
    grind
   split at h
   .split at h
    .injection h with h;injection h with h;subst h;exact a
    grind
   split at h
   .split at h
    .injection h with h;injection h with h;subst h;exact a
    grind
   .exact lM.goal zo j i h
def XG(base:List Cl):∀ (f d:Nat) (b:Bool) (k:Wk),Le (kY base d f b k) (kY base (d+1) f b k)
 | 0,d,b,k=>by intro r h;simp_all [kY]
 | f+1,d,A,k=>by
  rw[kY,kY];cases k.todo with
  | nil=>exact Le.rfl
  | cons g r=>exact Out.zv (aIb base g _ d) fun p=>XG base f d p.1 p.2
 | f+1,d,G,k=>by
  rw[kY,kY];cases k.bz.getLast? with
  | none=>exact Le.rfl
  | some a=>
   simp only;cases a.clauses with
   | nil=>exact XG base f d _ _
   | cons c l=>exact Out.zv (am8 _ _ _ _ _ d) fun p=>XG base f d p.1 p.2
def XH(base:List Cl)(d:Nat):∀ (f:Nat) (b:Bool) (k:Wk),Le (kY base d f b k) (kY base d (f+1) b k)
 | 0,b,k=>by intro r h;simp_all [kY]
 | f+1,A,k=>by
  rw[kY,kY];cases k.todo with
  | nil=>exact Le.rfl
  | cons g r=>exact Out.zv Le.rfl fun p=>XH base d f p.1 p.2
 | f+1,G,k=>by
  rw[kY,kY];cases k.bz.getLast? with
  | none=>exact Le.rfl
  | some a=>
   simp only;cases a.clauses with
   | nil=>exact XH base d f _ _
   | cons c l=>exact Out.zv Le.rfl fun p=>XH base d f p.1 p.2
def aIc{base:List Cl}{f':Nat}{b:Bool}{k:Wk}{r:Except jQ (Bool×Wk)}(h:kY base d f b k=O r)(a:d<=pb)(c:f<=f'):kY base pb f' b k=O r:=by
 have e:kY base pb f b k=O r:=Le.many (F:=fun d=>kY base d f b k) (fun d=>XG base f d b k) a _ h;exact Le.many (F:=fun f=>kY base pb f b k) (fun f=>XH base pb f b k) c _ e
def XI{base:List Cl}{M d:Nat}(m:∀ c∈base,zx M c):∀ (f:Nat) (b:Bool) (k:Wk) (p:Bool×Wk),me M B { k with todo:=if b then k.todo else [] }->lM k.sr->kY base d f b k=O (.ok p) ->
  me M B { p.2 with todo:=if p.1 then p.2.todo else [] }/\lM p.2.sr/\k.n<=p.2.n/\p.2.sr.fuel<=k.sr.fuel
 | 0,_,_,_,_,_,h=>by simp_all [kY]
 | f+1,A,k,p,hk,o,h=>by
  rw[kY] at h;simp only[if_true] at hk;cases ht:k.todo with
  | nil=>
   rw[ht] at h;injection h with h;injection h with h;subst h;refine⟨⟨⟨?_,hk.ag,hk.marks,hk.mono⟩,hk.cW,hk.nL⟩,o,a1c _,a1c _⟩;exact⟨Nat.zero_le _,(fun i K=>zg),(fun b L=>by grind [adu]),trivial⟩
  | cons g r=>
   rw[ht] at h;have w:me M B { k with todo:=g::r }:=zg;have z:=(w.todo:nK M k.n k.bz.length (g::r)).2.2.1;obtain⟨q,j,s⟩| ⟨e,j,s⟩:=Out.bind_some h
   .obtain⟨g1,g2,g3⟩:=am2 w o.ok m j;obtain⟨C,D,E,F⟩:=XI m f q.1 q.2 p g1 (lM.step (k:={ k with todo:=r }) zo z m j) s;grind
   grind
 | f+1,G,k,p,hk,o,h=>by
  rw[kY] at h;simp only[a1F,if_false] at hk;cases t:k.bz.getLast? with
  | none=>
   grind
  | some a=>
   rw[t] at h;simp only at h;obtain⟨N,H,P,Q⟩:=hk.iS t;have y:=hk.ag _ _ H;cases u:a.clauses with
   | nil=>
    rw[u] at h;exact XI m f A { k with sr:=k.sr.iS a.mark,todo:=a.todo,bz:=k.bz.dropLast } p (hk.back t) (by exact o.iS _) h
   | cons c l=>
    rw[u] at h;simp only at h;rw[<- u] at h;have I:∀ x∈a.clauses,zx M x:=fun x hx=>(y.cls x hx).1;obtain⟨q,j,s⟩| ⟨e,j,s⟩:=Out.bind_some h
    .obtain⟨g1,g2,g3⟩:=hk.again t j;obtain⟨C,D,E,F⟩:=XI m f q.1 q.2 p g1 (lM.clause (k:={ k with sr:=k.sr.iS a.mark }) (by exact o.iS _) y.args I j) s;grind
    grind
end
structure In where
 word:Bs
 name:Bs
 const:Option Tm
 s:List Nat
deriving Inhabited
structure Co where
 slots:Nat
 ins:List In
deriving Inhabited
structure Mk where
 slots:Nat
 ins:List In
 vars:List (Option Nat)
def Mk.put(m:Mk)(word name:Bs)(c:Option Tm)(s:List Nat):Mk:={ m with ins:=m.ins++[⟨word,name,c,s⟩] }
def Mk.slot(m:Mk):Option (Nat×Mk):=if 64<m.slots+1 then V else O (m.slots,{ m with slots:=m.slots+1 })
def Mk.tj(m:Mk):Nat->Option (List Nat×Mk)
 | 0=>O ([],m)
 | n+1=>match m.slot with
  | none=>V
  | some (s,m)=>match m.tj n with
   | none=>V
   | some (l,m)=>O (s::l,m)
def CX(kind:Nat)(name:Bs)(n:Int):Tm:=if kind=110 then .int n else .atom name
mutual
def zC:Ex->Nat->Mk->Option Mk
 | .mk kind name n k args,s,m=>
  if kind=118 then match m.vars.getD k V with
   | none=>O { m with vars:=m.vars.set k (O s) }
   | some t=>O (m.put [115,97,109,101] [] V [s,t])
  else if kind=99 then match m.tj args.length with
   | none=>V
   | some (l,m)=>tl args l (m.put [115,112,108,105,116] name V (s::l))
  else O (m.put [99,111,110,115,116] [] (O (CX kind name n)) [s])
 termination_by structural x=>x
def tl:List Ex->List Nat->Mk->Option Mk
 | [],_,m=>O m
 | x::xs,l,m=>match zC x (l.headD 0) m with
  | none=>V
  | some m=>tl xs l.tail m
 termination_by structural x=>x
end
mutual
def AR:Ex->Mk->Option (Nat×Mk)
 | .mk kind name n k args,m=>
  if kind=118 then O ((m.vars.getD k V).getD 0,m)
  else if kind≠99 then match m.slot with
   | none=>V
   | some (s,m)=>O (s,m.put [112,117,116] [] (O (CX kind name n)) [s])
  else match tn args m with
   | none=>V
   | some (l,m)=>match m.slot with
    | none=>V
    | some (s,m)=>O (s,m.put [109,97,107,101] name V (s::l))
 termination_by structural x=>x
def tn:List Ex->Mk->Option (List Nat×Mk)
 | [],m=>O ([],m)
 | x::xs,m=>match AR x m with
  | none=>V
  | some (s,m)=>match tn xs m with
   | none=>V
   | some (l,m)=>O (s::l,m)
 termination_by structural x=>x
end
def Mk.land(m:Mk)(k:Nat):Mk:={ m with ins:=m.ins.modify k fun i=>{ i with s:=[m.ins.length] } }
def kH:Bs:=[116,114,121]
def j5:Bs:=[106,117,109,112]
def lx:Bs:=[99,117,116]
def rC:Bs:=[108,101,118,101,108]
def nM:Bs:=[116,101,115,116]
def AS:Bs:=[99,97,108,108]
def uK:Bs:=[110,101,119]
def vJ:Bs:=[109,97,114,107]
mutual
def ly:Bd->Nat->Mk->Option Mk
 | .mk kind name args parts,cut,m=>
  if kind=33 then O (m.put lx [] V [cut])
  else if kind=44 then tz parts cut m
  else if kind=59 then Ek parts cut m
  else if kind=63 then match m.slot with
   | none=>V
   | some (s,m)=>El parts s cut (m.put rC [] V [s])
  else if kind=126 then match m.slot with
   | none=>V
   | some (s,m)=>Em parts s (m.put rC [] V [s])
  else match tn args m with
   | none=>V
   | some (l,m)=>O (m.put (if jW name=l.length then nM else AS) name V l)
 termination_by structural x=>x
def tz:List Bd->Nat->Mk->Option Mk
 | [],_,m=>O m
 | b::r,cut,m=>match ly b cut m with
  | none=>V
  | some m=>tz r cut m
 termination_by structural x=>x
def Ek:List Bd->Nat->Mk->Option Mk
 | [],_,_=>V
 | a::r,cut,m=>match ly a cut (m.put kH [] V [0]) with
  | none=>V
  | some m1=>match tz r cut ((m1.put j5 [] V [0]).land m.ins.length) with
   | none=>V
   | some m2=>O (m2.land m1.ins.length)
 termination_by structural x=>x
def El:List Bd->Nat->Nat->Mk->Option Mk
 | [],_,_,_=>V
 | a::r,s,cut,m=>match ly a s (m.put kH [] V [0]) with
  | none=>V
  | some m1=>FI r cut m.ins.length (m1.put lx [] V [s])
 termination_by structural x=>x
def FI:List Bd->Nat->Nat->Mk->Option Mk
 | [],_,_,_=>V
 | b::r,cut,k,m=>match ly b cut m with
  | none=>V
  | some m1=>match tz r cut ((m1.put j5 [] V [0]).land k) with
   | none=>V
   | some m2=>O (m2.land m1.ins.length)
 termination_by structural x=>x
def Em:List Bd->Nat->Mk->Option Mk
 | [],_,_=>V
 | a::_,s,m=>match ly a s (m.put kH [] V [0]) with
  | none=>V
  | some m1=>O (((m1.put lx [] V [s]).put nM [102,97,105,108] V []).land m.ins.length)
 termination_by structural x=>x
end
def Mk.news(m:Mk):Nat->Nat->Option Mk
 | _,0=>O m
 | k,n+1=>match m.slot with
  | none=>V
  | some (s,m')=>Mk.news ({ m' with vars:=m'.vars.set k (O s) }.put uK [] V [s]) (k+1) n
def Mk.rest(m:Mk):Nat->Nat->Option Mk
 | _,0=>O m
 | k,n+1=>match m.vars.getD k V with
  | some _=>Mk.rest m (k+1) n
  | none=>match m.slot with
   | none=>V
   | some (s,m')=>Mk.rest ({ m' with vars:=m'.vars.set k (O s) }.put uK [] V [s]) (k+1) n
def BR(args:List Ex)(body:Bd)(nv:Nat)(a:Bool):Option Co:=
 match (⟨0,[],a1N nv V⟩:Mk).tj args.length with
 | none=>V
 | some (b,m)=>match (if a then m.news 0 nv else O m) with
  | none=>V
  | some m=>match m.slot with
   | none=>V
   | some (cut,m)=>match tl args b (m.put vJ [] V [cut]) with
    | none=>V
    | some m=>match m.rest 0 nv with
     | none=>V
     | some m=>match ly body cut m with
      | none=>V
      | some m=>O ⟨m.slots,(m.put (if a then [100,111,110,101] else [114,101,116]) [] V []).ins⟩
structure Pd where
 name:Bs
 arity:Nat
 clauses:List Co
def se(name:Bs)(n:Nat)(c:Co):List Pd->List Pd
 | []=>[⟨name,n,[c]⟩]
 | p::r=>if p.name=name/\p.arity=n then{ p with clauses:=p.clauses++[c] }::r else p::se name n c r
def ym:List Cl->List Pd->Option (List Pd)
 | [],l=>O l
 | c::r,l=>match BR c.args c.body c.vars.length G with
  | none=>V
  | some x=>ym r (se c.name c.args.length x l)
def nh(first:Bs)(l:List Bs):Bs:=first++(l.map fun w=>32::w).flatten++[10]
def ni(w:Bs):Option Bs:=
 if w=uK\/w=vJ\/w=rC\/w=lx then O [115]
 else if w=[112,117,116]\/w=[99,111,110,115,116] then O [115,99]
 else if w=[115,97,109,101] then O [115,115]
 else if w=[109,97,107,101]\/w=[115,112,108,105,116] then O [115,110,42]
 else if w=nM\/w=AS then O [110,42]
 else if w=kH\/w=j5 then O [112]
 else if w=[114,101,116]\/w=[100,111,110,101] then O []
 else V
def CY:Option Tm->Bs
 | some (.int n)=>kN n
 | some (.atom a)=>a
 | _=>[]
def uL(i:In):Bs->List Nat->List Bs
 | [],_=>[]
 | x::r,s=>
  if x=115\/x=112 then fc (s.headD 0)::uL i r s.tail
  else if x=99 then CY i.const::uL i r s
  else if x=110 then i.name::uL i r s
  else s.map fc++uL i r s
def Hh(i:In):Bs:=nh i.word (uL i ((ni i.word).getD []) i.s)
def AT(c:Co):Bs:=(c.ins.map Hh).flatten
def xw(p:Pd):Bs:=nh [112,114,101,100] [p.name,fc p.arity]++(p.clauses.map fun c=>nh [99,108,97,117,115,101] [fc c.slots]++AT c).flatten
def zD(l:List Pd)(ask:Co)(told:Nat):Bs:=(l.map xw).flatten++nh [113,117,101,114,121] [fc ask.slots,fc told]++AT ask
inductive Sl where
 | nil
 | term (t:Tm)
 | level (n:Nat)
deriving Inhabited
structure Fm where
 code:Co
 slots:List Sl
 entry:Nat
 back:Option Nat
 pc:Nat
 ask:Bool
structure Ga where
 mark:Nat
 f:Nat
 pc:Nat
 others:List Co
 args:List Sl
structure Vm where
 n:Nat
 sr:Sr
 fs:List Fm
 f:Nat
 pc:Nat
 bz:List Ga
def Vm.slot(m:Vm)(k:Nat):Sl:=match m.fs[m.f]? with
 | some x=>x.slots.getD k .nil
 | none=>.nil
def Vm.set(m:Vm)(k:Nat)(v:Sl):Vm:={ m with fs:=m.fs.modify m.f fun x=>{ x with slots:=x.slots.set k v } }
def Vm.at(m:Vm)(i:In)(k:Nat):Except jQ Tm:=match m.slot (i.s.getD k 0) with
 | .term t=>.ok t
 | _=>.error (.fault 5)
def Vm.iX(m:Vm):List Nat->Except jQ (List Tm)
 | []=>.ok []
 | k::r=>match m.slot k with
  | .term t=>match m.iX r with
   | .ok l=>.ok (t::l)
   | .error e=>.error e
  | _=>.error (.fault 5)
def Jf{α β:Type}(x:Except jQ α)(k:α->Out β):Out β:=match x with
 | .error e=>O (.error e)
 | .ok a=>k a
def Vm.enter(m:Vm)(l:List Co)(args:List Sl)(f pc n:Nat):Option Vm:=
 match l with
 | []=>V
 | c::rest=>O { m with bz:=m.bz.take n++(match rest with | []=>[] | _=>[⟨m.sr.tr.length,f,pc,rest,args⟩]),fs:=m.fs++[⟨c,args++a1N (max c.slots args.length-args.length) .nil,n,O f,pc,G⟩],f:=m.fs.length,pc:=0 }
def Vm.back(m:Vm):Option (Bool×Vm):=
 match m.bz.getLast? with
 | none=>O (G,m)
 | some a=>match a.others with
  | []=>O (A,{ m with sr:=m.sr.iS a.mark,f:=a.f,pc:=a.pc,bz:=m.bz.dropLast })
  | l=>match ({ m with sr:=m.sr.iS a.mark }:Vm).enter l a.args a.f a.pc (m.bz.length-1) with
   | none=>V
   | some m=>O (A,m)
def vK(dO:List Pd)(d:Nat)(i:In)(m:Vm):Out (Bool×Vm):=
 let Hg (x:Out (Bool×Sr)):Out (Bool×Vm):=Out.bind x fun p=>O (.ok (p.1,{ m with sr:=p.2 }));let s0:=i.s.getD 0 0
 if i.word=uK then O (.ok (A,{ m.set s0 (.term (.var m.n)) with n:=m.n+1 }))
 else if i.word=[112,117,116] then O (.ok (A,m.set s0 (match i.const with | some t=>.term t | none=>.nil)))
 else if i.word=[99,111,110,115,116] then Jf (m.at i 0) fun t=>Hg (lS d t (i.const.getD default) m.sr)
 else if i.word=[115,97,109,101] then Jf (m.at i 0) fun t=>Jf (m.at i 1) fun u=>Hg (lS d t u m.sr)
 else if i.word=[109,97,107,101] then Jf (m.iX i.s.tail) fun l=>O (.ok (A,m.set s0 (.term (.comp i.name l))))
 else if i.word=[115,112,108,105,116] then Jf (m.at i 0) fun t=>match fE m.sr.tr d t with
  | none=>V
  | some (.var v)=>let m1:=i.s.tail.zipIdx.foldl (fun m p=>m.set p.1 (.term (.var (m.n+p.2)))) m;O (.ok (A,{ m1 with n:=m.n+i.s.tail.length,sr:=m.sr.bind v (.comp i.name ((List.range' m.n i.s.tail.length).map .var)) }))
  | some (.comp name args)=>if name=i.name/\args.length=i.s.length-1 then O (.ok (A,(i.s.tail.zip args).foldl (fun m p=>m.set p.1 (.term p.2)) m)) else O (.ok (G,m))
  | some _=>O (.ok (G,m))
 else if i.word=nM then Jf (m.iX i.s) fun l=>Hg (yk d i.name l m.sr)
 else if i.word=vJ then O (.ok (A,m.set s0 (.level (match m.fs[m.f]? with | some x=>x.entry | none=>0))))
 else if i.word=rC then O (.ok (A,m.set s0 (.level m.bz.length)))
 else if i.word=lx then match m.slot s0 with
  | .level n=>O (.ok (A,{ m with bz:=m.bz.take (min n m.bz.length) }))
  | _=>O (.error (.fault 5))
 else if i.word=kH then O (.ok (A,{ m with bz:=m.bz++[⟨m.sr.tr.length,m.f,s0,[],[]⟩] }))
 else if i.word=j5 then O (.ok (A,{ m with pc:=s0 }))
 else if i.word=AS then match dO.find? fun p=>p.name == i.name && p.arity == i.s.length with
  | none=>O (.error (.fault 10))
  | some p=>match p.clauses with
   | []=>O (.ok (G,m))
   | l=>match m.enter l (i.s.map m.slot) m.f m.pc m.bz.length with
    | none=>V
    | some m=>O (.ok (A,m))
 else if i.word=[114,101,116] then match m.fs[m.f]? with
  | none=>V
  | some x=>match x.back with
   | none=>O (.error (.fault 5))
   | some b=>O (.ok (A,{ m with f:=b,pc:=x.pc }))
 else O (.ok (A,m))
def zE(dO:List Pd)(d:Nat):Nat->Vm->Out (Bool×Vm)
 | 0,_=>V
 | f+1,m=>
  if m.sr.fuel=0 then O (.error .Eg)
  else match m.fs[m.f]? with
   | none=>V
   | some x=>match x.code.ins[m.pc]? with
    | none=>O (.error (.fault 5))
    | some i=>
     let m:={ m with sr:=m.sr.dec,pc:=m.pc+1 }
     if i.word=[100,111,110,101] then(if x.ask then O (.ok (A,m)) else O (.error (.fault 5)))
     else Out.bind (vK dO d i m) fun p=>
      if p.1 then zE dO d f p.2
      else match p.2.back with
       | none=>V
       | some (G,m)=>O (.ok (G,m))
       | some (A,m)=>zE dO d f m
def N6(dO:List Pd)(d f:Nat)(m:Vm):Out (Bool×Vm):=
 if 0<m.pc then match m.back with
  | none=>V
  | some (G,m)=>O (.ok (G,m))
  | some (A,m)=>zE dO d f m
 else zE dO d f m
structure Qv where
 err:Nat
 vm:Vm
def Qv.new(c:Co):Qv:=⟨0,0,⟨[],0⟩,[⟨c,a1N c.slots .nil,0,V,0,A⟩],0,0,[]⟩
structure En where
 St:Type
 sr:St->Sr
 nv:St->Nat
 fu:St->Nat->St
 nx:Nat->Nat->St->Out (Bool×St)
 told:St->Except jQ (List Tm)
def jQ.no:jQ->Nat
 | .fault e=>e
 | .Eg=>11
abbrev Qs(E:En):=Option Nat×E.St
def Jh(E:En)(names:List Bs)(d f:Nat)(q:Qs E):Option ((Bs×Nat)×Qs E):=
 match q.1 with
 | some e=>O (([],e),q)
 | none=>match E.nx d f (E.fu q.2 1000000) with
  | none=>V
  | some (.error t)=>O (([],t.no),(O t.no,q.2))
  | some (.ok (G,k))=>O (([],6),(O 6,k))
  | some (.ok (A,k))=>match E.told k with
   | .error t=>O (([],t.no),(O t.no,k))
   | .ok l=>match N3 (E.sr k).tr d names l ⟨(E.sr k).fuel,[],[]⟩with
    | none=>V
    | some V=>O (([],11),(O 11,k))
    | some (O s)=>O ((if s.out=[] then [116,114,117,101] else s.out,0),(V,E.fu k s.fuel))
def XJ(base:List Cl)(nv:Nat):En where
 St:=Wk
 sr k:=k.sr
 nv k:=k.n
 fu k f:={ k with sr:={ k.sr with fuel:=f } }
 nx d f k:=kY base d f A k
 told _:=.ok ((List.range nv).map .var)
def FJ:Bs:=[112,117,116]
def Eo:Bs:=[99,111,110,115,116]
def FK:Bs:=[115,97,109,101]
def Ji:Bs:=[109,97,107,101]
def Jj:Bs:=[115,112,108,105,116]
def N7:Bs:=[114,101,116]
def N8:Bs:=[100,111,110,101]
def TE:Tm->Bool
 | .atom _=>A
 | .int _=>A
 | _=>G
structure uN(n:Nat)(i:In):Prop where
 kn:i.word∈[uK,FJ,Eo,FK,Ji,Jj,nM,vJ,rC,lx,kH,j5,AS,N7,N8]
 sl:i.word≠kH->i.word≠j5->∀ k∈i.s,k<n
 one:i.word=uK\/i.word=FJ\/i.word=Eo\/i.word=vJ\/i.word=rC\/i.word=lx\/i.word=kH\/i.word=j5->i.s.length=1
 same:i.word=FK->i.s.length=2
 two:i.word=Ji\/i.word=Jj->2<=i.s.length
 test:i.word=nM->jW i.name=i.s.length
 con:i.word=FJ\/i.word=Eo->∃ t,i.const=O t/\eu t/\TE t=A
 TF:i.name.length<=20
 qT:i.s.length<=60
 small:∀ k∈i.s,k<100000
structure zG(c:Co):Prop where
 ins:∀ i∈c.ins,uN c.slots i
 sl:c.slots<=64
 len:c.ins.length<=100000
structure anb(p:Pd):Prop where
 cls:∀ c∈p.clauses,zG c
 len:p.clauses.length<=100000
def AU:Sl->Prop
 | .term t=>eu t
 | _=>True
structure adI(n:Nat)(x:Fm):Prop where
 code:zG x.code
 sl:x.code.slots<=x.slots.length
 tm:∀ y∈x.slots,AU y
 back:∀ b,x.back=O b->b<n
structure XK(n:Nat)(a:Ga):Prop where
 f:a.f<n
 others:∀ c∈a.others,zG c
 args:∀ y∈a.args,AU y
 qT:a.args.length<=60
structure gL(B:Nat)(m:Vm):Prop where
 f:m.f<m.fs.length
 fr:∀ (i:Nat) (x:Fm),m.fs[i]?=O x->adI m.fs.length x
 ag:∀ (i:Nat) (a:Ga),m.bz[i]?=O a->XK m.fs.length a
 marks:∀ (i:Nat) (a:Ga),m.bz[i]?=O a->a.mark<=m.sr.tr.length
 mono:∀ (i j:Nat) (a b:Ga),i<=j->m.bz[i]?=O a->m.bz[j]?=O b->a.mark<=b.mark
 cW:m.sr.cW<=B
 nL:m.bz.length+m.sr.fuel<=B
 pc:m.pc<=200000
 xy:∀ (i:Nat) (x:Fm),m.fs[i]?=O x->x.pc<=200000
 yn:∀ (i:Nat) (a:Ga),m.bz[i]?=O a->a.pc<=200000
end P
