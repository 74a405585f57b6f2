/- A part of one proof (PureU, PureTot, PureY, PureR, PureS, PureNx, PureZ, PureAk, PureVm). -/
import Derived.Test.YtoegidfbnkaabaaGreatDoorPkMAL
set_option linter.all false
set_option maxRecDepth 100000
set_option maxHeartbeats 8000000
open Option renaming some → O, none → V
open Bool renaming true → G, false → ae
open Option.some renaming injEq → a3I
open Nat renaming le_refl → a3O, le_trans → a3Q, le_succ → a4W, le_add_right → a47, sub_le → a5y
open List renaming mem_cons → a3T, replicate → a4r, suffix_refl → a5J
open Prod.mk renaming injEq → a4b
open Bool renaming false_eq_true → a4k
open Except.ok renaming injEq → a5C
namespace Go.Proofs.YtoegidfbnkaabaaGreatDoor
variable{M d f i m n pb:Nat}{fz:List Nat}
namespace P
structure aJg(f:Nat):Prop where
 tm:∀ {i:Nat} {t:Tm} {s:Sr} {p:Bool×Sr},zt f i t s=O (.ok p)->p.2.tr=s.tr/\p.2.fuel<=s.fuel
 FM:∀ {i:Nat} {l:List Tm} {s:Sr} {p:Bool×Sr},AU f i l s=O (.ok p)->p.2.tr=s.tr/\p.2.fuel<=s.fuel
def Jq:∀ f,aJg f
 | 0=>⟨fun h=>by simp_all [zt],fun h=>by simp_all [AU]⟩
 | f+1=>by
  have ih:=Jq f;refine⟨fun{i t s p} h=>?_,fun{i l s p} h=>?_⟩
  .rw[zt] at h;split at h
   .grind
   .split at h
    .grind
    .injection h with h;injection h with h;subst h;exact⟨J,a5y _ _⟩
    .obtain⟨c,b⟩:=ih.FM h;exact⟨c,a3Q b (a5y _ _)⟩
    .injection h with h;injection h with h;subst h;exact⟨J,a5y _ _⟩
  .cases l with
   | nil=>grind [AU]
   | cons a r=>
    rw[AU] at h;obtain⟨q,c,b⟩| ⟨e,c,b⟩:=Out.bind_some h
    .obtain⟨d,g⟩:=ih.tm c;split at b
     .grind
     .obtain⟨j,k⟩:=ih.FM b;grind
    grind
theorem aeG{i:Nat}:∀ {tr:Tr},look i tr=V->i ∉ tr.map (·.1)
 | [],_=>zs
 | (j,t)::r,h=>by
  rw[look] at h;split at h
  .grind
  .rename_i a;simp only[List.map_cons,a3T,not_or];exact⟨a,aeG h⟩
theorem Jr{tr:Tr}:∀ {f:Nat} {t:Tm} {i:Nat},fI tr f t=O (.var i)->look i tr=V
 | f,.atom a,i,h=>by simp_all [fI]
 | f,.int a,i,h=>by simp_all [fI]
 | f,.comp a l,i,h=>by simp_all [fI]
 | 0,.var j,i,h=>by
  grind [look,fI]
 | f+1,.var j,i,h=>by
  cases b:look j tr with
  | none=>simp_all [fI]
  | some t=>simp [fI,b] at h;exact Jr h
def BP:Tm->Bool
 | .comp _ _=>G
 | _=>ae
def isVar:Tm->Bool
 | .var _=>G
 | _=>ae
def Sr.cV(s:Sr):Nat:=s.tr.length+s.fuel
def aJh{t:Tm}{s:Sr}{p:Bool×Sr}(h:uk f i t s=O (.ok p)):p.2.cV<=s.cV+1/\p.2.fuel<=s.fuel:=by
 unfold uk at h;obtain⟨q,a,b⟩| ⟨e,a,b⟩:=Out.bind_some h
 .obtain⟨c,d⟩:=(Jq f).tm a;grind [Sr.cV,Sr.bind,List.length_cons]
 grind
structure aJi(f:Nat):Prop where
 tm:∀ {a b:Tm} {s:Sr} {p:Bool×Sr},lZ f a b s=O (.ok p)->p.2.cV<=s.cV/\p.2.fuel<=s.fuel
 FM:∀ {a b:List Tm} {s:Sr} {p:Bool×Sr},nO f a b s=O (.ok p)->p.2.cV<=s.cV/\p.2.fuel<=s.fuel
def FN:∀ f,aJi f
 | 0=>⟨fun h=>by simp_all [lZ],fun h=>by simp_all [nO]⟩
 | f+1=>by
  have ih:=FN f;have j:∀ {i:Nat} {t:Tm} {s:Sr} {p:Bool×Sr},s.fuel≠0->uk f i t s.dec=O (.ok p)->p.2.cV<=s.cV/\p.2.fuel<=s.fuel:=fun{i t s p} g h=>by
   obtain⟨d,c⟩:=aJh h;grind [Sr.cV,Sr.dec]
  have hdec:∀ {s:Sr},s.dec.cV<=s.cV/\s.dec.fuel<=s.fuel:=fun{s}=>by simp_all [Sr.cV,Sr.dec]
  refine⟨fun{a b s p} h=>?_,fun{a b s p} h=>?_⟩
  .rw[lZ] at h;split at h
   .grind
   .rename_i g;split at h
    .grind
    .grind
    .grind
    .split at h
     .obtain⟨d,c⟩:=ih.FM h;grind
     grind
    .grind
    grind
  .cases a with
   | nil=>rw[nO] at h<;>grind
   | cons a l=>
    cases b with
    | nil=>rw[nO] at h<;>grind
    | cons b r=>
     rw[nO] at h;obtain⟨q,d,c⟩| ⟨e,d,c⟩:=Out.bind_some h
     .obtain⟨k,m⟩:=ih.tm d;split at c
      .obtain⟨n,o⟩:=ih.FM c;omega
      grind
     grind
structure aJj(f:Nat):Prop where
 tm:∀ {a b:Tm} {s:Sr} {p:Bool×Sr},C9 f a b s=O (.ok p)->p.2.tr=s.tr/\p.2.fuel<=s.fuel
 FM:∀ {a b:List Tm} {s:Sr} {p:Bool×Sr},BO f a b s=O (.ok p)->p.2.tr=s.tr/\p.2.fuel<=s.fuel
def Up:∀ f,aJj f
 | 0=>⟨fun h=>by simp_all [C9],fun h=>by simp_all [BO]⟩
 | f+1=>by
  have ih:=Up f;have hdec:∀ {s:Sr},s.dec.tr=s.tr/\s.dec.fuel<=s.fuel:=fun{s}=>⟨J,a5y _ _⟩;refine⟨fun{a b s p} h=>?_,fun{a b s p} h=>?_⟩
  .rw[C9] at h;split at h
   .grind
   .split at h
    .split at h
     .obtain⟨d,c⟩:=ih.FM h;grind
     grind
    .grind
    grind
  .cases a with
   | nil=>rw[BO] at h<;>grind
   | cons a l=>
    cases b with
    | nil=>rw[BO] at h<;>grind
    | cons b r=>
     rw[BO] at h;obtain⟨q,d,c⟩| ⟨e,d,c⟩:=Out.bind_some h
     .obtain⟨g,i⟩:=ih.tm d;split at c
      .obtain⟨j,k⟩:=ih.FM c;grind
      grind
     grind
def Ld(z:Int):Prop:=-9223372036854775808<=z/\z<=9223372036854775807
theorem wrap64_in(z:Int):Ld (wrap64 z):=by grind [Ld,wrap64]
theorem aJk{a b:Int}(c:Ld a):Ld (a.tmod b):=by
 unfold Ld at *;have d:(a.tmod b).natAbs<=a.natAbs:=by
  simp_all [Int.natAbs_tmod,Nat.mod_le]
 by_cases e:0<=a
 .omega
 .have:a.tmod b<=0:=by
   have:=Int.tmod_nonneg (a:=-a) b zo;simp_all
  omega
def aJl{name:Bs}{a b z:Int}(c:Ld a)(h:reckon name a b = .ok z):Ld z:=by
 grind [reckon,wrap64_in,aJk]
theorem Eo:∀ (f:Nat) {t:Tm} {s:Sr} {p:Int×Sr},nG s.tr->eB t->uP f t s=O (.ok p)->p.2.tr=s.tr/\p.2.fuel<=s.fuel/\Ld p.1
 | 0,_,_,_,_,_,h=>by simp_all [uP]
 | f+1,t,s,p,ht,d,h=>by
  rw[uP] at h;split at h
  .grind
  .split at h
   .grind
   .rename_i n hw;injection h with h;injection h with h;subst h;exact⟨J,a5y _ _,by have:=xn ht d hw;unfold eB at this;exact this⟩
   .grind
   .rename_i name a b hw;have g:=xn ht d hw;unfold eB at g;obtain⟨-,-,m⟩:=g;obtain⟨o,r⟩:=N7 m;split at h
    .obtain⟨q,i,j⟩| ⟨e,i,j⟩:=Out.bind_some h
     .obtain⟨k,u,w⟩:=Eo f (s:=s.dec) ht o i;obtain⟨q2,l,c⟩| ⟨e,l,c⟩:=Out.bind_some j
      .obtain⟨g1,g2,g3⟩:=Eo f (s:=q.2) (by rw[k];exact ht) r l;split at c
       .grind
       .rename_i z x;injection c with c;injection c with c;subst c;exact⟨g1.trans k,a3Q g2 (a3Q u (a5y _ _)),aJl w x⟩
      grind
     grind
    grind
   grind
structure aJo(f:Nat):Prop where
 tm:∀ {a b:Tm} {s:Sr} {p:Bool×Sr},lZ f a b s=O (.ok p)->s.tr <:+ p.2.tr
 FM:∀ {a b:List Tm} {s:Sr} {p:Bool×Sr},nO f a b s=O (.ok p)->s.tr <:+ p.2.tr
theorem aeH{t:Tm}{s:Sr}{p:Bool×Sr}(h:uk f i t s=O (.ok p)):s.tr <:+ p.2.tr:=by
 unfold uk at h;obtain⟨q,b,a⟩| ⟨e,b,a⟩:=Out.bind_some h
 .have c:=((Jq f).tm b).1;split at a
  .grind
  .injection a with a;injection a with a;subst a;rw[<- c];exact List.suffix_cons _ _
 grind
def N9:∀ f,aJo f
 | 0=>⟨fun h=>by simp_all [lZ],fun h=>by simp_all [nO]⟩
 | f+1=>by
  have ih:=N9 f;refine⟨fun{a b s p} h=>?_,fun{a b s p} h=>?_⟩
  .have i:s.dec.tr=s.tr:=rfl;rw[lZ] at h;split at h
   .grind
   .split at h
    .grind [a5J,aeH]
    .grind [aeH]
    .grind [aeH]
    .split at h
     .exact(show s.dec.tr <:+ p.2.tr from ih.FM h)
     grind
    .grind
    grind
  .cases a with
   | nil=>grind [nO,a5J]
   | cons a l=>
    cases b with
    | nil=>grind [nO,a5J]
    | cons b r=>
     rw[nO] at h;obtain⟨q,d,c⟩| ⟨e,d,c⟩:=Out.bind_some h
     .have g:=ih.tm d;split at c
      .exact g.trans (ih.FM c)
      grind
     grind
inductive FO(tr:Tr)(i:Nat):Tm->Prop
 | here:look i tr=V->FO tr i (.var i)
 | via {j:Nat} {t:Tm}:look j tr=O t->FO tr i t->FO tr i (.var j)
 | arg {n:Bs} {l:List Tm} {a:Tm}:a∈l->FO tr i a->FO tr i (.comp n l)
def zv:Tr->Prop
 | []=>True
 | (i,t)::r=>zv r/\look i r=V/\¬ FO r i t
def zv.drop:∀ (k:Nat) {tr:Tr},zv tr->zv (tr.drop k)
 | 0,_,h=>h
 | _+1,[],h=>h
 | k+1,(_,_)::_,h=>zv.drop k h.1
def aoa{tr:Tr}{i:Nat}:∀ {f:Nat} {t u:Tm},fI tr f t=O u->(FO tr i t↔FO tr i u)
 | f,.atom s,u,h=>by simp_all [fI]
 | f,.int s,u,h=>by simp_all [fI]
 | f,.comp s l,u,h=>by simp_all [fI]
 | 0,.var j,u,h=>by
  grind [fI]
 | f+1,.var j,u,h=>by
  rw[fI] at h;split at h
  .grind
  .rename_i t b;rw[<- aoa h];constructor
   .intro a;cases a with
    | here c=>grind
    | via d e=>grind
   .exact fun a=>.via b a
def aob:∀ f,(∀ i t s s',zt f i t s=O (.ok (ae,s'))->look i s.tr=V->¬ FO s.tr i t)/\(∀ i l s s',AU f i l s=O (.ok (ae,s'))->look i s.tr=V->∀ t∈l,¬ FO s.tr i t)
 | 0=>⟨fun _ _ _ _ h=>(by cases h),fun _ _ _ _ h=>(by cases h)⟩
 | f+1=>by
  obtain⟨m,d⟩:=aob f;constructor
  .intro i t s s' h hi;rw[zt] at h;split at h
   .grind
   .cases hw:fI s.tr f t with
    | none=>grind
    | some u=>
     rw[hw] at h;rw[aoa hw];cases u with
     | atom a=>intro c;cases c
     | int a=>intro c;cases c
     | var j=>
      simp only[a3I,a5C,a4b,decide_eq_false_iff_not] at h;intro c;cases c with
      | here o=>omega
      | via q c=>grind [Jr]
     | comp n l=>
      intro c;cases c with
      | arg g c=>exact d i l s.dec s' h hi _ g c
  .intro i l s s' h hi;cases l with
   | nil=>grind
   | cons a l=>
    rw[AU] at h;obtain⟨p,g1,g2⟩| ⟨e,g1,g2⟩:=Out.bind_some h
    .split at g2
     .grind
     .rename_i r;obtain⟨b,s1⟩:=p;have k:b=false:=zg;subst k;have ht:s1.tr=s.tr:=((Jq f).tm g1).1;grind
    grind
theorem aeI{t:Tm}{s:Sr}{p:Bool×Sr}(ht:zv s.tr)(hi:look i s.tr=V)(h:uk f i t s=O (.ok p)):zv p.2.tr:=by
 unfold uk at h;obtain⟨q,a,c⟩| ⟨e,a,c⟩:=Out.bind_some h
 .obtain⟨b,s1⟩:=q;have d:s1.tr=s.tr:=((Jq f).tm a).1;cases b with
  | true=>
   grind
  | false=>
   simp only[a4k,if_false,a3I,a5C] at c;subst c;show zv ((i,t)::s1.tr);rw[d];exact⟨ht,hi,(aob f).1 _ _ _ _ a hi⟩
 grind
def aoc:∀ f,(∀ a b s p,zv s.tr->lZ f a b s=O (.ok p)->zv p.2.tr)/\(∀ l r s p,zv s.tr->nO f l r s=O (.ok p)->zv p.2.tr)
 | 0=>⟨fun _ _ _ _ _ h=>(by cases h),fun _ _ _ _ _ h=>(by cases h)⟩
 | f+1=>by
  obtain⟨d,g⟩:=aoc f;constructor
  .intro a b s p ht h;rw[lZ] at h;split at h
   .grind
   .cases hw:fI s.tr f a with
    | none=>grind
    | some u=>
     cases hv:fI s.tr f b with
     | none=>grind
     | some v=>
      rw[hw,hv] at h;have c:zv s.dec.tr:=ht;cases u with
      | var i=>
       have hi:look i s.dec.tr=none:=Jr hw;grind [aeI]
      | comp n l=>
       cases v with
       | var j=>exact aeI c (Jr hv) h
       | comp m r=>
        grind
       | _=>injection h with h;injection h with h;subst h;exact ht
      | _=>
       cases v with
       | var j=>exact aeI c (Jr hv) h
       | _=>injection h with h;injection h with h;subst h;exact ht
  .intro l r s p ht h;cases l with
   | nil=>grind [nO]
   | cons a l=>
    cases r with
    | nil=>grind [nO]
    | cons b r=>
     rw[nO] at h;obtain⟨q,g1,g2⟩| ⟨e,g1,g2⟩:=Out.bind_some h<;>grind
def Dfd{α:Type}(F:Nat->Option α):Prop:=∃ f r,F f=O r
def Mon{α:Type}(F:Nat->Option α):Prop:=∀ f,Le (F f) (F (f+1))
def aJq(a b:Tm)(s:Sr):Mon (fun f=>lZ f a b s):=fun f=>(Uo f).1 a b s
def aJr(n:Bs)(a:List Tm)(s:Sr):Mon (fun f=>yk f n a s):=fun f=>aJf
structure Goal where
 FP:Option Bd
 vars:List Nat
 cut:Nat
structure oL where
 mark:Nat
 todo:List Goal
 clauses:List Cl
 args:List Tm
structure Wk where
 n:Nat
 sr:Sr
 todo:List Goal
 bz:List oL
def vM(f:Nat)(vars:List Nat):List Tm->List Ex->Sr->Out (Bool×Sr)
 | a::l,x::r,s=>Out.bind (lZ f a (made vars x) s) fun p=>if p.1 then vM f vars l r p.2 else O (.ok (ae,p.2))
 | _,_,s=>O (.ok (G,s))
def xo(bz:List oL)(m:Nat):List Cl->List oL
 | []=>bz.take m
 | c::r=>match bz[m]? with
  | some a=>bz.take m++[{ a with clauses:=c::r }]
  | none=>bz.take m
def xp(f:Nat)(args:List Tm)(l:List Cl)(todo:List Goal)(m:Nat)(k:Wk):Out (Bool×Wk):=
 if k.sr.fuel=0 then O (.error .Em)
 else match l with
  | []=>V
  | c::rest=>
   Out.bind (vM f (List.range' k.n c.vars.length) args c.args k.sr.dec) fun p=>
    if p.1 then O (.ok (G,⟨k.n+c.vars.length,p.2,⟨O c.body,List.range' k.n c.vars.length,m⟩::todo,xo k.bz m rest⟩))
    else O (.ok (ae,⟨k.n+c.vars.length,p.2,k.todo,xo k.bz m rest⟩))
def Lf(base:List Cl)(f:Nat)(name:Bs)(ex:List Ex)(vars:List Nat)(k:Wk):Out (Bool×Wk):=
 if jx name=ex.length then Out.bind (yk f name (n9 vars ex) k.sr) fun p=>O (.ok (p.1,{ k with sr:=p.2 }))
 else match base.filter fun c=>c.name == name && c.args.length == ex.length with
  | []=>O (.error (.fault 10))
  | l=>xp f (n9 vars ex) l k.todo k.bz.length { k with bz:=k.bz++[⟨k.sr.tr.length,k.todo,l,n9 vars ex⟩] }
def Wk.Yo(k:Wk)(todo:List Goal):Wk:={ k with bz:=k.bz++[⟨k.sr.tr.length,todo,[],[]⟩] }
def Ep(base:List Cl)(f:Nat)(g:Goal)(k:Wk):Out (Bool×Wk):=
 if k.sr.fuel=0 then O (.error .Em)
 else
  let k:={ k with sr:=k.sr.dec }
  match g.FP with
  | none=>O (.ok (G,{ k with bz:=k.bz.take g.cut }))
  | some (.mk kind name args parts)=>
   if kind=33 then O (.ok (G,{ k with bz:=k.bz.take g.cut }))
   else if kind=44 then O (.ok (G,{ k with todo:=(parts.map fun p=>⟨O p,g.vars,g.cut⟩)++k.todo }))
   else if kind=59 then match parts with
    | [a,b]=>O (.ok (G,{ k.Yo (⟨O b,g.vars,g.cut⟩::k.todo) with todo:=⟨O a,g.vars,g.cut⟩::k.todo }))
    | _=>V
   else if kind=63 then match parts with
    | [a,b,c]=>O (.ok (G,{ k.Yo (⟨O c,g.vars,g.cut⟩::k.todo) with todo:=⟨O a,g.vars,k.bz.length⟩::⟨V,[],k.bz.length⟩::⟨O b,g.vars,g.cut⟩::k.todo }))
    | _=>V
   else if kind=126 then match parts with
    | [a]=>O (.ok (G,{ k.Yo k.todo with todo:=[⟨O a,g.vars,k.bz.length⟩,⟨V,[],k.bz.length⟩,⟨O As,[],0⟩] }))
    | _=>V
   else Lf base f name args g.vars k
def kY(base:List Cl)(d:Nat):Nat->Bool->Wk->Out (Bool×Wk)
 | 0,_,_=>V
 | f+1,G,k=>match k.todo with
  | []=>O (.ok (G,{ k with todo:=[⟨O As,[],0⟩] }))
  | g::r=>Out.bind (Ep base d g { k with todo:=r }) fun p=>kY base d f p.1 p.2
 | f+1,ae,k=>match k.bz.getLast? with
  | none=>O (.ok (ae,k))
  | some a=>match a.clauses with
   | []=>kY base d f G { k with sr:=k.sr.iH a.mark,todo:=a.todo,bz:=k.bz.dropLast }
   | c::l=>Out.bind (xp d a.args (c::l) a.todo (k.bz.length-1) { k with sr:=k.sr.iH a.mark }) fun p=>kY base d f p.1 p.2
def Oa(tr:Tr)(f:Nat):List Bs->List Tm->Ws->Option (Option Ws)
 | nm::l,t::r,s=>
  if nm.head?=O 95 then Oa tr f l r s
  else Wb (lF tr f t 0 ((if s.out=[] then s else s.add [44,32]).add (nm++[32,61,32]))) fun s=>Oa tr f l r s
 | _,_,s=>O (O s)
structure Qw where
 err:Nat
 wk:Wk
def Qw.new(b:Bd)(nv:Nat):Qw:=⟨0,nv,⟨[],0⟩,[⟨O b,List.range nv,0⟩],[]⟩
structure zw(M:Nat)(c:Cl):Prop where
 body:eZ c.vars.length M c.body
 args:fj c.vars.length c.args
 qQ:c.args.length<=4
 sz:fJ c.args<=M
 vars:c.vars.length<=M
def nP(M n:Nat):Nat->List Goal->Prop
 | _,[]=>True
 | h,g::r=>g.cut<=h/\(∀ i∈g.vars,i<n)/\(∀ b,g.FP=O b->eZ g.vars.length M b)/\nP M n g.cut r
theorem nP.up{M n:Nat}:∀ {l:List Goal} {h a:Nat},nP M n h l->h<=a->nP M n a l
 | [],_,_,_,_=>trivial
 | _::_,_,_,b,c=>⟨a3Q b.1 c,b.2⟩
def nP.more{M n b:Nat}(c:n<=b):∀ {l:List Goal} {h:Nat},nP M n h l->nP M b h l
 | [],_,_=>trivial
 | _::_,_,a=>⟨a.1,fun i hi=>Nat.lt_of_lt_of_le (a.2.1 i hi) c,a.2.2.1,a.2.2.2.more c⟩
structure Lg(M n i:Nat)(a:oL):Prop where
 todo:nP M n i a.todo
 args:jF a.args
 qQ:a.args.length<=4
 cls:∀ c∈a.clauses,zw M c/\c.args.length=a.args.length
structure aJt(M:Nat)(k:Wk):Prop where
 todo:nP M k.n k.bz.length k.todo
 ag:∀ (i:Nat) (a:oL),k.bz[i]?=O a->Lg M k.n i a
 marks:∀ (i:Nat) (a:oL),k.bz[i]?=O a->a.mark<=k.sr.tr.length
 mono:∀ (i j:Nat) (a b:oL),i<=j->k.bz[i]?=O a->k.bz[j]?=O b->a.mark<=b.mark
section
def aoe{f:Nat}{vs:List Nat}:∀ {l:List Tm} {r:List Ex} {s:Sr} {p:Bool×Sr},vM f vs l r s=O (.ok p)->s.tr <:+ p.2.tr/\p.2.fuel<=s.fuel/\p.2.cV<=s.cV
 | [],r,s,p,h=>by rw[vM] at h<;>grind
 | a::l,[],s,p,h=>by rw[vM] at h<;>grind
 | a::l,x::r,s,p,h=>by
  rw[vM] at h;obtain⟨q,b,c⟩| ⟨e,b,c⟩:=Out.bind_some h
  .obtain⟨d,g⟩:=(FN f).tm b;have i:=(N9 f).tm b;split at c
   .obtain⟨g1,g2,g3⟩:=aoe c;grind
   grind
  grind
def aJu{s:Sr}{t:Tr}(h:t <:+ s.tr)(a:n=t.length):(s.iH n).tr=t:=by
 obtain⟨u,h⟩:=h;subst a;unfold Sr.iH;simp only;rw[<- h];simp
def aof{name:Bs}{args:List Tm}{s:Sr}{p:Bool×Sr}(ht:nG s.tr)(l:∀ t∈args,eB t)(i:jx name=args.length)(h:yk f name args s=O (.ok p)):s.tr <:+ p.2.tr/\p.2.fuel<=s.fuel/\p.2.cV<=s.cV:=by
 have k:∀ j,j<args.length->eB (args.getD j default):=fun j m=>by
  grind
 have cV:∀ {s':Sr},s'.tr=s.tr->s'.fuel<=s.fuel->s'.cV<=s.cV:=fun b a=>by simp_all [Sr.cV]
 unfold yk at h;split at h
 .grind
 split at h
 .exact⟨(N9 f).tm h,((FN f).tm h).2,((FN f).tm h).1⟩
 split at h
 .obtain⟨q,b,a⟩| ⟨e,b,a⟩:=Out.bind_some h
  .injection a with a;injection a with a;subst a;have d:=(N9 f).tm b;have c:=((FN f).tm b).2;have g:=aJu d J;exact⟨zg,c,cV g c⟩
  grind
 split at h
 .obtain⟨b,a⟩:=(Up f).tm h;grind
 split at h
 .obtain⟨q,b,a⟩| ⟨e,b,a⟩:=Out.bind_some h
  .obtain⟨g1,g2,-⟩:=Eo f ht (k 1 (by have n:(2:Int)=args.length:=(by subst_vars;exact i);omega)) b;have d:=(N9 f).tm a;obtain⟨c,g⟩:=(FN f).tm a;grind
  grind
 split at h
 .grind
 split at h
 .grind
 .obtain⟨q,b,a⟩| ⟨e,b,a⟩:=Out.bind_some h
  .obtain⟨q2,d,c⟩| ⟨e,d,c⟩:=Out.bind_some a
   .grind [jx,Eo,a5J]
   grind
  grind
def Yp{bz:List oL}{rest:List Cl}{a:oL}(h:(xo bz m rest)[i]?=O a):∃ b,bz[i]?=O b/\i<=m/\a.mark=b.mark/\a.todo=b.todo/\a.args=b.args/\(a.clauses=b.clauses\/(i=m/\a.clauses=rest))/\(i=m->rest≠[]):=by
 cases rest with
 | nil=>
  grind [xo]
 | cons c r=>
  grind [xo]
def aJv{bz:List oL}{rest:List Cl}(hm:m<=bz.length)(a:rest≠[]->m<bz.length):(xo bz m rest).length=if rest=[] then m else m+1:=by
 cases rest with
 | nil=>rw[xo,List.length_take,zip rfl];omega
 | cons c r=>
  simp_all [xo,List.getElem?_eq_getElem,bU,List.length_append,List.length_take,List.length_cons,List.length_nil]
structure mh(M B:Nat)(k:Wk):Prop extends aJt M k where
 cV:k.sr.cV<=B
 nQ:k.bz.length+k.sr.fuel<=B
variable{B:Nat}
def Lg.more{M n b i:Nat}{a:oL}(h:Lg M n i a)(c:n<=b):Lg M b i a:=⟨h.todo.more c,h.args,h.qQ,h.cls⟩
def aog{args:List Tm}{l:List Cl}{td:List Goal}{k k':Wk}{b:Bool}(hk:mh M B k)(hm:m<=k.bz.length)(w:1<l.length->m<k.bz.length)(P:m<k.bz.length\/True)(D:nP M k.n m td)
  (E:∀ c∈l,zw M c) (Q:∀ a,k.bz[m]?=O a->∀ c∈l,c.args.length=a.args.length) (h:xp f args l td m k=O (.ok (b,k'))):mh M B { k' with todo:=if b then k'.todo else [] }/\k.n<=k'.n/\k'.sr.fuel<k.sr.fuel:=by
 unfold xp at h;split at h
 .grind
 rename_i R;cases l with
 | nil=>grind
 | cons c rest=>
 simp only at h;obtain⟨p,y,d⟩| ⟨e,y,d⟩:=Out.bind_some h
 .obtain⟨g1,g2,g3⟩:=aoe y;have gf:k.sr.dec.fuel=k.sr.fuel-1:=rfl;have gt:k.sr.dec.tr=k.sr.tr:=rfl;have gp:k.sr.dec.cV<=k.sr.cV:=by simp_all [Sr.cV]
  have hlen:=aJv (rest:=rest) hm (fun hr=>w (by cases rest with | nil=>grind | cons _ _=>simp));have F:(xo k.bz m rest).length<=k.bz.length/\m<=(xo k.bz m rest).length:=by
   rw[hlen];split
   .omega
   .rename_i hr;have:=w (by cases rest with | nil=>grind | cons _ _=>simp);omega
  have z:∀ (i:Nat) (a:oL),(xo k.bz m rest)[i]?=O a->Lg M (k.n+c.vars.length) i a:=fun i a hi=>by
   obtain⟨b,q,S,o,r,s,t,-⟩:=Yp hi;have g:=(hk.ag i b q).more (a47 k.n c.vars.length);refine⟨by rw[r];exact g.todo,by rw[s];exact g.args,by rw[s];exact g.qQ,fun x hx=>?_⟩;rcases t with t | ⟨rfl,t⟩
   .rw[s];exact g.cls x zg
   grind
  have A:∀ (i:Nat) (a:oL),(xo k.bz m rest)[i]?=O a->a.mark<=p.2.tr.length:=fun i a hi=>by
   obtain⟨b,q,-,o,-⟩:=Yp hi;rw[o];have:=hk.marks i b q;grind
  have C:∀ (i j:Nat) (a b:oL),i<=j->(xo k.bz m rest)[i]?=O a->(xo k.bz m rest)[j]?=O b->a.mark<=b.mark:=fun i j a b H hi I=>by
   obtain⟨a',K,-,o,-⟩:=Yp hi;obtain⟨L,g,-,r,-⟩:=Yp I;rw[o,r];exact hk.mono i j a' L H K g
  have N:=E c (List.mem_cons_self ..);have T:=hk.cV;have U:=hk.nQ;split at d
  .injection d with d;injection d with d;injection d with d u;subst d u;refine⟨⟨⟨⟨F.2,fun i hi=>?_,fun x hx=>?_,D.more (a47 _ _)⟩,z,A,C⟩,zg,zg⟩,a47 _ _,zg⟩
   .grind
   .injection hx with hx;subst hx;rw[List.length_range'];exact N.body
  .injection d with d;injection d with d;injection d with d u;subst d u;exact⟨⟨⟨trivial,z,A,C⟩,zg,zg⟩,a47 _ _,zg⟩
 grind
theorem aeJ:∀ {l:List Tm} {t:Tm},jF l->t∈l->eB t
 | [],_,_,h=>zg
 | a::l,t,h,ht=>by
  unfold jF at h;rcases a3T.1 ht with rfl | ht
  .grind
  .exact aeJ h.2 ht
def mh.more{k:Wk}(hk:mh M B k){a:oL}{s:Sr}(f:s.tr=k.sr.tr)(q:s.fuel<k.sr.fuel)(hm:a.mark=k.sr.tr.length)(r:Lg M k.n k.bz.length a){td:List Goal}(t:nP M k.n (k.bz.length+1) td) :
  mh M B { k with sr:=s,todo:=td,bz:=k.bz++[a] }:=by
 have u:(k.bz++[a]).length=k.bz.length+1:=zs;have d:∀ (i:Nat) (b:oL),(k.bz++[a])[i]?=O b->(i<k.bz.length/\k.bz[i]?=O b)\/(i=k.bz.length/\b=a):=fun i b h=>by
  grind
 have w:=hk.cV;have x:=hk.nQ;refine⟨⟨zg,fun i b h=>?_,fun i b h=>?_,fun i j b c g l m=>?_⟩,?_,?_⟩
 .rcases d i b h with⟨_,h⟩| ⟨rfl,rfl⟩
  .exact hk.ag i b h
  omega
 .show b.mark<=s.tr.length;rw[f];rcases d i b h with⟨_,h⟩| ⟨rfl,rfl⟩
  .exact hk.marks i b h
  omega
 .rcases d i b l with⟨_,e⟩| ⟨y,z⟩
  .rcases d j c m with⟨_,o⟩| ⟨A,p⟩
   .exact hk.mono i j b c g e o
   .rw[p,hm];exact hk.marks i b e
  grind
 .grind [Sr.cV]
 grind
theorem mh.cut{k:Wk}(hk:mh M B k){s:Sr}(e:k.sr.tr <:+ s.tr)(o:s.fuel<=k.sr.fuel)(p:s.cV<=k.sr.cV+1)(q:s.fuel<k.sr.fuel\/s.cV<=k.sr.cV)(d:s.cV<=B){td:List Goal}(hm:m<=k.bz.length)(r:nP M k.n m td) :
  mh M B { k with sr:=s,todo:=td,bz:=k.bz.take m }:=by
 have t:(k.bz.take m).length=m:=zg;have a:∀ (i:Nat) (b:oL),(k.bz.take m)[i]?=O b->k.bz[i]?=O b:=fun i b h=>by
  grind
 have u:=hk.nQ;refine⟨⟨zg,fun i b h=>hk.ag i b (a i b h),fun i b h=>a3Q (hk.marks i b (a i b h)) e.length_le,fun i j b c f g l=>hk.mono i j b c f (a i b g) (a j c l)⟩,d,?_⟩;grind
theorem nP.map{M n h:Nat}{vs:List Nat}(hv:∀ i∈vs,i<n):∀ {parts:List Bd} {r:List Goal},fa vs.length M parts->nP M n h r->nP M n h ((parts.map fun p=>⟨O p,vs,h⟩)++r)
 | [],_,_,hr=>hr
 | p::ps,r,a,hr=>by
  unfold fa at a;exact⟨a3O _,hv,fun b c=>zg,nP.map hv a.2 hr⟩
def aoi{base:List Cl}{g:Goal}{r:List Goal}{k k':Wk}{b:Bool}(hk:mh M B { k with todo:=g::r })(U:nG k.sr.tr)(W:∀ c∈base,zw M c)(h:Ep base f g { k with todo:=r }=O (.ok (b,k'))) :
  mh M B { k' with todo:=if b then k'.todo else [] }/\k.n<=k'.n/\k'.sr.fuel<k.sr.fuel:=by
 obtain⟨hcut,K,L,hr⟩:=(hk.todo:nP M k.n k.bz.length (g::r));have hcut:g.cut<=k.bz.length:=hcut;have z:k.sr.cV<=B:=hk.cV;have X:k.bz.length+k.sr.fuel<=B:=hk.nQ;unfold Ep at h;split at h
 .grind
 rename_i D;have D:¬ k.sr.fuel=0:=D;have gf:k.sr.dec.fuel=k.sr.fuel-1:=rfl;have gt:k.sr.dec.tr=k.sr.tr:=rfl;have gp:k.sr.dec.cV<=k.sr.cV:=by simp_all [Sr.cV]
 have N:mh M B { k with todo:=[],sr:=k.sr.dec }:=⟨⟨trivial,hk.ag,hk.marks,hk.mono⟩,a3Q gp z,zg⟩;have P:∀ td,nP M k.n g.cut td->mh M B { k with sr:=k.sr.dec,todo:=td,bz:=k.bz.take g.cut }:=fun td d=>
  N.cut (a5J _) (a3O _) (a4W _) (.inr (a3O _)) (a3Q gp z) hcut d
 have s:k.sr.dec.fuel<k.sr.fuel:=zo;have w:∀ (a:oL) (td:List Goal),a.mark=k.sr.tr.length->Lg M k.n k.bz.length a->nP M k.n (k.bz.length+1) td->mh M B { k with sr:=k.sr.dec,todo:=td,bz:=k.bz++[a] }:=fun a td hm Q d=>
  mh.more (k:={ k with todo:=g::r }) hk gt s hm Q d
 have x:nP M k.n k.bz.length r:=hr.up hcut;have y:∀ {td:List Goal},nP M k.n g.cut td->nP M k.n k.bz.length td:=fun h=>h.up hcut;cases E:g.FP with
 | none=>
  grind
 | some bd=>
  obtain⟨kind,name,args,parts⟩:=bd;rw[E] at h;simp only at h;have fc:=L _ E;unfold eZ at fc;obtain⟨mY,nW,⟨QI,QJ,QK⟩,Er,R,jC,j3,j⟩:=fc;split at h
  .grind
  split at h
  .simp only[a3I,a5C,a4b] at h;obtain⟨rfl,rfl⟩:=h;refine⟨⟨⟨?_,hk.ag,hk.marks,hk.mono⟩,a3Q gp z,zg⟩,a3O _,s⟩;grind [nP.map]
  have one:∀ {p:Bd},eZ g.vars.length M p->∀ {o:Nat} {td:List Goal},nP M k.n o td->nP M k.n o (⟨O p,g.vars,o⟩::td):=fun hp=>fun d=>⟨a3O _,K,fun b A=>zg,d⟩;have u:∀ {o:Nat} {td:List Goal},nP M k.n o td->nP M k.n o (⟨V,[],o⟩::td):=fun d=>⟨a3O _,(fun i hi=>zg),(fun b A=>zg),d⟩;have q:∀ {td:List Goal},nP M k.n k.bz.length td->Lg M k.n k.bz.length ⟨k.sr.tr.length,td,[],[]⟩:=fun d=>⟨d,(by simp_all [jF]),zs,(fun c S=>zg)⟩;split at h
  .split at h
   .rename_i F pb;unfold fa fa fa at j;simp only[a3I,a5C,a4b] at h;obtain⟨rfl,rfl⟩:=h;exact⟨w _ _ J (q (y (one j.2.1 hr))) ((y (one j.1 hr)).up (a4W _)),a3O _,s⟩
   grind
  split at h
  .split at h
   .rename_i F pb pc;unfold fa fa fa fa at j;simp only[a3I,a5C,a4b] at h;obtain⟨rfl,rfl⟩:=h;exact⟨w _ _ J (q (y (one j.2.2.1 hr))) ((one j.1 (u (y (one j.2.1 hr)))).up (a4W _)),a3O _,s⟩
   grind
  split at h
  .split at h
   .rename_i F;unfold fa fa at j;simp only[a3I,a5C,a4b] at h;obtain⟨rfl,rfl⟩:=h;refine⟨w _ _ J (q x) ((one j.1 (u (show nP M k.n k.bz.length [⟨O As,[],0⟩] from⟨Nat.zero_le _,(fun i hi=>zg),(fun b A=>by grind [aey]),trivial⟩))).up (a4W _)),a3O _,s⟩
   grind
  .unfold Lf at h;have H:=K9 g.vars args R;split at h
   .rename_i ht;obtain⟨p,I,m⟩| ⟨e,I,m⟩:=Out.bind_some h
    .injection m with m;injection m with m;injection m with m T;subst m T;obtain⟨C,e2,e3⟩:=aof zg (fun t ht=>aeJ H.1 ht) zo I;have C:k.sr.tr <:+ p.2.tr:=C;refine⟨⟨⟨?_,hk.ag,fun i a hi=>a3Q (hk.marks i a hi) C.length_le,hk.mono⟩,zg,zg⟩,a3O _,zg⟩;split
     .omega
     .trivial
    grind
   .split at h
    .grind
    .rename_i l ef;have A:=aog (k:={ k with sr:=k.sr.dec,todo:=r,bz:=k.bz++[⟨k.sr.dec.tr.length,r,base.filter (fun c=>c.name == name && c.args.length == args.length),n9 g.vars args⟩] }) (M:=M) (B:=B) ?_ ?_ ?_ (.inr trivial) x ?_ ?_ h
     .grind
     .refine w _ _ J ⟨x,H.1,zg,fun c S=>?_⟩ (x.up (a4W _));grind
     .grind
     .grind
     .grind
     grind
theorem mh.iH{M:Nat}{k:Wk}(hk:mh M B { k with todo:=[] }){a:oL}(j:k.bz.getLast?=O a) :
  mh M B { k with sr:=k.sr.iH a.mark,todo:=[] }/\k.bz[k.bz.length-1]?=O a/\a.mark<=k.sr.tr.length/\(k.sr.iH a.mark).fuel=k.sr.fuel:=by
 have c:k.bz[k.bz.length-1]?=O a:=zg;have g:a.mark<=k.sr.tr.length:=hk.marks _ _ c;have d:(k.sr.iH a.mark).tr.length=a.mark:=by
  grind [Sr.iH,List.length_drop]
 have e:=hk.cV;have h:=hk.nQ;refine⟨⟨⟨trivial,hk.ag,fun i b f=>?_,hk.mono⟩,?_,h⟩,c,g,J⟩
 .show b.mark<=(k.sr.iH a.mark).tr.length;rw[d];have:=(List.getElem?_eq_some_iff.1 f).1;exact hk.mono i _ b a zg f c
 .show(k.sr.iH a.mark).cV<=_;have e:k.sr.tr.length+k.sr.fuel<=B:=e;unfold Sr.cV;rw[d];show a.mark+k.sr.fuel<=_;omega
def mh.back{k:Wk}(hk:mh M B { k with todo:=[] }){a:oL}(c:k.bz.getLast?=O a):mh M B { k with sr:=k.sr.iH a.mark,todo:=a.todo,bz:=k.bz.dropLast }:=by
 obtain⟨b,d,e,f⟩:=hk.iH c;have g:=b.cut (m:=k.bz.length-1) (a5J _) (a3O _) (a4W _) (.inr (a3O _)) b.cV (a5y _ _) (b.ag _ _ d).todo;simp_all [List.dropLast_eq_take]
def mh.again{k k':Wk}(hk:mh M B { k with todo:=[] }){a:oL}(o:k.bz.getLast?=O a){b:Bool}(h:xp d a.args a.clauses a.todo (k.bz.length-1) { k with sr:=k.sr.iH a.mark }=O (.ok (b,k'))) :
  mh M B { k' with todo:=if b then k'.todo else [] }/\k.n<=k'.n/\k'.sr.fuel<k.sr.fuel:=by
 obtain⟨l,m,t,u⟩:=hk.iH o;have g:=l.ag _ _ m;have i:xp d a.args a.clauses a.todo (k.bz.length-1) { k with sr:=k.sr.iH a.mark,todo:=[] }=O (.ok (b,{ k' with todo:=if b then k'.todo else [] })):=by
  unfold xp at h ⊢;simp only at h ⊢;split at h
  .grind
  .rename_i q;rw[bU q]
   revert h
   split
   .grind
   .intro h;obtain⟨p,r,s⟩| ⟨e,r,s⟩:=Out.bind_some h
    .grind [Out.eo]
    grind
 have:=aog l (a5y _ _) (fun _=>zg) (.inr trivial) g.todo (fun c j=>(g.cls c j).1) (fun b f c j=>by
  have f:k.bz[k.bz.length-1]?=O b:=f;rw[m] at f;injection f with f;subst f;exact(g.cls c j).2) i
 grind
end
section
variable{B:Nat}
structure WFu(tr:Tr)(f:Nat):Prop where
 tm:∀ t l s r,lF tr f t l s=O (O r)->r.fuel<s.fuel
 comp:∀ n a l s r,zm tr f n a l s=O (O r)->r.fuel<=s.fuel
 args:∀ c a s r,tE tr f c a s=O (O r)->r.fuel<=s.fuel
 list:∀ c a b s r,vL tr f c a b s=O (O r)->r.fuel<s.fuel
section
variable{tr:Tr}(ht:zv tr){n:Nat}(ih:∀ s:Ws,s.fuel<n->∀ t l,Dfd (fun f=>lF tr f t l s))
include ih
end
theorem aJx{t:Tm}{s:Sr}{p:Bool×Sr}(hk:nG s.tr)(ht:eB t)(h:uk f i t s=O (.ok p)):nG p.2.tr:=by
 unfold uk at h;obtain⟨q,c,a⟩| ⟨e,c,a⟩:=Out.bind_some h
 .obtain⟨b,s1⟩:=q;have d:s1.tr=s.tr:=((Jq f).tm c).1;cases b with
  | true=>
   grind
  | false=>
   simp only[a4k,if_false,a3I,a5C] at a;subst a;show nG ((i,t)::s1.tr);rw[d];exact⟨ht,hk⟩
 grind
def aok:eB (.var i):=by simp_all [eB]
def aol:∀ f,(∀ a b s p,nG s.tr->eB a->eB b->lZ f a b s=O (.ok p)->nG p.2.tr)/\(∀ l r s p,nG s.tr->jF l->jF r->nO f l r s=O (.ok p)->nG p.2.tr)
 | 0=>⟨fun _ _ _ _ _ _ _ h=>(by cases h),fun _ _ _ _ _ _ _ h=>(by cases h)⟩
 | f+1=>by
  obtain⟨i,j⟩:=aol f;constructor
  .intro a b s p ht c d h;rw[lZ] at h;split at h
   .grind
   .cases hw:fI s.tr f a with
    | none=>grind
    | some u=>
     cases hv:fI s.tr f b with
     | none=>grind
     | some v=>
      rw[hw,hv] at h;have k:nG s.dec.tr:=ht;have hu:=xn ht c hw;have m:=xn ht d hv;grind [aJx,eB]
  .intro l r s p ht g hr h;cases l with
   | nil=>grind [nO]
   | cons a l=>
    cases r with
    | nil=>grind [nO]
    | cons b r=>
     unfold jF at g hr;rw[nO] at h;obtain⟨q,g1,g2⟩| ⟨e,g1,g2⟩:=Out.bind_some h<;>grind
structure lO(s:Sr):Prop where
 FU:zv s.tr
 ok:nG s.tr
theorem lO.iH{s:Sr}(h:lO s)(m:Nat):lO (s.iH m):=⟨h.FU.drop _,P.nG.aom _ h.ok⟩
where
 P.nG.aom:∀ (k:Nat) {tr:Tr},nG tr->nG (tr.drop k)
  | 0,_,h=>h
  | _+1,[],h=>h
  | k+1,(_,_)::_,h=>P.nG.aom k h.2
theorem lO.Hq{a b:Tm}{s:Sr}{p:Bool×Sr}(h:lO s)(c:eB a)(d:eB b)(hr:lZ f a b s=O (.ok p)):lO p.2:=⟨(aoc f).1 _ _ _ _ h.FU hr,(aol f).1 _ _ _ _ h.ok c d hr⟩
theorem lO.test{name:Bs}{args:List Tm}{s:Sr}{p:Bool×Sr}(g:lO s)(l:∀ t∈args,eB t)(m:jx name=args.length)(h:yk f name args s=O (.ok p)):lO p.2:=by
 have d:∀ j,j<args.length->eB (args.getD j default):=fun j n=>by
  grind
 have two:∀ x∈([[61],[92,61],[61,61],[105,115],[60],[62],[61,60],[62,61],[61,58,61]]:List Bs),name=x->1<args.length:=fun x hx e=>by
  subst e;have:jx name=2:=by
   simp only[a3T,List.not_mem_nil,or_false] at hx;rcases hx with rfl | rfl | rfl | rfl | rfl | rfl | rfl | rfl | rfl<;>rfl
  omega
 have tr:∀ {q:Sr},q.tr=s.tr->lO q:=fun e=>⟨by grind [FU],by grind [ok]⟩;unfold yk at h;split at h
 .grind
 split at h
 .grind [Hq]
 split at h
 .rename_i c;have:=two [92,61] zs c;obtain⟨q,b,a⟩| ⟨e,b,a⟩:=Out.bind_some h
  .grind [iH,Hq]
  grind
 split at h
 .exact tr ((Up f).tm h).1
 split at h
 .rename_i c;have:=two [105,115] zs c;obtain⟨q,b,a⟩| ⟨e,b,a⟩:=Out.bind_some h
  .obtain⟨g1,g2,g3⟩:=Eo f g.ok (d 1 this) b;refine(tr g1).Hq (d 0 zo) (by unfold eB;exact g3) a
  grind
 split at h
 .grind
 split at h
 .grind
 .obtain⟨q,b,a⟩| ⟨e,b,a⟩:=Out.bind_some h
  .obtain⟨q2,i,k⟩| ⟨e,i,k⟩:=Out.bind_some a
   .grind [jx,Eo,ok]
   grind
  grind
theorem lO.head{f:Nat}{vs:List Nat}:∀ {l:List Tm} {r:List Ex} {s:Sr} {p:Bool×Sr},lO s->jF l->fj vs.length r->vM f vs l r s=O (.ok p)->lO p.2
 | [],r,s,p,b,_,_,h=>by grind [vM]
 | a::l,[],s,p,b,_,_,h=>by grind [vM]
 | a::l,x::r,s,p,b,c,hr,h=>by
  rw[vM] at h;unfold jF at c;unfold fj at hr;obtain⟨q,g,d⟩| ⟨e,g,d⟩:=Out.bind_some h
  .have i:=b.Hq c.1 (aex vs _ hr.1) g;split at d
   .exact lO.head i c.2 hr.2 d
   grind
  grind
def aon(vs:List Nat):∀ (l:List Tm) (r:List Ex) (s:Sr),Mon (fun f=>vM f vs l r s)
 | [],r,s=>by intro f;simp_all [vM,Le.rfl]
 | _::_,[],s=>by intro f;simp_all [vM,Le.rfl]
 | a::l,x::r,s=>by
  intro f;simp only[vM];refine Out.zu (aJq _ _ _ f) fun p=>?_;split
  .exact aon vs l r p.2 f
  simp_all [Le.rfl]
def aoo(args:List Tm)(l:List Cl)(td:List Goal)(m:Nat)(k:Wk):Mon (fun f=>xp f args l td m k):=by
 intro f;simp only[xp];split
 .exact Le.rfl
 .cases l with
  | nil=>exact Le.rfl
  | cons c rest=>exact Out.zu (aon _ _ _ _ f) fun _=>Le.rfl
def lO.clause{args:List Tm}{l:List Cl}{td:List Goal}{k:Wk}{p:Bool×Wk}(a:lO k.sr)(d:jF args)(g:∀ c∈l,zw M c)(h:xp f args l td m k=O (.ok p)):lO p.2.sr:=by
 unfold xp at h;split at h
 .grind
 .cases l with
  | nil=>grind
  | cons c rest=>
   have i:=g c (List.mem_cons_self ..);simp only at h;obtain⟨q,b,j⟩| ⟨e,b,j⟩:=Out.bind_some h
   .have n:=lO.head (show lO k.sr.dec from⟨a.FU,a.ok⟩) d (by rw[List.length_range'];exact i.args) b;grind
   grind
def aJy(base:List Cl)(name:Bs)(ex:List Ex)(vars:List Nat)(k:Wk):Mon (fun f=>Lf base f name ex vars k):=by
 intro f;simp only[Lf];split
 .exact Out.zu (aJr _ _ _ f) fun _=>Le.rfl
 .cases base.filter fun c=>c.name == name && c.args.length == ex.length with
  | nil=>exact Le.rfl
  | cons c l=>exact aoo _ _ _ _ _ f
def lO.goal{base:List Cl}{name:Bs}{ex:List Ex}{k:Wk}{p:Bool×Wk}(i:lO k.sr)(hx:fj fz.length ex)(a:∀ c∈base,zw M c)(h:Lf base f name ex fz k=O (.ok p)):lO p.2.sr:=by
 have b:=K9 fz ex hx;unfold Lf at h;split at h
 .rename_i ht;obtain⟨q,d,g⟩| ⟨e,d,g⟩:=Out.bind_some h
  .grind [aeJ,test]
  grind
 .split at h
  .grind
  .exact lO.clause zo b.1 (fun x hx=>a x (List.mem_filter.1 hx).1) h
def aJz(base:List Cl)(g:Goal)(k:Wk):Mon (fun f=>Ep base f g k):=by
 intro f;simp only[Ep];split
 .exact Le.rfl
 .cases g.FP with
  | none=>exact Le.rfl
  | some b=>
   cases b;simp only;split
   .exact Le.rfl
   split
   .exact Le.rfl
   split
   .exact Le.rfl
   split
   .exact Le.rfl
   split
   .exact Le.rfl
   .exact aJy _ _ _ _ _ f
theorem lO.step{base:List Cl}{g:Goal}{k:Wk}{p:Bool×Wk}(d:lO k.sr)(e:∀ b,g.FP=O b->eZ g.vars.length M b)(i:∀ c∈base,zw M c)(h:Ep base f g k=O (.ok p)):lO p.2.sr:=by
 have a:lO k.sr.dec:=⟨d.FU,d.ok⟩;unfold Ep at h;split at h
 .grind
 .cases hw:g.FP with
  | none=>grind
  | some b=>
   obtain⟨kind,name,args,parts⟩:=b;have fc:=e _ hw;unfold eZ at fc;obtain⟨l,m,⟨n,o,q⟩,r,j,s,j3,t⟩:=fc;rw[hw] at h;simp only at h;split at h
   .grind
   split at h
   .grind
   split at h
   .split at h
    .injection h with h;injection h with h;subst h;exact a
    grind
   split at h
   .split at h
    .injection h with h;injection h with h;subst h;exact a
    grind
   split at h
   .split at h
    .injection h with h;injection h with h;subst h;exact a
    grind
   .exact lO.goal zo j i h
def Ys(base:List Cl):∀ (f d:Nat) (b:Bool) (k:Wk),Le (kY base d f b k) (kY base (d+1) f b k)
 | 0,d,b,k=>by intro r h;simp_all [kY]
 | f+1,d,G,k=>by
  rw[kY,kY];cases k.todo with
  | nil=>exact Le.rfl
  | cons g r=>exact Out.zu (aJz base g _ d) fun p=>Ys base f d p.1 p.2
 | f+1,d,ae,k=>by
  rw[kY,kY];cases k.bz.getLast? with
  | none=>exact Le.rfl
  | some a=>
   simp only;cases a.clauses with
   | nil=>exact Ys base f d _ _
   | cons c l=>exact Out.zu (aoo _ _ _ _ _ d) fun p=>Ys base f d p.1 p.2
def Yt(base:List Cl)(d:Nat):∀ (f:Nat) (b:Bool) (k:Wk),Le (kY base d f b k) (kY base d (f+1) b k)
 | 0,b,k=>by intro r h;simp_all [kY]
 | f+1,G,k=>by
  rw[kY,kY];cases k.todo with
  | nil=>exact Le.rfl
  | cons g r=>exact Out.zu Le.rfl fun p=>Yt base d f p.1 p.2
 | f+1,ae,k=>by
  rw[kY,kY];cases k.bz.getLast? with
  | none=>exact Le.rfl
  | some a=>
   simp only;cases a.clauses with
   | nil=>exact Yt base d f _ _
   | cons c l=>exact Out.zu Le.rfl fun p=>Yt base d f p.1 p.2
def aJA{base:List Cl}{f':Nat}{b:Bool}{k:Wk}{r:Except jP (Bool×Wk)}(h:kY base d f b k=O r)(a:d<=pb)(c:f<=f'):kY base pb f' b k=O r:=by
 have e:kY base pb f b k=O r:=Le.many (F:=fun d=>kY base d f b k) (fun d=>Ys base f d b k) a _ h;exact Le.many (F:=fun f=>kY base pb f b k) (fun f=>Yt base pb f b k) c _ e
def Yu{base:List Cl}{M d:Nat}(m:∀ c∈base,zw M c):∀ (f:Nat) (b:Bool) (k:Wk) (p:Bool×Wk),mh M B { k with todo:=if b then k.todo else [] }->lO k.sr->kY base d f b k=O (.ok p) ->
  mh M B { p.2 with todo:=if p.1 then p.2.todo else [] }/\lO p.2.sr/\k.n<=p.2.n/\p.2.sr.fuel<=k.sr.fuel
 | 0,_,_,_,_,_,h=>by simp_all [kY]
 | f+1,G,k,p,hk,o,h=>by
  rw[kY] at h;simp only[if_true] at hk;cases ht:k.todo with
  | nil=>
   rw[ht] at h;injection h with h;injection h with h;subst h;refine⟨⟨⟨?_,hk.ag,hk.marks,hk.mono⟩,hk.cV,hk.nQ⟩,o,a3O _,a3O _⟩;exact⟨Nat.zero_le _,(fun i hi=>zg),(fun b I=>by grind [aey]),trivial⟩
  | cons g r=>
   rw[ht] at h;have w:mh M B { k with todo:=g::r }:=zg;have z:=(w.todo:nP M k.n k.bz.length (g::r)).2.2.1;obtain⟨q,j,s⟩| ⟨e,j,s⟩:=Out.bind_some h
   .obtain⟨g1,g2,g3⟩:=aoi w o.ok m j;obtain⟨A,C,D,E⟩:=Yu m f q.1 q.2 p g1 (lO.step (k:={ k with todo:=r }) zo z m j) s;grind
   grind
 | f+1,ae,k,p,hk,o,h=>by
  rw[kY] at h;simp only[a4k,if_false] at hk;cases t:k.bz.getLast? with
  | none=>
   grind
  | some a=>
   rw[t] at h;simp only at h;obtain⟨K,F,L,N⟩:=hk.iH t;have y:=hk.ag _ _ F;cases u:a.clauses with
   | nil=>
    rw[u] at h;exact Yu m f G { k with sr:=k.sr.iH a.mark,todo:=a.todo,bz:=k.bz.dropLast } p (hk.back t) (by exact o.iH _) h
   | cons c l=>
    rw[u] at h;simp only at h;rw[<- u] at h;have H:∀ x∈a.clauses,zw M x:=fun x hx=>(y.cls x hx).1;obtain⟨q,j,s⟩| ⟨e,j,s⟩:=Out.bind_some h
    .obtain⟨g1,g2,g3⟩:=hk.again t j;obtain⟨A,C,D,E⟩:=Yu m f q.1 q.2 p g1 (lO.clause (k:={ k with sr:=k.sr.iH a.mark }) (by exact o.iH _) y.args H j) s;grind
    grind
end
structure In where
 word:Bs
 name:Bs
 const:Option Tm
 s:List Nat
deriving Inhabited
structure Co where
 slots:Nat
 ins:List In
deriving Inhabited
structure Mk where
 slots:Nat
 ins:List In
 vars:List (Option Nat)
def Mk.put(m:Mk)(word name:Bs)(c:Option Tm)(s:List Nat):Mk:={ m with ins:=m.ins++[⟨word,name,c,s⟩] }
def Mk.slot(m:Mk):Option (Nat×Mk):=if 64<m.slots+1 then V else O (m.slots,{ m with slots:=m.slots+1 })
def Mk.tF(m:Mk):Nat->Option (List Nat×Mk)
 | 0=>O ([],m)
 | n+1=>match m.slot with
  | none=>V
  | some (s,m)=>match m.tF n with
   | none=>V
   | some (l,m)=>O (s::l,m)
def Dc(kind:Nat)(name:Bs)(n:Int):Tm:=if kind=110 then .int n else .atom name
mutual
def zy:Ex->Nat->Mk->Option Mk
 | .mk kind name n k args,s,m=>
  if kind=118 then match m.vars.getD k V with
   | none=>O { m with vars:=m.vars.set k (O s) }
   | some t=>O (m.put [115,97,109,101] [] V [s,t])
  else if kind=99 then match m.tF args.length with
   | none=>V
   | some (l,m)=>tG args l (m.put [115,112,108,105,116] name V (s::l))
  else O (m.put [99,111,110,115,116] [] (O (Dc kind name n)) [s])
 termination_by structural x=>x
def tG:List Ex->List Nat->Mk->Option Mk
 | [],_,m=>O m
 | x::xs,l,m=>match zy x (l.headD 0) m with
  | none=>V
  | some m=>tG xs l.tail m
 termination_by structural x=>x
end
mutual
def AV:Ex->Mk->Option (Nat×Mk)
 | .mk kind name n k args,m=>
  if kind=118 then O ((m.vars.getD k V).getD 0,m)
  else if kind≠99 then match m.slot with
   | none=>V
   | some (s,m)=>O (s,m.put [112,117,116] [] (O (Dc kind name n)) [s])
  else match tH args m with
   | none=>V
   | some (l,m)=>match m.slot with
    | none=>V
    | some (s,m)=>O (s,m.put [109,97,107,101] name V (s::l))
 termination_by structural x=>x
def tH:List Ex->Mk->Option (List Nat×Mk)
 | [],m=>O ([],m)
 | x::xs,m=>match AV x m with
  | none=>V
  | some (s,m)=>match tH xs m with
   | none=>V
   | some (l,m)=>O (s::l,m)
 termination_by structural x=>x
end
def Mk.land(m:Mk)(k:Nat):Mk:={ m with ins:=m.ins.modify k fun i=>{ i with s:=[m.ins.length] } }
def kr:Bs:=[116,114,121]
def jQ:Bs:=[106,117,109,112]
def kZ:Bs:=[99,117,116]
def qR:Bs:=[108,101,118,101,108]
def mD:Bs:=[116,101,115,116]
def rA:Bs:=[99,97,108,108]
def oe:Bs:=[110,101,119]
def pL:Bs:=[109,97,114,107]
mutual
def lG:Bd->Nat->Mk->Option Mk
 | .mk kind name args parts,cut,m=>
  if kind=33 then O (m.put kZ [] V [cut])
  else if kind=44 then tI parts cut m
  else if kind=59 then Et parts cut m
  else if kind=63 then match m.slot with
   | none=>V
   | some (s,m)=>Eu parts s cut (m.put qR [] V [s])
  else if kind=126 then match m.slot with
   | none=>V
   | some (s,m)=>Ev parts s (m.put qR [] V [s])
  else match tH args m with
   | none=>V
   | some (l,m)=>O (m.put (if jx name=l.length then mD else rA) name V l)
 termination_by structural x=>x
def tI:List Bd->Nat->Mk->Option Mk
 | [],_,m=>O m
 | b::r,cut,m=>match lG b cut m with
  | none=>V
  | some m=>tI r cut m
 termination_by structural x=>x
def Et:List Bd->Nat->Mk->Option Mk
 | [],_,_=>V
 | a::r,cut,m=>match lG a cut (m.put kr [] V [0]) with
  | none=>V
  | some m1=>match tI r cut ((m1.put jQ [] V [0]).land m.ins.length) with
   | none=>V
   | some m2=>O (m2.land m1.ins.length)
 termination_by structural x=>x
def Eu:List Bd->Nat->Nat->Mk->Option Mk
 | [],_,_,_=>V
 | a::r,s,cut,m=>match lG a s (m.put kr [] V [0]) with
  | none=>V
  | some m1=>FV r cut m.ins.length (m1.put kZ [] V [s])
 termination_by structural x=>x
def FV:List Bd->Nat->Nat->Mk->Option Mk
 | [],_,_,_=>V
 | b::r,cut,k,m=>match lG b cut m with
  | none=>V
  | some m1=>match tI r cut ((m1.put jQ [] V [0]).land k) with
   | none=>V
   | some m2=>O (m2.land m1.ins.length)
 termination_by structural x=>x
def Ev:List Bd->Nat->Mk->Option Mk
 | [],_,_=>V
 | a::_,s,m=>match lG a s (m.put kr [] V [0]) with
  | none=>V
  | some m1=>O (((m1.put kZ [] V [s]).put mD [102,97,105,108] V []).land m.ins.length)
 termination_by structural x=>x
end
def Mk.news(m:Mk):Nat->Nat->Option Mk
 | _,0=>O m
 | k,n+1=>match m.slot with
  | none=>V
  | some (s,m')=>Mk.news ({ m' with vars:=m'.vars.set k (O s) }.put oe [] V [s]) (k+1) n
def Mk.rest(m:Mk):Nat->Nat->Option Mk
 | _,0=>O m
 | k,n+1=>match m.vars.getD k V with
  | some _=>Mk.rest m (k+1) n
  | none=>match m.slot with
   | none=>V
   | some (s,m')=>Mk.rest ({ m' with vars:=m'.vars.set k (O s) }.put oe [] V [s]) (k+1) n
def xt(args:List Ex)(body:Bd)(nv:Nat)(a:Bool):Option Co:=
 match (⟨0,[],a4r nv V⟩:Mk).tF args.length with
 | none=>V
 | some (b,m)=>match (if a then m.news 0 nv else O m) with
  | none=>V
  | some m=>match m.slot with
   | none=>V
   | some (cut,m)=>match tG args b (m.put pL [] V [cut]) with
    | none=>V
    | some m=>match m.rest 0 nv with
     | none=>V
     | some m=>match lG body cut m with
      | none=>V
      | some m=>O ⟨m.slots,(m.put (if a then [100,111,110,101] else [114,101,116]) [] V []).ins⟩
structure Pd where
 name:Bs
 arity:Nat
 clauses:List Co
def rW(name:Bs)(n:Nat)(c:Co):List Pd->List Pd
 | []=>[⟨name,n,[c]⟩]
 | p::r=>if p.name=name/\p.arity=n then{ p with clauses:=p.clauses++[c] }::r else p::rW name n c r
def vN:List Cl->List Pd->Option (List Pd)
 | [],l=>O l
 | c::r,l=>match xt c.args c.body c.vars.length ae with
  | none=>V
  | some x=>vN r (rW c.name c.args.length x l)
def ld(first:Bs)(l:List Bs):Bs:=first++(l.map fun w=>32::w).flatten++[10]
def kT(w:Bs):Option Bs:=
 if w=oe\/w=pL\/w=qR\/w=kZ then O [115]
 else if w=[112,117,116]\/w=[99,111,110,115,116] then O [115,99]
 else if w=[115,97,109,101] then O [115,115]
 else if w=[109,97,107,101]\/w=[115,112,108,105,116] then O [115,110,42]
 else if w=mD\/w=rA then O [110,42]
 else if w=kr\/w=jQ then O [112]
 else if w=[114,101,116]\/w=[100,111,110,101] then O []
 else V
def Dd:Option Tm->Bs
 | some (.int n)=>jc n
 | some (.atom a)=>a
 | _=>[]
def pM(i:In):Bs->List Nat->List Bs
 | [],_=>[]
 | x::r,s=>
  if x=115\/x=112 then di (s.headD 0)::pM i r s.tail
  else if x=99 then Dd i.const::pM i r s
  else if x=110 then i.name::pM i r s
  else s.map di++pM i r s
def BR(i:In):Bs:=ld i.word (pM i ((kT i.word).getD []) i.s)
def um(c:Co):Bs:=(c.ins.map BR).flatten
def tJ(p:Pd):Bs:=ld [112,114,101,100] [p.name,di p.arity]++(p.clauses.map fun c=>ld [99,108,97,117,115,101] [di c.slots]++um c).flatten
def rB(l:List Pd)(ask:Co)(told:Nat):Bs:=(l.map tJ).flatten++ld [113,117,101,114,121] [di ask.slots,di told]++um ask
inductive Sl where
 | nil
 | term (t:Tm)
 | level (n:Nat)
deriving Inhabited
structure Fm where
 code:Co
 slots:List Sl
 entry:Nat
 back:Option Nat
 pc:Nat
 ask:Bool
structure Ga where
 mark:Nat
 f:Nat
 pc:Nat
 others:List Co
 args:List Sl
structure Vm where
 n:Nat
 sr:Sr
 fs:List Fm
 f:Nat
 pc:Nat
 bz:List Ga
def Vm.slot(m:Vm)(k:Nat):Sl:=match m.fs[m.f]? with
 | some x=>x.slots.getD k .nil
 | none=>.nil
def Vm.set(m:Vm)(k:Nat)(v:Sl):Vm:={ m with fs:=m.fs.modify m.f fun x=>{ x with slots:=x.slots.set k v } }
def Vm.at(m:Vm)(i:In)(k:Nat):Except jP Tm:=match m.slot (i.s.getD k 0) with
 | .term t=>.ok t
 | _=>.error (.fault 5)
def Vm.iO(m:Vm):List Nat->Except jP (List Tm)
 | []=>.ok []
 | k::r=>match m.slot k with
  | .term t=>match m.iO r with
   | .ok l=>.ok (t::l)
   | .error e=>.error e
  | _=>.error (.fault 5)
def Js{α β:Type}(x:Except jP α)(k:α->Out β):Out β:=match x with
 | .error e=>O (.error e)
 | .ok a=>k a
def Vm.enter(m:Vm)(l:List Co)(args:List Sl)(f pc n:Nat):Option Vm:=
 match l with
 | []=>V
 | c::rest=>O { m with bz:=m.bz.take n++(match rest with | []=>[] | _=>[⟨m.sr.tr.length,f,pc,rest,args⟩]),fs:=m.fs++[⟨c,args++a4r (max c.slots args.length-args.length) .nil,n,O f,pc,ae⟩],f:=m.fs.length,pc:=0 }
def Vm.back(m:Vm):Option (Bool×Vm):=
 match m.bz.getLast? with
 | none=>O (ae,m)
 | some a=>match a.others with
  | []=>O (G,{ m with sr:=m.sr.iH a.mark,f:=a.f,pc:=a.pc,bz:=m.bz.dropLast })
  | l=>match ({ m with sr:=m.sr.iH a.mark }:Vm).enter l a.args a.f a.pc (m.bz.length-1) with
   | none=>V
   | some m=>O (G,m)
def vO(dJ:List Pd)(d:Nat)(i:In)(m:Vm):Out (Bool×Vm):=
 let Hq (x:Out (Bool×Sr)):Out (Bool×Vm):=Out.bind x fun p=>O (.ok (p.1,{ m with sr:=p.2 }));let s0:=i.s.getD 0 0
 if i.word=oe then O (.ok (G,{ m.set s0 (.term (.var m.n)) with n:=m.n+1 }))
 else if i.word=[112,117,116] then O (.ok (G,m.set s0 (match i.const with | some t=>.term t | none=>.nil)))
 else if i.word=[99,111,110,115,116] then Js (m.at i 0) fun t=>Hq (lZ d t (i.const.getD default) m.sr)
 else if i.word=[115,97,109,101] then Js (m.at i 0) fun t=>Js (m.at i 1) fun u=>Hq (lZ d t u m.sr)
 else if i.word=[109,97,107,101] then Js (m.iO i.s.tail) fun l=>O (.ok (G,m.set s0 (.term (.comp i.name l))))
 else if i.word=[115,112,108,105,116] then Js (m.at i 0) fun t=>match fI m.sr.tr d t with
  | none=>V
  | some (.var v)=>let m1:=i.s.tail.zipIdx.foldl (fun m p=>m.set p.1 (.term (.var (m.n+p.2)))) m;O (.ok (G,{ m1 with n:=m.n+i.s.tail.length,sr:=m.sr.bind v (.comp i.name ((List.range' m.n i.s.tail.length).map .var)) }))
  | some (.comp name args)=>if name=i.name/\args.length=i.s.length-1 then O (.ok (G,(i.s.tail.zip args).foldl (fun m p=>m.set p.1 (.term p.2)) m)) else O (.ok (ae,m))
  | some _=>O (.ok (ae,m))
 else if i.word=mD then Js (m.iO i.s) fun l=>Hq (yk d i.name l m.sr)
 else if i.word=pL then O (.ok (G,m.set s0 (.level (match m.fs[m.f]? with | some x=>x.entry | none=>0))))
 else if i.word=qR then O (.ok (G,m.set s0 (.level m.bz.length)))
 else if i.word=kZ then match m.slot s0 with
  | .level n=>O (.ok (G,{ m with bz:=m.bz.take (min n m.bz.length) }))
  | _=>O (.error (.fault 5))
 else if i.word=kr then O (.ok (G,{ m with bz:=m.bz++[⟨m.sr.tr.length,m.f,s0,[],[]⟩] }))
 else if i.word=jQ then O (.ok (G,{ m with pc:=s0 }))
 else if i.word=rA then match dJ.find? fun p=>p.name == i.name && p.arity == i.s.length with
  | none=>O (.error (.fault 10))
  | some p=>match p.clauses with
   | []=>O (.ok (ae,m))
   | l=>match m.enter l (i.s.map m.slot) m.f m.pc m.bz.length with
    | none=>V
    | some m=>O (.ok (G,m))
 else if i.word=[114,101,116] then match m.fs[m.f]? with
  | none=>V
  | some x=>match x.back with
   | none=>O (.error (.fault 5))
   | some b=>O (.ok (G,{ m with f:=b,pc:=x.pc }))
 else O (.ok (G,m))
def zC(dJ:List Pd)(d:Nat):Nat->Vm->Out (Bool×Vm)
 | 0,_=>V
 | f+1,m=>
  if m.sr.fuel=0 then O (.error .Em)
  else match m.fs[m.f]? with
   | none=>V
   | some x=>match x.code.ins[m.pc]? with
    | none=>O (.error (.fault 5))
    | some i=>
     let m:={ m with sr:=m.sr.dec,pc:=m.pc+1 }
     if i.word=[100,111,110,101] then(if x.ask then O (.ok (G,m)) else O (.error (.fault 5)))
     else Out.bind (vO dJ d i m) fun p=>
      if p.1 then zC dJ d f p.2
      else match p.2.back with
       | none=>V
       | some (ae,m)=>O (.ok (ae,m))
       | some (G,m)=>zC dJ d f m
def Od(dJ:List Pd)(d f:Nat)(m:Vm):Out (Bool×Vm):=
 if 0<m.pc then match m.back with
  | none=>V
  | some (ae,m)=>O (.ok (ae,m))
  | some (G,m)=>zC dJ d f m
 else zC dJ d f m
structure Qv where
 err:Nat
 vm:Vm
def Qv.new(c:Co):Qv:=⟨0,0,⟨[],0⟩,[⟨c,a4r c.slots .nil,0,V,0,G⟩],0,0,[]⟩
structure En where
 St:Type
 sr:St->Sr
 nv:St->Nat
 fu:St->Nat->St
 nx:Nat->Nat->St->Out (Bool×St)
 told:St->Except jP (List Tm)
def jP.no:jP->Nat
 | .fault e=>e
 | .Em=>11
abbrev Qs(E:En):=Option Nat×E.St
def Hr(E:En)(names:List Bs)(d f:Nat)(q:Qs E):Option ((Bs×Nat)×Qs E):=
 match q.1 with
 | some e=>O (([],e),q)
 | none=>match E.nx d f (E.fu q.2 1000000) with
  | none=>V
  | some (.error t)=>O (([],t.no),(O t.no,q.2))
  | some (.ok (ae,k))=>O (([],6),(O 6,k))
  | some (.ok (G,k))=>match E.told k with
   | .error t=>O (([],t.no),(O t.no,k))
   | .ok l=>match Oa (E.sr k).tr d names l ⟨(E.sr k).fuel,[],[]⟩with
    | none=>V
    | some V=>O (([],11),(O 11,k))
    | some (O s)=>O ((if s.out=[] then [116,114,117,101] else s.out,0),(V,E.fu k s.fuel))
def Oe(E:En)(names:List Bs)(d f:Nat):Nat->Qs E->Option (List (Bs×Nat)×Qs E)
 | 0,q=>O ([],q)
 | n+1,q=>match Hr E names d f q with
  | none=>V
  | some (a,q)=>match Oe E names d f n q with
   | none=>V
   | some (l,q)=>O (a::l,q)
def Lj(base:List Cl)(nv:Nat):En where
 St:=Wk
 sr k:=k.sr
 nv k:=k.n
 fu k f:={ k with sr:={ k.sr with fuel:=f } }
 nx d f k:=kY base d f G k
 told _:=.ok ((List.range nv).map .var)
def FW:Bs:=[112,117,116]
def Ew:Bs:=[99,111,110,115,116]
def FX:Bs:=[115,97,109,101]
def Jt:Bs:=[109,97,107,101]
def Ju:Bs:=[115,112,108,105,116]
def Of:Bs:=[114,101,116]
def Og:Bs:=[100,111,110,101]
def Uq:Tm->Bool
 | .atom _=>G
 | .int _=>G
 | _=>ae
structure uS(n:Nat)(i:In):Prop where
 kn:i.word∈[oe,FW,Ew,FX,Jt,Ju,mD,pL,qR,kZ,kr,jQ,rA,Of,Og]
 sl:i.word≠kr->i.word≠jQ->∀ k∈i.s,k<n
 one:i.word=oe\/i.word=FW\/i.word=Ew\/i.word=pL\/i.word=qR\/i.word=kZ\/i.word=kr\/i.word=jQ->i.s.length=1
 same:i.word=FX->i.s.length=2
 two:i.word=Jt\/i.word=Ju->2<=i.s.length
 test:i.word=mD->jx i.name=i.s.length
 con:i.word=FW\/i.word=Ew->∃ t,i.const=O t/\eB t/\Uq t=G
 Ur:i.name.length<=20
 qQ:i.s.length<=60
 small:∀ k∈i.s,k<100000
structure zE(c:Co):Prop where
 ins:∀ i∈c.ins,uS c.slots i
 sl:c.slots<=64
 len:c.ins.length<=100000
structure aor(p:Pd):Prop where
 cls:∀ c∈p.clauses,zE c
 len:p.clauses.length<=100000
def AW:Sl->Prop
 | .term t=>eB t
 | _=>True
structure aeM(n:Nat)(x:Fm):Prop where
 code:zE x.code
 sl:x.code.slots<=x.slots.length
 tm:∀ y∈x.slots,AW y
 back:∀ b,x.back=O b->b<n
structure Yv(n:Nat)(a:Ga):Prop where
 f:a.f<n
 others:∀ c∈a.others,zE c
 args:∀ y∈a.args,AW y
 qQ:a.args.length<=60
structure gH(B:Nat)(m:Vm):Prop where
 f:m.f<m.fs.length
 fr:∀ (i:Nat) (x:Fm),m.fs[i]?=O x->aeM m.fs.length x
 ag:∀ (i:Nat) (a:Ga),m.bz[i]?=O a->Yv m.fs.length a
 marks:∀ (i:Nat) (a:Ga),m.bz[i]?=O a->a.mark<=m.sr.tr.length
 mono:∀ (i j:Nat) (a b:Ga),i<=j->m.bz[i]?=O a->m.bz[j]?=O b->a.mark<=b.mark
 cV:m.sr.cV<=B
 nQ:m.bz.length+m.sr.fuel<=B
 pc:m.pc<=200000
 xw:∀ (i:Nat) (x:Fm),m.fs[i]?=O x->x.pc<=200000
 ym:∀ (i:Nat) (a:Ga),m.bz[i]?=O a->a.pc<=200000
end P
