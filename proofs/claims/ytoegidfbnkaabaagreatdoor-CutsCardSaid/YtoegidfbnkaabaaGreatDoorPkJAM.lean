/- A part of one proof (PureU, PureTot, PureY, PureR, PureS, PureNx, PureZ, PureAk, PureVm). -/
import Derived.Test.YtoegidfbnkaabaaGreatDoorPkJAL
set_option linter.all false
set_option maxRecDepth 100000
set_option maxHeartbeats 8000000
open Option renaming some → O, none → V
open Bool renaming true → A, false → G
open Option.some renaming injEq → aZG
open Nat renaming le_refl → aZK, le_trans → aZL, le_succ → a0O, le_add_right → a0Z, sub_le → a1k
open List renaming mem_cons → aZU, replicate → a0m, suffix_refl → a1u
open Prod.mk renaming injEq → aZ6
open Bool renaming false_eq_true → a0h
open Except.ok renaming injEq → a1m
namespace Go.Proofs.YtoegidfbnkaabaaGreatDoor
variable{M d f i m n pb:Nat}{fx:List Nat}
namespace P
structure aGH(f:Nat):Prop where
 tm:∀ {i:Nat} {t:Tm} {s:Sr} {p:Bool×Sr},yA f i t s=O (.ok p)->p.2.tr=s.tr/\p.2.fuel<=s.fuel
 EL:∀ {i:Nat} {l:List Tm} {s:Sr} {p:Bool×Sr},Ad f i l s=O (.ok p)->p.2.tr=s.tr/\p.2.fuel<=s.fuel
def Ip:∀ f,aGH f
 | 0=>⟨fun h=>by simp_all [yA],fun h=>by simp_all [Ad]⟩
 | f+1=>by
  have ih:=Ip f;refine⟨fun{i t s p} h=>?_,fun{i l s p} h=>?_⟩
  .rw[yA] at h;split at h
   .grind
   .split at h
    .grind
    .injection h with h;injection h with h;subst h;exact⟨J,a1k _ _⟩
    .obtain⟨c,b⟩:=ih.EL h;exact⟨c,aZL b (a1k _ _)⟩
    .injection h with h;injection h with h;subst h;exact⟨J,a1k _ _⟩
  .cases l with
   | nil=>grind [Ad]
   | cons a r=>
    rw[Ad] at h;obtain⟨q,c,b⟩| ⟨e,c,b⟩:=Out.bind_some h
    .obtain⟨d,g⟩:=ih.tm c;split at b
     .grind
     .obtain⟨j,k⟩:=ih.EL b;grind
    grind
theorem acC{i:Nat}:∀ {tr:Tr},look i tr=V->i ∉ tr.map (·.1)
 | [],_=>zs
 | (j,t)::r,h=>by
  rw[look] at h;split at h
  .grind
  .rename_i a;simp only[List.map_cons,aZU,not_or];exact⟨a,acC h⟩
theorem Iq{tr:Tr}:∀ {f:Nat} {t:Tm} {i:Nat},fG tr f t=O (.var i)->look i tr=V
 | f,.atom a,i,h=>by simp_all [fG]
 | f,.int a,i,h=>by simp_all [fG]
 | f,.comp a l,i,h=>by simp_all [fG]
 | 0,.var j,i,h=>by
  grind [look,fG]
 | f+1,.var j,i,h=>by
  cases b:look j tr with
  | none=>simp_all [fG]
  | some t=>simp [fG,b] at h;exact Iq h
def A6:Tm->Bool
 | .comp _ _=>A
 | _=>G
def isVar:Tm->Bool
 | .var _=>A
 | _=>G
def Sr.cU(s:Sr):Nat:=s.tr.length+s.fuel
def aGI{t:Tm}{s:Sr}{p:Bool×Sr}(h:sU f i t s=O (.ok p)):p.2.cU<=s.cU+1/\p.2.fuel<=s.fuel:=by
 unfold sU at h;obtain⟨q,a,b⟩| ⟨e,a,b⟩:=Out.bind_some h
 .obtain⟨c,d⟩:=(Ip f).tm a;grind [Sr.cU,Sr.bind,List.length_cons]
 grind
structure aGJ(f:Nat):Prop where
 tm:∀ {a b:Tm} {s:Sr} {p:Bool×Sr},lz f a b s=O (.ok p)->p.2.cU<=s.cU/\p.2.fuel<=s.fuel
 EL:∀ {a b:List Tm} {s:Sr} {p:Bool×Sr},mZ f a b s=O (.ok p)->p.2.cU<=s.cU/\p.2.fuel<=s.fuel
def EN:∀ f,aGJ f
 | 0=>⟨fun h=>by simp_all [lz],fun h=>by simp_all [mZ]⟩
 | f+1=>by
  have ih:=EN f;have j:∀ {i:Nat} {t:Tm} {s:Sr} {p:Bool×Sr},s.fuel≠0->sU f i t s.dec=O (.ok p)->p.2.cU<=s.cU/\p.2.fuel<=s.fuel:=fun{i t s p} g h=>by
   obtain⟨d,c⟩:=aGI h;grind [Sr.cU,Sr.dec]
  have hdec:∀ {s:Sr},s.dec.cU<=s.cU/\s.dec.fuel<=s.fuel:=fun{s}=>by simp_all [Sr.cU,Sr.dec]
  refine⟨fun{a b s p} h=>?_,fun{a b s p} h=>?_⟩
  .rw[lz] at h;split at h
   .grind
   .rename_i g;split at h
    .grind
    .grind
    .grind
    .split at h
     .obtain⟨d,c⟩:=ih.EL h;grind
     grind
    .grind
    grind
  .cases a with
   | nil=>rw[mZ] at h<;>grind
   | cons a l=>
    cases b with
    | nil=>rw[mZ] at h<;>grind
    | cons b r=>
     rw[mZ] at h;obtain⟨q,d,c⟩| ⟨e,d,c⟩:=Out.bind_some h
     .obtain⟨k,m⟩:=ih.tm d;split at c
      .obtain⟨n,o⟩:=ih.EL c;omega
      grind
     grind
structure aGK(f:Nat):Prop where
 tm:∀ {a b:Tm} {s:Sr} {p:Bool×Sr},Cb f a b s=O (.ok p)->p.2.tr=s.tr/\p.2.fuel<=s.fuel
 EL:∀ {a b:List Tm} {s:Sr} {p:Bool×Sr},A5 f a b s=O (.ok p)->p.2.tr=s.tr/\p.2.fuel<=s.fuel
def SE:∀ f,aGK f
 | 0=>⟨fun h=>by simp_all [Cb],fun h=>by simp_all [A5]⟩
 | f+1=>by
  have ih:=SE f;have hdec:∀ {s:Sr},s.dec.tr=s.tr/\s.dec.fuel<=s.fuel:=fun{s}=>⟨J,a1k _ _⟩;refine⟨fun{a b s p} h=>?_,fun{a b s p} h=>?_⟩
  .rw[Cb] at h;split at h
   .grind
   .split at h
    .split at h
     .obtain⟨d,c⟩:=ih.EL h;grind
     grind
    .grind
    grind
  .cases a with
   | nil=>rw[A5] at h<;>grind
   | cons a l=>
    cases b with
    | nil=>rw[A5] at h<;>grind
    | cons b r=>
     rw[A5] at h;obtain⟨q,d,c⟩| ⟨e,d,c⟩:=Out.bind_some h
     .obtain⟨g,i⟩:=ih.tm d;split at c
      .obtain⟨j,k⟩:=ih.EL c;grind
      grind
     grind
def Kd(z:Int):Prop:=-9223372036854775808<=z/\z<=9223372036854775807
theorem wrap64_in(z:Int):Kd (wrap64 z):=by grind [Kd,wrap64]
theorem aGL{a b:Int}(c:Kd a):Kd (a.tmod b):=by
 unfold Kd at *;have d:(a.tmod b).natAbs<=a.natAbs:=by
  simp_all [Int.natAbs_tmod,Nat.mod_le]
 by_cases e:0<=a
 .omega
 .have:a.tmod b<=0:=by
   have:=Int.tmod_nonneg (a:=-a) b zo;simp_all
  omega
def aGM{name:Bs}{a b z:Int}(c:Kd a)(h:reckon name a b = .ok z):Kd z:=by
 grind [reckon,wrap64_in,aGL]
theorem Dv:∀ (f:Nat) {t:Tm} {s:Sr} {p:Int×Sr},mR s.tr->er t->tR f t s=O (.ok p)->p.2.tr=s.tr/\p.2.fuel<=s.fuel/\Kd p.1
 | 0,_,_,_,_,_,h=>by simp_all [tR]
 | f+1,t,s,p,ht,d,h=>by
  rw[tR] at h;split at h
  .grind
  .split at h
   .grind
   .rename_i n hw;injection h with h;injection h with h;subst h;exact⟨J,a1k _ _,by have:=vR ht d hw;unfold er at this;exact this⟩
   .grind
   .rename_i name a b hw;have g:=vR ht d hw;unfold er at g;obtain⟨-,-,m⟩:=g;obtain⟨o,r⟩:=MF m;split at h
    .obtain⟨q,i,j⟩| ⟨e,i,j⟩:=Out.bind_some h
     .obtain⟨k,u,w⟩:=Dv f (s:=s.dec) ht o i;obtain⟨q2,l,c⟩| ⟨e,l,c⟩:=Out.bind_some j
      .obtain⟨g1,g2,g3⟩:=Dv f (s:=q.2) (by rw[k];exact ht) r l;split at c
       .grind
       .rename_i z x;injection c with c;injection c with c;subst c;exact⟨g1.trans k,aZL g2 (aZL u (a1k _ _)),aGM w x⟩
      grind
     grind
    grind
   grind
structure aGP(f:Nat):Prop where
 tm:∀ {a b:Tm} {s:Sr} {p:Bool×Sr},lz f a b s=O (.ok p)->s.tr <:+ p.2.tr
 EL:∀ {a b:List Tm} {s:Sr} {p:Bool×Sr},mZ f a b s=O (.ok p)->s.tr <:+ p.2.tr
theorem acD{t:Tm}{s:Sr}{p:Bool×Sr}(h:sU f i t s=O (.ok p)):s.tr <:+ p.2.tr:=by
 unfold sU at h;obtain⟨q,b,a⟩| ⟨e,b,a⟩:=Out.bind_some h
 .have c:=((Ip f).tm b).1;split at a
  .grind
  .injection a with a;injection a with a;subst a;rw[<- c];exact List.suffix_cons _ _
 grind
def MH:∀ f,aGP f
 | 0=>⟨fun h=>by simp_all [lz],fun h=>by simp_all [mZ]⟩
 | f+1=>by
  have ih:=MH f;refine⟨fun{a b s p} h=>?_,fun{a b s p} h=>?_⟩
  .have i:s.dec.tr=s.tr:=rfl;rw[lz] at h;split at h
   .grind
   .split at h
    .grind [a1u,acD]
    .grind [acD]
    .grind [acD]
    .split at h
     .exact(show s.dec.tr <:+ p.2.tr from ih.EL h)
     grind
    .grind
    grind
  .cases a with
   | nil=>grind [mZ,a1u]
   | cons a l=>
    cases b with
    | nil=>grind [mZ,a1u]
    | cons b r=>
     rw[mZ] at h;obtain⟨q,d,c⟩| ⟨e,d,c⟩:=Out.bind_some h
     .have g:=ih.tm d;split at c
      .exact g.trans (ih.EL c)
      grind
     grind
inductive EO(tr:Tr)(i:Nat):Tm->Prop
 | here:look i tr=V->EO tr i (.var i)
 | via {j:Nat} {t:Tm}:look j tr=O t->EO tr i t->EO tr i (.var j)
 | arg {n:Bs} {l:List Tm} {a:Tm}:a∈l->EO tr i a->EO tr i (.comp n l)
def yC:Tr->Prop
 | []=>True
 | (i,t)::r=>yC r/\look i r=V/\¬ EO r i t
def yC.drop:∀ (k:Nat) {tr:Tr},yC tr->yC (tr.drop k)
 | 0,_,h=>h
 | _+1,[],h=>h
 | k+1,(_,_)::_,h=>yC.drop k h.1
def alR{tr:Tr}{i:Nat}:∀ {f:Nat} {t u:Tm},fG tr f t=O u->(EO tr i t↔EO tr i u)
 | f,.atom s,u,h=>by simp_all [fG]
 | f,.int s,u,h=>by simp_all [fG]
 | f,.comp s l,u,h=>by simp_all [fG]
 | 0,.var j,u,h=>by
  grind [fG]
 | f+1,.var j,u,h=>by
  rw[fG] at h;split at h
  .grind
  .rename_i t b;rw[<- alR h];constructor
   .intro a;cases a with
    | here c=>grind
    | via d e=>grind
   .exact fun a=>.via b a
def alS:∀ f,(∀ i t s s',yA f i t s=O (.ok (G,s'))->look i s.tr=V->¬ EO s.tr i t)/\(∀ i l s s',Ad f i l s=O (.ok (G,s'))->look i s.tr=V->∀ t∈l,¬ EO s.tr i t)
 | 0=>⟨fun _ _ _ _ h=>(by cases h),fun _ _ _ _ h=>(by cases h)⟩
 | f+1=>by
  obtain⟨o,g⟩:=alS f;constructor
  .intro i t s s' h d;rw[yA] at h;split at h
   .grind
   .cases hw:fG s.tr f t with
    | none=>grind
    | some u=>
     rw[hw] at h;rw[alR hw];cases u with
     | atom a=>intro c;cases c
     | int a=>intro c;cases c
     | var j=>
      simp only[aZG,a1m,aZ6,decide_eq_false_iff_not] at h;intro c;cases c with
      | here q=>omega
      | via r c=>grind [Iq]
     | comp n l=>
      intro c;cases c with
      | arg k c=>exact g i l s.dec s' h d _ k c
  .intro i l s s' h d;cases l with
   | nil=>grind
   | cons a l=>
    rw[Ad] at h;obtain⟨p,g1,g2⟩| ⟨e,g1,g2⟩:=Out.bind_some h
    .split at g2
     .grind
     .rename_i w;obtain⟨b,s1⟩:=p;have m:b=false:=zg;subst m;have ht:s1.tr=s.tr:=((Ip f).tm g1).1;grind
    grind
theorem acE{t:Tm}{s:Sr}{p:Bool×Sr}(ht:yC s.tr)(d:look i s.tr=V)(h:sU f i t s=O (.ok p)):yC p.2.tr:=by
 unfold sU at h;obtain⟨q,a,c⟩| ⟨e,a,c⟩:=Out.bind_some h
 .obtain⟨b,s1⟩:=q;have g:s1.tr=s.tr:=((Ip f).tm a).1;cases b with
  | true=>
   grind
  | false=>
   simp only[a0h,if_false,aZG,a1m] at c;subst c;show yC ((i,t)::s1.tr);rw[g];exact⟨ht,d,(alS f).1 _ _ _ _ a d⟩
 grind
def alT:∀ f,(∀ a b s p,yC s.tr->lz f a b s=O (.ok p)->yC p.2.tr)/\(∀ l r s p,yC s.tr->mZ f l r s=O (.ok p)->yC p.2.tr)
 | 0=>⟨fun _ _ _ _ _ h=>(by cases h),fun _ _ _ _ _ h=>(by cases h)⟩
 | f+1=>by
  obtain⟨d,g⟩:=alT f;constructor
  .intro a b s p ht h;rw[lz] at h;split at h
   .grind
   .cases hw:fG s.tr f a with
    | none=>grind
    | some u=>
     cases hv:fG s.tr f b with
     | none=>grind
     | some v=>
      rw[hw,hv] at h;have c:yC s.dec.tr:=ht;cases u with
      | var i=>
       have k:look i s.dec.tr=none:=Iq hw;grind [acE]
      | comp n l=>
       cases v with
       | var j=>exact acE c (Iq hv) h
       | comp m r=>
        grind
       | _=>injection h with h;injection h with h;subst h;exact ht
      | _=>
       cases v with
       | var j=>exact acE c (Iq hv) h
       | _=>injection h with h;injection h with h;subst h;exact ht
  .intro l r s p ht h;cases l with
   | nil=>grind [mZ]
   | cons a l=>
    cases r with
    | nil=>grind [mZ]
    | cons b r=>
     rw[mZ] at h;obtain⟨q,g1,g2⟩| ⟨e,g1,g2⟩:=Out.bind_some h<;>grind
def Dfd{α:Type}(F:Nat->Option α):Prop:=∃ f r,F f=O r
def Mon{α:Type}(F:Nat->Option α):Prop:=∀ f,Le (F f) (F (f+1))
def aGR(a b:Tm)(s:Sr):Mon (fun f=>lz f a b s):=fun f=>(SD f).1 a b s
def aGS(n:Bs)(a:List Tm)(s:Sr):Mon (fun f=>xx f n a s):=fun f=>aGG
structure Goal where
 EP:Option Bd
 vars:List Nat
 cut:Nat
structure nW where
 mark:Nat
 todo:List Goal
 clauses:List Cl
 args:List Tm
structure Wk where
 n:Nat
 sr:Sr
 todo:List Goal
 bw:List nW
def uP(f:Nat)(vars:List Nat):List Tm->List Ex->Sr->Out (Bool×Sr)
 | a::l,x::r,s=>Out.bind (lz f a (made vars x) s) fun p=>if p.1 then uP f vars l r p.2 else O (.ok (G,p.2))
 | _,_,s=>O (.ok (A,s))
def vS(bw:List nW)(m:Nat):List Cl->List nW
 | []=>bw.take m
 | c::r=>match bw[m]? with
  | some a=>bw.take m++[{ a with clauses:=c::r }]
  | none=>bw.take m
def vT(f:Nat)(args:List Tm)(l:List Cl)(todo:List Goal)(m:Nat)(k:Wk):Out (Bool×Wk):=
 if k.sr.fuel=0 then O (.error .Du)
 else match l with
  | []=>V
  | c::rest=>
   Out.bind (uP f (List.range' k.n c.vars.length) args c.args k.sr.dec) fun p=>
    if p.1 then O (.ok (A,⟨k.n+c.vars.length,p.2,⟨O c.body,List.range' k.n c.vars.length,m⟩::todo,vS k.bw m rest⟩))
    else O (.ok (G,⟨k.n+c.vars.length,p.2,k.todo,vS k.bw m rest⟩))
def Ke(base:List Cl)(f:Nat)(name:Bs)(ex:List Ex)(vars:List Nat)(k:Wk):Out (Bool×Wk):=
 if jG name=ex.length then Out.bind (xx f name (nV vars ex) k.sr) fun p=>O (.ok (p.1,{ k with sr:=p.2 }))
 else match base.filter fun c=>c.name == name && c.args.length == ex.length with
  | []=>O (.error (.fault 10))
  | l=>vT f (nV vars ex) l k.todo k.bw.length { k with bw:=k.bw++[⟨k.sr.tr.length,k.todo,l,nV vars ex⟩] }
def Wk.Wx(k:Wk)(todo:List Goal):Wk:={ k with bw:=k.bw++[⟨k.sr.tr.length,todo,[],[]⟩] }
def Dw(base:List Cl)(f:Nat)(g:Goal)(k:Wk):Out (Bool×Wk):=
 if k.sr.fuel=0 then O (.error .Du)
 else
  let k:={ k with sr:=k.sr.dec }
  match g.EP with
  | none=>O (.ok (A,{ k with bw:=k.bw.take g.cut }))
  | some (.mk kind name args parts)=>
   if kind=33 then O (.ok (A,{ k with bw:=k.bw.take g.cut }))
   else if kind=44 then O (.ok (A,{ k with todo:=(parts.map fun p=>⟨O p,g.vars,g.cut⟩)++k.todo }))
   else if kind=59 then match parts with
    | [a,b]=>O (.ok (A,{ k.Wx (⟨O b,g.vars,g.cut⟩::k.todo) with todo:=⟨O a,g.vars,g.cut⟩::k.todo }))
    | _=>V
   else if kind=63 then match parts with
    | [a,b,c]=>O (.ok (A,{ k.Wx (⟨O c,g.vars,g.cut⟩::k.todo) with todo:=⟨O a,g.vars,k.bw.length⟩::⟨V,[],k.bw.length⟩::⟨O b,g.vars,g.cut⟩::k.todo }))
    | _=>V
   else if kind=126 then match parts with
    | [a]=>O (.ok (A,{ k.Wx k.todo with todo:=[⟨O a,g.vars,k.bw.length⟩,⟨V,[],k.bw.length⟩,⟨O zl,[],0⟩] }))
    | _=>V
   else Ke base f name args g.vars k
def kF(base:List Cl)(d:Nat):Nat->Bool->Wk->Out (Bool×Wk)
 | 0,_,_=>V
 | f+1,A,k=>match k.todo with
  | []=>O (.ok (A,{ k with todo:=[⟨O zl,[],0⟩] }))
  | g::r=>Out.bind (Dw base d g { k with todo:=r }) fun p=>kF base d f p.1 p.2
 | f+1,G,k=>match k.bw.getLast? with
  | none=>O (.ok (G,k))
  | some a=>match a.clauses with
   | []=>kF base d f A { k with sr:=k.sr.iD a.mark,todo:=a.todo,bw:=k.bw.dropLast }
   | c::l=>Out.bind (vT d a.args (c::l) a.todo (k.bw.length-1) { k with sr:=k.sr.iD a.mark }) fun p=>kF base d f p.1 p.2
def MI(tr:Tr)(f:Nat):List Bs->List Tm->Ws->Option (Option Ws)
 | nm::l,t::r,s=>
  if nm.head?=O 95 then MI tr f l r s
  else Wb (lE tr f t 0 ((if s.out=[] then s else s.add [44,32]).add (nm++[32,61,32]))) fun s=>MI tr f l r s
 | _,_,s=>O (O s)
structure Qw where
 err:Nat
 wk:Wk
def Qw.new(b:Bd)(nv:Nat):Qw:=⟨0,nv,⟨[],0⟩,[⟨O b,List.range nv,0⟩],[]⟩
structure yD(M:Nat)(c:Cl):Prop where
 body:eW c.vars.length M c.body
 args:fi c.vars.length c.args
 qg:c.args.length<=4
 sz:fH c.args<=M
 vars:c.vars.length<=M
def ng(M n:Nat):Nat->List Goal->Prop
 | _,[]=>True
 | h,g::r=>g.cut<=h/\(∀ i∈g.vars,i<n)/\(∀ b,g.EP=O b->eW g.vars.length M b)/\ng M n g.cut r
theorem ng.up{M n:Nat}:∀ {l:List Goal} {h a:Nat},ng M n h l->h<=a->ng M n a l
 | [],_,_,_,_=>trivial
 | _::_,_,_,b,c=>⟨aZL b.1 c,b.2⟩
def ng.more{M n b:Nat}(c:n<=b):∀ {l:List Goal} {h:Nat},ng M n h l->ng M b h l
 | [],_,_=>trivial
 | _::_,_,a=>⟨a.1,fun i d=>Nat.lt_of_lt_of_le (a.2.1 i d) c,a.2.2.1,a.2.2.2.more c⟩
structure Kf(M n i:Nat)(a:nW):Prop where
 todo:ng M n i a.todo
 args:jr a.args
 qg:a.args.length<=4
 cls:∀ c∈a.clauses,yD M c/\c.args.length=a.args.length
structure aGU(M:Nat)(k:Wk):Prop where
 todo:ng M k.n k.bw.length k.todo
 ag:∀ (i:Nat) (a:nW),k.bw[i]?=O a->Kf M k.n i a
 marks:∀ (i:Nat) (a:nW),k.bw[i]?=O a->a.mark<=k.sr.tr.length
 mono:∀ (i j:Nat) (a b:nW),i<=j->k.bw[i]?=O a->k.bw[j]?=O b->a.mark<=b.mark
section
def alV{f:Nat}{vs:List Nat}:∀ {l:List Tm} {r:List Ex} {s:Sr} {p:Bool×Sr},uP f vs l r s=O (.ok p)->s.tr <:+ p.2.tr/\p.2.fuel<=s.fuel/\p.2.cU<=s.cU
 | [],r,s,p,h=>by rw[uP] at h<;>grind
 | a::l,[],s,p,h=>by rw[uP] at h<;>grind
 | a::l,x::r,s,p,h=>by
  rw[uP] at h;obtain⟨q,b,c⟩| ⟨e,b,c⟩:=Out.bind_some h
  .obtain⟨d,g⟩:=(EN f).tm b;have i:=(MH f).tm b;split at c
   .obtain⟨g1,g2,g3⟩:=alV c;grind
   grind
  grind
def aGV{s:Sr}{t:Tr}(h:t <:+ s.tr)(a:n=t.length):(s.iD n).tr=t:=by
 obtain⟨u,h⟩:=h;subst a;unfold Sr.iD;simp only;rw[<- h];simp
def alW{name:Bs}{args:List Tm}{s:Sr}{p:Bool×Sr}(ht:mR s.tr)(l:∀ t∈args,er t)(i:jG name=args.length)(h:xx f name args s=O (.ok p)):s.tr <:+ p.2.tr/\p.2.fuel<=s.fuel/\p.2.cU<=s.cU:=by
 have k:∀ j,j<args.length->er (args.getD j default):=fun j m=>by
  grind
 have cU:∀ {s':Sr},s'.tr=s.tr->s'.fuel<=s.fuel->s'.cU<=s.cU:=fun b a=>by simp_all [Sr.cU]
 unfold xx at h;split at h
 .grind
 split at h
 .exact⟨(MH f).tm h,((EN f).tm h).2,((EN f).tm h).1⟩
 split at h
 .obtain⟨q,b,a⟩| ⟨e,b,a⟩:=Out.bind_some h
  .injection a with a;injection a with a;subst a;have d:=(MH f).tm b;have c:=((EN f).tm b).2;have g:=aGV d J;exact⟨zg,c,cU g c⟩
  grind
 split at h
 .obtain⟨b,a⟩:=(SE f).tm h;grind
 split at h
 .obtain⟨q,b,a⟩| ⟨e,b,a⟩:=Out.bind_some h
  .obtain⟨g1,g2,-⟩:=Dv f ht (k 1 (by have n:(2:Int)=args.length:=(by subst_vars;exact i);omega)) b;have d:=(MH f).tm a;obtain⟨c,g⟩:=(EN f).tm a;grind
  grind
 split at h
 .grind
 split at h
 .grind
 .obtain⟨q,b,a⟩| ⟨e,b,a⟩:=Out.bind_some h
  .obtain⟨q2,d,c⟩| ⟨e,d,c⟩:=Out.bind_some a
   .grind [jG,Dv,a1u]
   grind
  grind
def Wy{bw:List nW}{rest:List Cl}{a:nW}(h:(vS bw m rest)[i]?=O a):∃ b,bw[i]?=O b/\i<=m/\a.mark=b.mark/\a.todo=b.todo/\a.args=b.args/\(a.clauses=b.clauses\/(i=m/\a.clauses=rest))/\(i=m->rest≠[]):=by
 cases rest with
 | nil=>
  grind [vS]
 | cons c r=>
  grind [vS]
def aGW{bw:List nW}{rest:List Cl}(hm:m<=bw.length)(a:rest≠[]->m<bw.length):(vS bw m rest).length=if rest=[] then m else m+1:=by
 cases rest with
 | nil=>rw[vS,List.length_take,zip rfl];omega
 | cons c r=>
  simp_all [vS,List.getElem?_eq_getElem,bZ,List.length_append,List.length_take,List.length_cons,List.length_nil]
structure lF(M B:Nat)(k:Wk):Prop extends aGU M k where
 cU:k.sr.cU<=B
 nh:k.bw.length+k.sr.fuel<=B
variable{B:Nat}
def Kf.more{M n b i:Nat}{a:nW}(h:Kf M n i a)(c:n<=b):Kf M b i a:=⟨h.todo.more c,h.args,h.qg,h.cls⟩
def alX{args:List Tm}{l:List Cl}{td:List Goal}{k k':Wk}{b:Bool}(hk:lF M B k)(hm:m<=k.bw.length)(y:1<l.length->m<k.bw.length)(R:m<k.bw.length\/True)(F:ng M k.n m td)
  (H:∀ c∈l,yD M c) (S:∀ a,k.bw[m]?=O a->∀ c∈l,c.args.length=a.args.length) (h:vT f args l td m k=O (.ok (b,k'))):lF M B { k' with todo:=if b then k'.todo else [] }/\k.n<=k'.n/\k'.sr.fuel<k.sr.fuel:=by
 unfold vT at h;split at h
 .grind
 rename_i T;cases l with
 | nil=>grind
 | cons c rest=>
 simp only at h;obtain⟨p,z,d⟩| ⟨e,z,d⟩:=Out.bind_some h
 .obtain⟨g1,g2,g3⟩:=alV z;have gf:k.sr.dec.fuel=k.sr.fuel-1:=rfl;have gt:k.sr.dec.tr=k.sr.tr:=rfl;have gp:k.sr.dec.cU<=k.sr.cU:=by simp_all [Sr.cU]
  have hlen:=aGW (rest:=rest) hm (fun hr=>y (by cases rest with | nil=>grind | cons _ _=>simp));have I:(vS k.bw m rest).length<=k.bw.length/\m<=(vS k.bw m rest).length:=by
   rw[hlen];split
   .omega
   .rename_i hr;have:=y (by cases rest with | nil=>grind | cons _ _=>simp);omega
  have C:∀ (i:Nat) (a:nW),(vS k.bw m rest)[i]?=O a->Kf M (k.n+c.vars.length) i a:=fun i a g=>by
   obtain⟨b,r,U,q,s,t,u,-⟩:=Wy g;have o:=(hk.ag i b r).more (a0Z k.n c.vars.length);refine⟨by rw[s];exact o.todo,by rw[t];exact o.args,by rw[t];exact o.qg,fun x hx=>?_⟩;rcases u with u | ⟨rfl,u⟩
   .rw[t];exact o.cls x zg
   grind
  have D:∀ (i:Nat) (a:nW),(vS k.bw m rest)[i]?=O a->a.mark<=p.2.tr.length:=fun i a g=>by
   obtain⟨b,r,-,q,-⟩:=Wy g;rw[q];have:=hk.marks i b r;grind
  have E:∀ (i j:Nat) (a b:nW),i<=j->(vS k.bw m rest)[i]?=O a->(vS k.bw m rest)[j]?=O b->a.mark<=b.mark:=fun i j a b K g L=>by
   obtain⟨a',N,-,q,-⟩:=Wy g;obtain⟨P,o,-,s,-⟩:=Wy L;rw[q,s];exact hk.mono i j a' P K N o
  have Q:=H c (List.mem_cons_self ..);have W:=hk.cU;have X:=hk.nh;split at d
  .injection d with d;injection d with d;injection d with d w;subst d w;refine⟨⟨⟨⟨I.2,fun i g=>?_,fun x hx=>?_,F.more (a0Z _ _)⟩,C,D,E⟩,zg,zg⟩,a0Z _ _,zg⟩
   .grind
   .injection hx with hx;subst hx;rw[List.length_range'];exact Q.body
  .injection d with d;injection d with d;injection d with d w;subst d w;exact⟨⟨⟨trivial,C,D,E⟩,zg,zg⟩,a0Z _ _,zg⟩
 grind
theorem acF:∀ {l:List Tm} {t:Tm},jr l->t∈l->er t
 | [],_,_,h=>zg
 | a::l,t,h,ht=>by
  unfold jr at h;rcases aZU.1 ht with rfl | ht
  .grind
  .exact acF h.2 ht
def lF.more{k:Wk}(hk:lF M B k){a:nW}{s:Sr}(f:s.tr=k.sr.tr)(q:s.fuel<k.sr.fuel)(hm:a.mark=k.sr.tr.length)(r:Kf M k.n k.bw.length a){td:List Goal}(t:ng M k.n (k.bw.length+1) td) :
  lF M B { k with sr:=s,todo:=td,bw:=k.bw++[a] }:=by
 have u:(k.bw++[a]).length=k.bw.length+1:=zs;have d:∀ (i:Nat) (b:nW),(k.bw++[a])[i]?=O b->(i<k.bw.length/\k.bw[i]?=O b)\/(i=k.bw.length/\b=a):=fun i b h=>by
  grind
 have w:=hk.cU;have x:=hk.nh;refine⟨⟨zg,fun i b h=>?_,fun i b h=>?_,fun i j b c g l m=>?_⟩,?_,?_⟩
 .rcases d i b h with⟨_,h⟩| ⟨rfl,rfl⟩
  .exact hk.ag i b h
  omega
 .show b.mark<=s.tr.length;rw[f];rcases d i b h with⟨_,h⟩| ⟨rfl,rfl⟩
  .exact hk.marks i b h
  omega
 .rcases d i b l with⟨_,e⟩| ⟨y,z⟩
  .rcases d j c m with⟨_,o⟩| ⟨C,p⟩
   .exact hk.mono i j b c g e o
   .rw[p,hm];exact hk.marks i b e
  grind
 .grind [Sr.cU]
 grind
theorem lF.cut{k:Wk}(hk:lF M B k){s:Sr}(e:k.sr.tr <:+ s.tr)(o:s.fuel<=k.sr.fuel)(p:s.cU<=k.sr.cU+1)(q:s.fuel<k.sr.fuel\/s.cU<=k.sr.cU)(d:s.cU<=B){td:List Goal}(hm:m<=k.bw.length)(r:ng M k.n m td) :
  lF M B { k with sr:=s,todo:=td,bw:=k.bw.take m }:=by
 have t:(k.bw.take m).length=m:=zg;have a:∀ (i:Nat) (b:nW),(k.bw.take m)[i]?=O b->k.bw[i]?=O b:=fun i b h=>by
  grind
 have u:=hk.nh;refine⟨⟨zg,fun i b h=>hk.ag i b (a i b h),fun i b h=>aZL (hk.marks i b (a i b h)) e.length_le,fun i j b c f g l=>hk.mono i j b c f (a i b g) (a j c l)⟩,d,?_⟩;grind
theorem ng.map{M n h:Nat}{vs:List Nat}(hv:∀ i∈vs,i<n):∀ {parts:List Bd} {r:List Goal},eX vs.length M parts->ng M n h r->ng M n h ((parts.map fun p=>⟨O p,vs,h⟩)++r)
 | [],_,_,hr=>hr
 | p::ps,r,a,hr=>by
  unfold eX at a;exact⟨aZK _,hv,fun b c=>zg,ng.map hv a.2 hr⟩
def alZ{base:List Cl}{g:Goal}{r:List Goal}{k k':Wk}{b:Bool}(hk:lF M B { k with todo:=g::r })(X:mR k.sr.tr)(gL:∀ c∈base,yD M c)(h:Dw base f g { k with todo:=r }=O (.ok (b,k'))) :
  lF M B { k' with todo:=if b then k'.todo else [] }/\k.n<=k'.n/\k'.sr.fuel<k.sr.fuel:=by
 obtain⟨hcut,N,P,hr⟩:=(hk.todo:ng M k.n k.bw.length (g::r));have hcut:g.cut<=k.bw.length:=hcut;have z:k.sr.cU<=B:=hk.cU;have MJ:k.bw.length+k.sr.fuel<=B:=hk.nh;unfold Dw at h;split at h
 .grind
 rename_i F;have F:¬ k.sr.fuel=0:=F;have gf:k.sr.dec.fuel=k.sr.fuel-1:=rfl;have gt:k.sr.dec.tr=k.sr.tr:=rfl;have gp:k.sr.dec.cU<=k.sr.cU:=by simp_all [Sr.cU]
 have Q:lF M B { k with todo:=[],sr:=k.sr.dec }:=⟨⟨trivial,hk.ag,hk.marks,hk.mono⟩,aZL gp z,zg⟩;have R:∀ td,ng M k.n g.cut td->lF M B { k with sr:=k.sr.dec,todo:=td,bw:=k.bw.take g.cut }:=fun td d=>
  Q.cut (a1u _) (aZK _) (a0O _) (.inr (aZK _)) (aZL gp z) hcut d
 have s:k.sr.dec.fuel<k.sr.fuel:=zo;have w:∀ (a:nW) (td:List Goal),a.mark=k.sr.tr.length->Kf M k.n k.bw.length a->ng M k.n (k.bw.length+1) td->lF M B { k with sr:=k.sr.dec,todo:=td,bw:=k.bw++[a] }:=fun a td hm S d=>
  lF.more (k:={ k with todo:=g::r }) hk gt s hm S d
 have x:ng M k.n k.bw.length r:=hr.up hcut;have y:∀ {td:List Goal},ng M k.n g.cut td->ng M k.n k.bw.length td:=fun h=>h.up hcut;cases H:g.EP with
 | none=>
  grind
 | some bd=>
  obtain⟨kind,name,args,parts⟩:=bd;rw[H] at h;simp only at h;have eY:=P _ H;unfold eW at eY;obtain⟨mm,nu,⟨O1,O2,O3⟩,Gm,T,jm,jS,j⟩:=eY;split at h
  .grind
  split at h
  .simp only[aZG,a1m,aZ6] at h;obtain⟨rfl,rfl⟩:=h;refine⟨⟨⟨?_,hk.ag,hk.marks,hk.mono⟩,aZL gp z,zg⟩,aZK _,s⟩;grind [ng.map]
  have one:∀ {p:Bd},eW g.vars.length M p->∀ {o:Nat} {td:List Goal},ng M k.n o td->ng M k.n o (⟨O p,g.vars,o⟩::td):=fun hp=>fun d=>⟨aZK _,N,fun b C=>zg,d⟩;have u:∀ {o:Nat} {td:List Goal},ng M k.n o td->ng M k.n o (⟨V,[],o⟩::td):=fun d=>⟨aZK _,(fun i D=>zg),(fun b C=>zg),d⟩;have q:∀ {td:List Goal},ng M k.n k.bw.length td->Kf M k.n k.bw.length ⟨k.sr.tr.length,td,[],[]⟩:=fun d=>⟨d,(by simp_all [jr]),zs,(fun c U=>zg)⟩;split at h
  .split at h
   .rename_i I pb;unfold eX eX eX at j;simp only[aZG,a1m,aZ6] at h;obtain⟨rfl,rfl⟩:=h;exact⟨w _ _ J (q (y (one j.2.1 hr))) ((y (one j.1 hr)).up (a0O _)),aZK _,s⟩
   grind
  split at h
  .split at h
   .rename_i I pb pc;unfold eX eX eX eX at j;simp only[aZG,a1m,aZ6] at h;obtain⟨rfl,rfl⟩:=h;exact⟨w _ _ J (q (y (one j.2.2.1 hr))) ((one j.1 (u (y (one j.2.1 hr)))).up (a0O _)),aZK _,s⟩
   grind
  split at h
  .split at h
   .rename_i I;unfold eX eX at j;simp only[aZG,a1m,aZ6] at h;obtain⟨rfl,rfl⟩:=h;refine⟨w _ _ J (q x) ((one j.1 (u (show ng M k.n k.bw.length [⟨O zl,[],0⟩] from⟨Nat.zero_le _,(fun i D=>zg),(fun b C=>by grind [acu]),trivial⟩))).up (a0O _)),aZK _,s⟩
   grind
  .unfold Ke at h;have K:=J9 g.vars args T;split at h
   .rename_i ht;obtain⟨p,L,m⟩| ⟨e,L,m⟩:=Out.bind_some h
    .injection m with m;injection m with m;injection m with m W;subst m W;obtain⟨E,e2,e3⟩:=alW zg (fun t ht=>acF K.1 ht) zo L;have E:k.sr.tr <:+ p.2.tr:=E;refine⟨⟨⟨?_,hk.ag,fun i a D=>aZL (hk.marks i a D) E.length_le,hk.mono⟩,zg,zg⟩,aZK _,zg⟩;split
     .omega
     .trivial
    grind
   .split at h
    .grind
    .rename_i l ed;have C:=alX (k:={ k with sr:=k.sr.dec,todo:=r,bw:=k.bw++[⟨k.sr.dec.tr.length,r,base.filter (fun c=>c.name == name && c.args.length == args.length),nV g.vars args⟩] }) (M:=M) (B:=B) ?_ ?_ ?_ (.inr trivial) x ?_ ?_ h
     .grind
     .refine w _ _ J ⟨x,K.1,zg,fun c U=>?_⟩ (x.up (a0O _));grind
     .grind
     .grind
     .grind
     grind
theorem lF.iD{M:Nat}{k:Wk}(hk:lF M B { k with todo:=[] }){a:nW}(j:k.bw.getLast?=O a) :
  lF M B { k with sr:=k.sr.iD a.mark,todo:=[] }/\k.bw[k.bw.length-1]?=O a/\a.mark<=k.sr.tr.length/\(k.sr.iD a.mark).fuel=k.sr.fuel:=by
 have c:k.bw[k.bw.length-1]?=O a:=zg;have g:a.mark<=k.sr.tr.length:=hk.marks _ _ c;have d:(k.sr.iD a.mark).tr.length=a.mark:=by
  grind [Sr.iD,List.length_drop]
 have e:=hk.cU;have h:=hk.nh;refine⟨⟨⟨trivial,hk.ag,fun i b f=>?_,hk.mono⟩,?_,h⟩,c,g,J⟩
 .show b.mark<=(k.sr.iD a.mark).tr.length;rw[d];have:=(List.getElem?_eq_some_iff.1 f).1;exact hk.mono i _ b a zg f c
 .show(k.sr.iD a.mark).cU<=_;have e:k.sr.tr.length+k.sr.fuel<=B:=e;unfold Sr.cU;rw[d];show a.mark+k.sr.fuel<=_;omega
def lF.back{k:Wk}(hk:lF M B { k with todo:=[] }){a:nW}(c:k.bw.getLast?=O a):lF M B { k with sr:=k.sr.iD a.mark,todo:=a.todo,bw:=k.bw.dropLast }:=by
 obtain⟨b,d,e,f⟩:=hk.iD c;have g:=b.cut (m:=k.bw.length-1) (a1u _) (aZK _) (a0O _) (.inr (aZK _)) b.cU (a1k _ _) (b.ag _ _ d).todo;simp_all [List.dropLast_eq_take]
def lF.again{k k':Wk}(hk:lF M B { k with todo:=[] }){a:nW}(o:k.bw.getLast?=O a){b:Bool}(h:vT d a.args a.clauses a.todo (k.bw.length-1) { k with sr:=k.sr.iD a.mark }=O (.ok (b,k'))) :
  lF M B { k' with todo:=if b then k'.todo else [] }/\k.n<=k'.n/\k'.sr.fuel<k.sr.fuel:=by
 obtain⟨l,m,t,u⟩:=hk.iD o;have g:=l.ag _ _ m;have i:vT d a.args a.clauses a.todo (k.bw.length-1) { k with sr:=k.sr.iD a.mark,todo:=[] }=O (.ok (b,{ k' with todo:=if b then k'.todo else [] })):=by
  unfold vT at h ⊢;simp only at h ⊢;split at h
  .grind
  .rename_i q;rw[bZ q]
   revert h
   split
   .grind
   .intro h;obtain⟨p,r,s⟩| ⟨e,r,s⟩:=Out.bind_some h
    .grind [Out.ee]
    grind
 have:=alX l (a1k _ _) (fun _=>zg) (.inr trivial) g.todo (fun c j=>(g.cls c j).1) (fun b f c j=>by
  have f:k.bw[k.bw.length-1]?=O b:=f;rw[m] at f;injection f with f;subst f;exact(g.cls c j).2) i
 grind
end
section
variable{B:Nat}
structure WFu(tr:Tr)(f:Nat):Prop where
 tm:∀ t l s r,lE tr f t l s=O (O r)->r.fuel<s.fuel
 comp:∀ n a l s r,B8 tr f n a l s=O (O r)->r.fuel<=s.fuel
 args:∀ c a s r,uN tr f c a s=O (O r)->r.fuel<=s.fuel
 list:∀ c a b s r,yy tr f c a b s=O (O r)->r.fuel<s.fuel
section
variable{tr:Tr}(ht:yC tr){n:Nat}(ih:∀ s:Ws,s.fuel<n->∀ t l,Dfd (fun f=>lE tr f t l s))
include ih
end
theorem aGY{t:Tm}{s:Sr}{p:Bool×Sr}(hk:mR s.tr)(ht:er t)(h:sU f i t s=O (.ok p)):mR p.2.tr:=by
 unfold sU at h;obtain⟨q,c,a⟩| ⟨e,c,a⟩:=Out.bind_some h
 .obtain⟨b,s1⟩:=q;have d:s1.tr=s.tr:=((Ip f).tm c).1;cases b with
  | true=>
   grind
  | false=>
   simp only[a0h,if_false,aZG,a1m] at a;subst a;show mR ((i,t)::s1.tr);rw[d];exact⟨ht,hk⟩
 grind
def al1:er (.var i):=by simp_all [er]
def al2:∀ f,(∀ a b s p,mR s.tr->er a->er b->lz f a b s=O (.ok p)->mR p.2.tr)/\(∀ l r s p,mR s.tr->jr l->jr r->mZ f l r s=O (.ok p)->mR p.2.tr)
 | 0=>⟨fun _ _ _ _ _ _ _ h=>(by cases h),fun _ _ _ _ _ _ _ h=>(by cases h)⟩
 | f+1=>by
  obtain⟨i,j⟩:=al2 f;constructor
  .intro a b s p ht c d h;rw[lz] at h;split at h
   .grind
   .cases hw:fG s.tr f a with
    | none=>grind
    | some u=>
     cases hv:fG s.tr f b with
     | none=>grind
     | some v=>
      rw[hw,hv] at h;have k:mR s.dec.tr:=ht;have hu:=vR ht c hw;have m:=vR ht d hv;grind [aGY,er]
  .intro l r s p ht g hr h;cases l with
   | nil=>grind [mZ]
   | cons a l=>
    cases r with
    | nil=>grind [mZ]
    | cons b r=>
     unfold jr at g hr;rw[mZ] at h;obtain⟨q,g1,g2⟩| ⟨e,g1,g2⟩:=Out.bind_some h<;>grind
structure lh(s:Sr):Prop where
 EU:yC s.tr
 ok:mR s.tr
theorem lh.iD{s:Sr}(h:lh s)(m:Nat):lh (s.iD m):=⟨h.EU.drop _,P.mR.al3 _ h.ok⟩
where
 P.mR.al3:∀ (k:Nat) {tr:Tr},mR tr->mR (tr.drop k)
  | 0,_,h=>h
  | _+1,[],h=>h
  | k+1,(_,_)::_,h=>P.mR.al3 k h.2
theorem lh.Gn{a b:Tm}{s:Sr}{p:Bool×Sr}(h:lh s)(c:er a)(d:er b)(hr:lz f a b s=O (.ok p)):lh p.2:=⟨(alT f).1 _ _ _ _ h.EU hr,(al2 f).1 _ _ _ _ h.ok c d hr⟩
theorem lh.test{name:Bs}{args:List Tm}{s:Sr}{p:Bool×Sr}(g:lh s)(l:∀ t∈args,er t)(m:jG name=args.length)(h:xx f name args s=O (.ok p)):lh p.2:=by
 have d:∀ j,j<args.length->er (args.getD j default):=fun j n=>by
  grind
 have two:∀ x∈([[61],[92,61],[61,61],[105,115],[60],[62],[61,60],[62,61],[61,58,61]]:List Bs),name=x->1<args.length:=fun x hx e=>by
  subst e;have:jG name=2:=by
   simp only[aZU,List.not_mem_nil,or_false] at hx;rcases hx with rfl | rfl | rfl | rfl | rfl | rfl | rfl | rfl | rfl<;>rfl
  omega
 have tr:∀ {q:Sr},q.tr=s.tr->lh q:=fun e=>⟨by grind [EU],by grind [ok]⟩;unfold xx at h;split at h
 .grind
 split at h
 .grind [Gn]
 split at h
 .rename_i c;have:=two [92,61] zs c;obtain⟨q,b,a⟩| ⟨e,b,a⟩:=Out.bind_some h
  .grind [iD,Gn]
  grind
 split at h
 .exact tr ((SE f).tm h).1
 split at h
 .rename_i c;have:=two [105,115] zs c;obtain⟨q,b,a⟩| ⟨e,b,a⟩:=Out.bind_some h
  .obtain⟨g1,g2,g3⟩:=Dv f g.ok (d 1 this) b;refine(tr g1).Gn (d 0 zo) (by unfold er;exact g3) a
  grind
 split at h
 .grind
 split at h
 .grind
 .obtain⟨q,b,a⟩| ⟨e,b,a⟩:=Out.bind_some h
  .obtain⟨q2,i,k⟩| ⟨e,i,k⟩:=Out.bind_some a
   .grind [jG,Dv,ok]
   grind
  grind
theorem lh.head{f:Nat}{vs:List Nat}:∀ {l:List Tm} {r:List Ex} {s:Sr} {p:Bool×Sr},lh s->jr l->fi vs.length r->uP f vs l r s=O (.ok p)->lh p.2
 | [],r,s,p,b,_,_,h=>by grind [uP]
 | a::l,[],s,p,b,_,_,h=>by grind [uP]
 | a::l,x::r,s,p,b,c,hr,h=>by
  rw[uP] at h;unfold jr at c;unfold fi at hr;obtain⟨q,g,d⟩| ⟨e,g,d⟩:=Out.bind_some h
  .have i:=b.Gn c.1 (acr vs _ hr.1) g;split at d
   .exact lh.head i c.2 hr.2 d
   grind
  grind
def al4(vs:List Nat):∀ (l:List Tm) (r:List Ex) (s:Sr),Mon (fun f=>uP f vs l r s)
 | [],r,s=>by intro f;simp_all [uP,Le.rfl]
 | _::_,[],s=>by intro f;simp_all [uP,Le.rfl]
 | a::l,x::r,s=>by
  intro f;simp only[uP];refine Out.yB (aGR _ _ _ f) fun p=>?_;split
  .exact al4 vs l r p.2 f
  simp_all [Le.rfl]
def al5(args:List Tm)(l:List Cl)(td:List Goal)(m:Nat)(k:Wk):Mon (fun f=>vT f args l td m k):=by
 intro f;simp only[vT];split
 .exact Le.rfl
 .cases l with
  | nil=>exact Le.rfl
  | cons c rest=>exact Out.yB (al4 _ _ _ _ f) fun _=>Le.rfl
def lh.clause{args:List Tm}{l:List Cl}{td:List Goal}{k:Wk}{p:Bool×Wk}(a:lh k.sr)(d:jr args)(g:∀ c∈l,yD M c)(h:vT f args l td m k=O (.ok p)):lh p.2.sr:=by
 unfold vT at h;split at h
 .grind
 .cases l with
  | nil=>grind
  | cons c rest=>
   have i:=g c (List.mem_cons_self ..);simp only at h;obtain⟨q,b,j⟩| ⟨e,b,j⟩:=Out.bind_some h
   .have n:=lh.head (show lh k.sr.dec from⟨a.EU,a.ok⟩) d (by rw[List.length_range'];exact i.args) b;grind
   grind
def aGZ(base:List Cl)(name:Bs)(ex:List Ex)(vars:List Nat)(k:Wk):Mon (fun f=>Ke base f name ex vars k):=by
 intro f;simp only[Ke];split
 .exact Out.yB (aGS _ _ _ f) fun _=>Le.rfl
 .cases base.filter fun c=>c.name == name && c.args.length == ex.length with
  | nil=>exact Le.rfl
  | cons c l=>exact al5 _ _ _ _ _ f
def lh.goal{base:List Cl}{name:Bs}{ex:List Ex}{k:Wk}{p:Bool×Wk}(i:lh k.sr)(hx:fi fx.length ex)(a:∀ c∈base,yD M c)(h:Ke base f name ex fx k=O (.ok p)):lh p.2.sr:=by
 have b:=J9 fx ex hx;unfold Ke at h;split at h
 .rename_i ht;obtain⟨q,d,g⟩| ⟨e,d,g⟩:=Out.bind_some h
  .grind [acF,test]
  grind
 .split at h
  .grind
  .exact lh.clause zo b.1 (fun x hx=>a x (List.mem_filter.1 hx).1) h
def aG0(base:List Cl)(g:Goal)(k:Wk):Mon (fun f=>Dw base f g k):=by
 intro f;simp only[Dw];split
 .exact Le.rfl
 .cases g.EP with
  | none=>exact Le.rfl
  | some b=>
   cases b;simp only;split
   .exact Le.rfl
   split
   .exact Le.rfl
   split
   .exact Le.rfl
   split
   .exact Le.rfl
   split
   .exact Le.rfl
   .exact aGZ _ _ _ _ _ f
theorem lh.step{base:List Cl}{g:Goal}{k:Wk}{p:Bool×Wk}(d:lh k.sr)(e:∀ b,g.EP=O b->eW g.vars.length M b)(i:∀ c∈base,yD M c)(h:Dw base f g k=O (.ok p)):lh p.2.sr:=by
 have a:lh k.sr.dec:=⟨d.EU,d.ok⟩;unfold Dw at h;split at h
 .grind
 .cases hw:g.EP with
  | none=>grind
  | some b=>
   obtain⟨kind,name,args,parts⟩:=b;have eY:=e _ hw;unfold eW at eY;obtain⟨l,m,⟨n,o,q⟩,r,j,s,jS,t⟩:=eY;rw[hw] at h;simp only at h;split at h
   .grind
   split at h
   .grind
   split at h
   .split at h
    .injection h with h;injection h with h;subst h;exact a
    grind
   split at h
   .split at h
    .injection h with h;injection h with h;subst h;exact a
    grind
   split at h
   .split at h
    .injection h with h;injection h with h;subst h;exact a
    grind
   .exact lh.goal zo j i h
def WB(base:List Cl):∀ (f d:Nat) (b:Bool) (k:Wk),Le (kF base d f b k) (kF base (d+1) f b k)
 | 0,d,b,k=>by intro r h;simp_all [kF]
 | f+1,d,A,k=>by
  rw[kF,kF];cases k.todo with
  | nil=>exact Le.rfl
  | cons g r=>exact Out.yB (aG0 base g _ d) fun p=>WB base f d p.1 p.2
 | f+1,d,G,k=>by
  rw[kF,kF];cases k.bw.getLast? with
  | none=>exact Le.rfl
  | some a=>
   simp only;cases a.clauses with
   | nil=>exact WB base f d _ _
   | cons c l=>exact Out.yB (al5 _ _ _ _ _ d) fun p=>WB base f d p.1 p.2
def WC(base:List Cl)(d:Nat):∀ (f:Nat) (b:Bool) (k:Wk),Le (kF base d f b k) (kF base d (f+1) b k)
 | 0,b,k=>by intro r h;simp_all [kF]
 | f+1,A,k=>by
  rw[kF,kF];cases k.todo with
  | nil=>exact Le.rfl
  | cons g r=>exact Out.yB Le.rfl fun p=>WC base d f p.1 p.2
 | f+1,G,k=>by
  rw[kF,kF];cases k.bw.getLast? with
  | none=>exact Le.rfl
  | some a=>
   simp only;cases a.clauses with
   | nil=>exact WC base d f _ _
   | cons c l=>exact Out.yB Le.rfl fun p=>WC base d f p.1 p.2
def aG1{base:List Cl}{f':Nat}{b:Bool}{k:Wk}{r:Except jB (Bool×Wk)}(h:kF base d f b k=O r)(a:d<=pb)(c:f<=f'):kF base pb f' b k=O r:=by
 have e:kF base pb f b k=O r:=Le.many (F:=fun d=>kF base d f b k) (fun d=>WB base f d b k) a _ h;exact Le.many (F:=fun f=>kF base pb f b k) (fun f=>WC base pb f b k) c _ e
def WD{base:List Cl}{M d:Nat}(m:∀ c∈base,yD M c):∀ (f:Nat) (b:Bool) (k:Wk) (p:Bool×Wk),lF M B { k with todo:=if b then k.todo else [] }->lh k.sr->kF base d f b k=O (.ok p) ->
  lF M B { p.2 with todo:=if p.1 then p.2.todo else [] }/\lh p.2.sr/\k.n<=p.2.n/\p.2.sr.fuel<=k.sr.fuel
 | 0,_,_,_,_,_,h=>by simp_all [kF]
 | f+1,A,k,p,hk,o,h=>by
  rw[kF] at h;simp only[if_true] at hk;cases ht:k.todo with
  | nil=>
   rw[ht] at h;injection h with h;injection h with h;subst h;refine⟨⟨⟨?_,hk.ag,hk.marks,hk.mono⟩,hk.cU,hk.nh⟩,o,aZK _,aZK _⟩;exact⟨Nat.zero_le _,(fun i K=>zg),(fun b L=>by grind [acu]),trivial⟩
  | cons g r=>
   rw[ht] at h;have w:lF M B { k with todo:=g::r }:=zg;have z:=(w.todo:ng M k.n k.bw.length (g::r)).2.2.1;obtain⟨q,j,s⟩| ⟨e,j,s⟩:=Out.bind_some h
   .obtain⟨g1,g2,g3⟩:=alZ w o.ok m j;obtain⟨C,D,E,F⟩:=WD m f q.1 q.2 p g1 (lh.step (k:={ k with todo:=r }) zo z m j) s;grind
   grind
 | f+1,G,k,p,hk,o,h=>by
  rw[kF] at h;simp only[a0h,if_false] at hk;cases t:k.bw.getLast? with
  | none=>
   grind
  | some a=>
   rw[t] at h;simp only at h;obtain⟨N,H,P,Q⟩:=hk.iD t;have y:=hk.ag _ _ H;cases u:a.clauses with
   | nil=>
    rw[u] at h;exact WD m f A { k with sr:=k.sr.iD a.mark,todo:=a.todo,bw:=k.bw.dropLast } p (hk.back t) (by exact o.iD _) h
   | cons c l=>
    rw[u] at h;simp only at h;rw[<- u] at h;have I:∀ x∈a.clauses,yD M x:=fun x hx=>(y.cls x hx).1;obtain⟨q,j,s⟩| ⟨e,j,s⟩:=Out.bind_some h
    .obtain⟨g1,g2,g3⟩:=hk.again t j;obtain⟨C,D,E,F⟩:=WD m f q.1 q.2 p g1 (lh.clause (k:={ k with sr:=k.sr.iD a.mark }) (by exact o.iD _) y.args I j) s;grind
    grind
end
structure In where
 word:Bs
 name:Bs
 const:Option Tm
 s:List Nat
deriving Inhabited
structure Co where
 slots:Nat
 ins:List In
deriving Inhabited
structure Mk where
 slots:Nat
 ins:List In
 vars:List (Option Nat)
def Mk.put(m:Mk)(word name:Bs)(c:Option Tm)(s:List Nat):Mk:={ m with ins:=m.ins++[⟨word,name,c,s⟩] }
def Mk.slot(m:Mk):Option (Nat×Mk):=if 64<m.slots+1 then V else O (m.slots,{ m with slots:=m.slots+1 })
def Mk.rT(m:Mk):Nat->Option (List Nat×Mk)
 | 0=>O ([],m)
 | n+1=>match m.slot with
  | none=>V
  | some (s,m)=>match m.rT n with
   | none=>V
   | some (l,m)=>O (s::l,m)
def Ce(kind:Nat)(name:Bs)(n:Int):Tm:=if kind=110 then .int n else .atom name
mutual
def yG:Ex->Nat->Mk->Option Mk
 | .mk kind name n k args,s,m=>
  if kind=118 then match m.vars.getD k V with
   | none=>O { m with vars:=m.vars.set k (O s) }
   | some t=>O (m.put [115,97,109,101] [] V [s,t])
  else if kind=99 then match m.rT args.length with
   | none=>V
   | some (l,m)=>rU args l (m.put [115,112,108,105,116] name V (s::l))
  else O (m.put [99,111,110,115,116] [] (O (Ce kind name n)) [s])
 termination_by structural x=>x
def rU:List Ex->List Nat->Mk->Option Mk
 | [],_,m=>O m
 | x::xs,l,m=>match yG x (l.headD 0) m with
  | none=>V
  | some m=>rU xs l.tail m
 termination_by structural x=>x
end
mutual
def Ae:Ex->Mk->Option (Nat×Mk)
 | .mk kind name n k args,m=>
  if kind=118 then O ((m.vars.getD k V).getD 0,m)
  else if kind≠99 then match m.slot with
   | none=>V
   | some (s,m)=>O (s,m.put [112,117,116] [] (O (Ce kind name n)) [s])
  else match rV args m with
   | none=>V
   | some (l,m)=>match m.slot with
    | none=>V
    | some (s,m)=>O (s,m.put [109,97,107,101] name V (s::l))
 termination_by structural x=>x
def rV:List Ex->Mk->Option (List Nat×Mk)
 | [],m=>O ([],m)
 | x::xs,m=>match Ae x m with
  | none=>V
  | some (s,m)=>match rV xs m with
   | none=>V
   | some (l,m)=>O (s::l,m)
 termination_by structural x=>x
end
def Mk.land(m:Mk)(k:Nat):Mk:={ m with ins:=m.ins.modify k fun i=>{ i with s:=[m.ins.length] } }
def kf:Bs:=[116,114,121]
def jL:Bs:=[106,117,109,112]
def kR:Bs:=[99,117,116]
def qH:Bs:=[108,101,118,101,108]
def ni:Bs:=[116,101,115,116]
def Af:Bs:=[99,97,108,108]
def tT:Bs:=[110,101,119]
def uQ:Bs:=[109,97,114,107]
mutual
def kS:Bd->Nat->Mk->Option Mk
 | .mk kind name args parts,cut,m=>
  if kind=33 then O (m.put kR [] V [cut])
  else if kind=44 then rW parts cut m
  else if kind=59 then Dy parts cut m
  else if kind=63 then match m.slot with
   | none=>V
   | some (s,m)=>Dz parts s cut (m.put qH [] V [s])
  else if kind=126 then match m.slot with
   | none=>V
   | some (s,m)=>DA parts s (m.put qH [] V [s])
  else match rV args m with
   | none=>V
   | some (l,m)=>O (m.put (if jG name=l.length then ni else Af) name V l)
 termination_by structural x=>x
def rW:List Bd->Nat->Mk->Option Mk
 | [],_,m=>O m
 | b::r,cut,m=>match kS b cut m with
  | none=>V
  | some m=>rW r cut m
 termination_by structural x=>x
def Dy:List Bd->Nat->Mk->Option Mk
 | [],_,_=>V
 | a::r,cut,m=>match kS a cut (m.put kf [] V [0]) with
  | none=>V
  | some m1=>match rW r cut ((m1.put jL [] V [0]).land m.ins.length) with
   | none=>V
   | some m2=>O (m2.land m1.ins.length)
 termination_by structural x=>x
def Dz:List Bd->Nat->Nat->Mk->Option Mk
 | [],_,_,_=>V
 | a::r,s,cut,m=>match kS a s (m.put kf [] V [0]) with
  | none=>V
  | some m1=>EV r cut m.ins.length (m1.put kR [] V [s])
 termination_by structural x=>x
def EV:List Bd->Nat->Nat->Mk->Option Mk
 | [],_,_,_=>V
 | b::r,cut,k,m=>match kS b cut m with
  | none=>V
  | some m1=>match rW r cut ((m1.put jL [] V [0]).land k) with
   | none=>V
   | some m2=>O (m2.land m1.ins.length)
 termination_by structural x=>x
def DA:List Bd->Nat->Mk->Option Mk
 | [],_,_=>V
 | a::_,s,m=>match kS a s (m.put kf [] V [0]) with
  | none=>V
  | some m1=>O (((m1.put kR [] V [s]).put ni [102,97,105,108] V []).land m.ins.length)
 termination_by structural x=>x
end
def Mk.news(m:Mk):Nat->Nat->Option Mk
 | _,0=>O m
 | k,n+1=>match m.slot with
  | none=>V
  | some (s,m')=>Mk.news ({ m' with vars:=m'.vars.set k (O s) }.put tT [] V [s]) (k+1) n
def Mk.rest(m:Mk):Nat->Nat->Option Mk
 | _,0=>O m
 | k,n+1=>match m.vars.getD k V with
  | some _=>Mk.rest m (k+1) n
  | none=>match m.slot with
   | none=>V
   | some (s,m')=>Mk.rest ({ m' with vars:=m'.vars.set k (O s) }.put tT [] V [s]) (k+1) n
def A8(args:List Ex)(body:Bd)(nv:Nat)(a:Bool):Option Co:=
 match (⟨0,[],a0m nv V⟩:Mk).rT args.length with
 | none=>V
 | some (b,m)=>match (if a then m.news 0 nv else O m) with
  | none=>V
  | some m=>match m.slot with
   | none=>V
   | some (cut,m)=>match rU args b (m.put uQ [] V [cut]) with
    | none=>V
    | some m=>match m.rest 0 nv with
     | none=>V
     | some m=>match kS body cut m with
      | none=>V
      | some m=>O ⟨m.slots,(m.put (if a then [100,111,110,101] else [114,101,116]) [] V []).ins⟩
structure Pd where
 name:Bs
 arity:Nat
 clauses:List Co
def rj(name:Bs)(n:Nat)(c:Co):List Pd->List Pd
 | []=>[⟨name,n,[c]⟩]
 | p::r=>if p.name=name/\p.arity=n then{ p with clauses:=p.clauses++[c] }::r else p::rj name n c r
def xz:List Cl->List Pd->Option (List Pd)
 | [],l=>O l
 | c::r,l=>match A8 c.args c.body c.vars.length G with
  | none=>V
  | some x=>xz r (rj c.name c.args.length x l)
def mz(first:Bs)(l:List Bs):Bs:=first++(l.map fun w=>32::w).flatten++[10]
def mB(w:Bs):Option Bs:=
 if w=tT\/w=uQ\/w=qH\/w=kR then O [115]
 else if w=[112,117,116]\/w=[99,111,110,115,116] then O [115,99]
 else if w=[115,97,109,101] then O [115,115]
 else if w=[109,97,107,101]\/w=[115,112,108,105,116] then O [115,110,42]
 else if w=ni\/w=Af then O [110,42]
 else if w=kf\/w=jL then O [112]
 else if w=[114,101,116]\/w=[100,111,110,101] then O []
 else V
def Cf:Option Tm->Bs
 | some (.int n)=>kO n
 | some (.atom a)=>a
 | _=>[]
def tU(i:In):Bs->List Nat->List Bs
 | [],_=>[]
 | x::r,s=>
  if x=115\/x=112 then ff (s.headD 0)::tU i r s.tail
  else if x=99 then Cf i.const::tU i r s
  else if x=110 then i.name::tU i r s
  else s.map ff++tU i r s
def Gp(i:In):Bs:=mz i.word (tU i ((mB i.word).getD []) i.s)
def Ag(c:Co):Bs:=(c.ins.map Gp).flatten
def vV(p:Pd):Bs:=mz [112,114,101,100] [p.name,ff p.arity]++(p.clauses.map fun c=>mz [99,108,97,117,115,101] [ff c.slots]++Ag c).flatten
def yI(l:List Pd)(ask:Co)(told:Nat):Bs:=(l.map vV).flatten++mz [113,117,101,114,121] [ff ask.slots,ff told]++Ag ask
inductive Sl where
 | nil
 | term (t:Tm)
 | level (n:Nat)
deriving Inhabited
structure Fm where
 code:Co
 slots:List Sl
 entry:Nat
 back:Option Nat
 pc:Nat
 ask:Bool
structure Ga where
 mark:Nat
 f:Nat
 pc:Nat
 others:List Co
 args:List Sl
structure Vm where
 n:Nat
 sr:Sr
 fs:List Fm
 f:Nat
 pc:Nat
 bw:List Ga
def Vm.slot(m:Vm)(k:Nat):Sl:=match m.fs[m.f]? with
 | some x=>x.slots.getD k .nil
 | none=>.nil
def Vm.set(m:Vm)(k:Nat)(v:Sl):Vm:={ m with fs:=m.fs.modify m.f fun x=>{ x with slots:=x.slots.set k v } }
def Vm.at(m:Vm)(i:In)(k:Nat):Except jB Tm:=match m.slot (i.s.getD k 0) with
 | .term t=>.ok t
 | _=>.error (.fault 5)
def Vm.iK(m:Vm):List Nat->Except jB (List Tm)
 | []=>.ok []
 | k::r=>match m.slot k with
  | .term t=>match m.iK r with
   | .ok l=>.ok (t::l)
   | .error e=>.error e
  | _=>.error (.fault 5)
def Ir{α β:Type}(x:Except jB α)(k:α->Out β):Out β:=match x with
 | .error e=>O (.error e)
 | .ok a=>k a
def Vm.enter(m:Vm)(l:List Co)(args:List Sl)(f pc n:Nat):Option Vm:=
 match l with
 | []=>V
 | c::rest=>O { m with bw:=m.bw.take n++(match rest with | []=>[] | _=>[⟨m.sr.tr.length,f,pc,rest,args⟩]),fs:=m.fs++[⟨c,args++a0m (max c.slots args.length-args.length) .nil,n,O f,pc,G⟩],f:=m.fs.length,pc:=0 }
def Vm.back(m:Vm):Option (Bool×Vm):=
 match m.bw.getLast? with
 | none=>O (G,m)
 | some a=>match a.others with
  | []=>O (A,{ m with sr:=m.sr.iD a.mark,f:=a.f,pc:=a.pc,bw:=m.bw.dropLast })
  | l=>match ({ m with sr:=m.sr.iD a.mark }:Vm).enter l a.args a.f a.pc (m.bw.length-1) with
   | none=>V
   | some m=>O (A,m)
def uR(dK:List Pd)(d:Nat)(i:In)(m:Vm):Out (Bool×Vm):=
 let Gn (x:Out (Bool×Sr)):Out (Bool×Vm):=Out.bind x fun p=>O (.ok (p.1,{ m with sr:=p.2 }));let s0:=i.s.getD 0 0
 if i.word=tT then O (.ok (A,{ m.set s0 (.term (.var m.n)) with n:=m.n+1 }))
 else if i.word=[112,117,116] then O (.ok (A,m.set s0 (match i.const with | some t=>.term t | none=>.nil)))
 else if i.word=[99,111,110,115,116] then Ir (m.at i 0) fun t=>Gn (lz d t (i.const.getD default) m.sr)
 else if i.word=[115,97,109,101] then Ir (m.at i 0) fun t=>Ir (m.at i 1) fun u=>Gn (lz d t u m.sr)
 else if i.word=[109,97,107,101] then Ir (m.iK i.s.tail) fun l=>O (.ok (A,m.set s0 (.term (.comp i.name l))))
 else if i.word=[115,112,108,105,116] then Ir (m.at i 0) fun t=>match fG m.sr.tr d t with
  | none=>V
  | some (.var v)=>let m1:=i.s.tail.zipIdx.foldl (fun m p=>m.set p.1 (.term (.var (m.n+p.2)))) m;O (.ok (A,{ m1 with n:=m.n+i.s.tail.length,sr:=m.sr.bind v (.comp i.name ((List.range' m.n i.s.tail.length).map .var)) }))
  | some (.comp name args)=>if name=i.name/\args.length=i.s.length-1 then O (.ok (A,(i.s.tail.zip args).foldl (fun m p=>m.set p.1 (.term p.2)) m)) else O (.ok (G,m))
  | some _=>O (.ok (G,m))
 else if i.word=ni then Ir (m.iK i.s) fun l=>Gn (xx d i.name l m.sr)
 else if i.word=uQ then O (.ok (A,m.set s0 (.level (match m.fs[m.f]? with | some x=>x.entry | none=>0))))
 else if i.word=qH then O (.ok (A,m.set s0 (.level m.bw.length)))
 else if i.word=kR then match m.slot s0 with
  | .level n=>O (.ok (A,{ m with bw:=m.bw.take (min n m.bw.length) }))
  | _=>O (.error (.fault 5))
 else if i.word=kf then O (.ok (A,{ m with bw:=m.bw++[⟨m.sr.tr.length,m.f,s0,[],[]⟩] }))
 else if i.word=jL then O (.ok (A,{ m with pc:=s0 }))
 else if i.word=Af then match dK.find? fun p=>p.name == i.name && p.arity == i.s.length with
  | none=>O (.error (.fault 10))
  | some p=>match p.clauses with
   | []=>O (.ok (G,m))
   | l=>match m.enter l (i.s.map m.slot) m.f m.pc m.bw.length with
    | none=>V
    | some m=>O (.ok (A,m))
 else if i.word=[114,101,116] then match m.fs[m.f]? with
  | none=>V
  | some x=>match x.back with
   | none=>O (.error (.fault 5))
   | some b=>O (.ok (A,{ m with f:=b,pc:=x.pc }))
 else O (.ok (A,m))
def yJ(dK:List Pd)(d:Nat):Nat->Vm->Out (Bool×Vm)
 | 0,_=>V
 | f+1,m=>
  if m.sr.fuel=0 then O (.error .Du)
  else match m.fs[m.f]? with
   | none=>V
   | some x=>match x.code.ins[m.pc]? with
    | none=>O (.error (.fault 5))
    | some i=>
     let m:={ m with sr:=m.sr.dec,pc:=m.pc+1 }
     if i.word=[100,111,110,101] then(if x.ask then O (.ok (A,m)) else O (.error (.fault 5)))
     else Out.bind (uR dK d i m) fun p=>
      if p.1 then yJ dK d f p.2
      else match p.2.back with
       | none=>V
       | some (G,m)=>O (.ok (G,m))
       | some (A,m)=>yJ dK d f m
def ML(dK:List Pd)(d f:Nat)(m:Vm):Out (Bool×Vm):=
 if 0<m.pc then match m.back with
  | none=>V
  | some (G,m)=>O (.ok (G,m))
  | some (A,m)=>yJ dK d f m
 else yJ dK d f m
structure Qv where
 err:Nat
 vm:Vm
def Qv.new(c:Co):Qv:=⟨0,0,⟨[],0⟩,[⟨c,a0m c.slots .nil,0,V,0,A⟩],0,0,[]⟩
structure En where
 St:Type
 sr:St->Sr
 nv:St->Nat
 fu:St->Nat->St
 nx:Nat->Nat->St->Out (Bool×St)
 told:St->Except jB (List Tm)
def jB.no:jB->Nat
 | .fault e=>e
 | .Du=>11
abbrev Qs(E:En):=Option Nat×E.St
def DB(E:En)(names:List Bs)(d f:Nat)(q:Qs E):Option ((Bs×Nat)×Qs E):=
 match q.1 with
 | some e=>O (([],e),q)
 | none=>match E.nx d f (E.fu q.2 1000000) with
  | none=>V
  | some (.error t)=>O (([],t.no),(O t.no,q.2))
  | some (.ok (G,k))=>O (([],6),(O 6,k))
  | some (.ok (A,k))=>match E.told k with
   | .error t=>O (([],t.no),(O t.no,k))
   | .ok l=>match MI (E.sr k).tr d names l ⟨(E.sr k).fuel,[],[]⟩with
    | none=>V
    | some V=>O (([],11),(O 11,k))
    | some (O s)=>O ((if s.out=[] then [116,114,117,101] else s.out,0),(V,E.fu k s.fuel))
def Gq(E:En)(names:List Bs)(d f:Nat):Nat->Qs E->Option (List (Bs×Nat)×Qs E)
 | 0,q=>O ([],q)
 | n+1,q=>match DB E names d f q with
  | none=>V
  | some (a,q)=>match Gq E names d f n q with
   | none=>V
   | some (l,q)=>O (a::l,q)
def WE(base:List Cl)(nv:Nat):En where
 St:=Wk
 sr k:=k.sr
 nv k:=k.n
 fu k f:={ k with sr:={ k.sr with fuel:=f } }
 nx d f k:=kF base d f A k
 told _:=.ok ((List.range nv).map .var)
def EW:Bs:=[112,117,116]
def DC:Bs:=[99,111,110,115,116]
def EX:Bs:=[115,97,109,101]
def Is:Bs:=[109,97,107,101]
def It:Bs:=[115,112,108,105,116]
def MM:Bs:=[114,101,116]
def MN:Bs:=[100,111,110,101]
def SF:Tm->Bool
 | .atom _=>A
 | .int _=>A
 | _=>G
structure tV(n:Nat)(i:In):Prop where
 kn:i.word∈[tT,EW,DC,EX,Is,It,ni,uQ,qH,kR,kf,jL,Af,MM,MN]
 sl:i.word≠kf->i.word≠jL->∀ k∈i.s,k<n
 one:i.word=tT\/i.word=EW\/i.word=DC\/i.word=uQ\/i.word=qH\/i.word=kR\/i.word=kf\/i.word=jL->i.s.length=1
 same:i.word=EX->i.s.length=2
 two:i.word=Is\/i.word=It->2<=i.s.length
 test:i.word=ni->jG i.name=i.s.length
 con:i.word=EW\/i.word=DC->∃ t,i.const=O t/\er t/\SF t=A
 SG:i.name.length<=20
 qg:i.s.length<=60
 small:∀ k∈i.s,k<100000
structure yL(c:Co):Prop where
 ins:∀ i∈c.ins,tV c.slots i
 sl:c.slots<=64
 len:c.ins.length<=100000
structure al8(p:Pd):Prop where
 cls:∀ c∈p.clauses,yL c
 len:p.clauses.length<=100000
def Ah:Sl->Prop
 | .term t=>er t
 | _=>True
structure acI(n:Nat)(x:Fm):Prop where
 code:yL x.code
 sl:x.code.slots<=x.slots.length
 tm:∀ y∈x.slots,Ah y
 back:∀ b,x.back=O b->b<n
structure WG(n:Nat)(a:Ga):Prop where
 f:a.f<n
 others:∀ c∈a.others,yL c
 args:∀ y∈a.args,Ah y
 qg:a.args.length<=60
structure gA(B:Nat)(m:Vm):Prop where
 f:m.f<m.fs.length
 fr:∀ (i:Nat) (x:Fm),m.fs[i]?=O x->acI m.fs.length x
 ag:∀ (i:Nat) (a:Ga),m.bw[i]?=O a->WG m.fs.length a
 marks:∀ (i:Nat) (a:Ga),m.bw[i]?=O a->a.mark<=m.sr.tr.length
 mono:∀ (i j:Nat) (a b:Ga),i<=j->m.bw[i]?=O a->m.bw[j]?=O b->a.mark<=b.mark
 cU:m.sr.cU<=B
 nh:m.bw.length+m.sr.fuel<=B
 pc:m.pc<=200000
 vW:∀ (i:Nat) (x:Fm),m.fs[i]?=O x->x.pc<=200000
 xA:∀ (i:Nat) (a:Ga),m.bw[i]?=O a->a.pc<=200000
end P
