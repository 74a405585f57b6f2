/- A part of one proof (PureU, PureTot, PureY, PureR, PureS, PureNx, PureZ, PureAk, PureVm). -/
import Derived.Test.YtoegidfbnkaabaaGreatDoorPkLAL
set_option linter.all false
set_option maxRecDepth 100000
set_option maxHeartbeats 8000000
open Option renaming some → O, none → V
open Bool renaming true → A, false → G
open Option.some renaming injEq → a1o
open Nat renaming le_refl → a1s, le_trans → a1t, le_succ → a2G, le_add_right → a2O, sub_le → a3g
open List renaming mem_cons → a1z, replicate → a2a, suffix_refl → a3q
open Prod.mk renaming injEq → a1P
open Bool renaming false_eq_true → a1V
open Except.ok renaming injEq → a3i
namespace Go.Proofs.YtoegidfbnkaabaaGreatDoor
variable{M d f i m n pb:Nat}{ft:List Nat}
namespace P
structure aHK(f:Nat):Prop where
 tm:∀ {i:Nat} {t:Tm} {s:Sr} {p:Bool×Sr},y5 f i t s=O (.ok p)->p.2.tr=s.tr/\p.2.fuel<=s.fuel
 Fh:∀ {i:Nat} {l:List Tm} {s:Sr} {p:Bool×Sr},AF f i l s=O (.ok p)->p.2.tr=s.tr/\p.2.fuel<=s.fuel
def IP:∀ f,aHK f
 | 0=>⟨fun h=>by simp_all [y5],fun h=>by simp_all [AF]⟩
 | f+1=>by
  have ih:=IP f;refine⟨fun{i t s p} h=>?_,fun{i l s p} h=>?_⟩
  .rw[y5] at h;split at h
   .grind
   .split at h
    .grind
    .injection h with h;injection h with h;subst h;exact⟨J,a3g _ _⟩
    .obtain⟨c,b⟩:=ih.Fh h;exact⟨c,a1t b (a3g _ _)⟩
    .injection h with h;injection h with h;subst h;exact⟨J,a3g _ _⟩
  .cases l with
   | nil=>grind [AF]
   | cons a r=>
    rw[AF] at h;obtain⟨q,c,b⟩| ⟨e,c,b⟩:=Out.bind_some h
    .obtain⟨d,g⟩:=ih.tm c;split at b
     .grind
     .obtain⟨j,k⟩:=ih.Fh b;grind
    grind
theorem adt{i:Nat}:∀ {tr:Tr},look i tr=V->i ∉ tr.map (·.1)
 | [],_=>zs
 | (j,t)::r,h=>by
  rw[look] at h;split at h
  .grind
  .rename_i a;simp only[List.map_cons,a1z,not_or];exact⟨a,adt h⟩
theorem IQ{tr:Tr}:∀ {f:Nat} {t:Tm} {i:Nat},fF tr f t=O (.var i)->look i tr=V
 | f,.atom a,i,h=>by simp_all [fF]
 | f,.int a,i,h=>by simp_all [fF]
 | f,.comp a l,i,h=>by simp_all [fF]
 | 0,.var j,i,h=>by
  grind [look,fF]
 | f+1,.var j,i,h=>by
  cases b:look j tr with
  | none=>simp_all [fF]
  | some t=>simp [fF,b] at h;exact IQ h
def BE:Tm->Bool
 | .comp _ _=>A
 | _=>G
def isVar:Tm->Bool
 | .var _=>A
 | _=>G
def Sr.cV(s:Sr):Nat:=s.tr.length+s.fuel
def aHL{t:Tm}{s:Sr}{p:Bool×Sr}(h:tX f i t s=O (.ok p)):p.2.cV<=s.cV+1/\p.2.fuel<=s.fuel:=by
 unfold tX at h;obtain⟨q,a,b⟩| ⟨e,a,b⟩:=Out.bind_some h
 .obtain⟨c,d⟩:=(IP f).tm a;grind [Sr.cV,Sr.bind,List.length_cons]
 grind
structure aHM(f:Nat):Prop where
 tm:∀ {a b:Tm} {s:Sr} {p:Bool×Sr},lS f a b s=O (.ok p)->p.2.cV<=s.cV/\p.2.fuel<=s.fuel
 Fh:∀ {a b:List Tm} {s:Sr} {p:Bool×Sr},nL f a b s=O (.ok p)->p.2.cV<=s.cV/\p.2.fuel<=s.fuel
def Fi:∀ f,aHM f
 | 0=>⟨fun h=>by simp_all [lS],fun h=>by simp_all [nL]⟩
 | f+1=>by
  have ih:=Fi f;have j:∀ {i:Nat} {t:Tm} {s:Sr} {p:Bool×Sr},s.fuel≠0->tX f i t s.dec=O (.ok p)->p.2.cV<=s.cV/\p.2.fuel<=s.fuel:=fun{i t s p} g h=>by
   obtain⟨d,c⟩:=aHL h;grind [Sr.cV,Sr.dec]
  have hdec:∀ {s:Sr},s.dec.cV<=s.cV/\s.dec.fuel<=s.fuel:=fun{s}=>by simp_all [Sr.cV,Sr.dec]
  refine⟨fun{a b s p} h=>?_,fun{a b s p} h=>?_⟩
  .rw[lS] at h;split at h
   .grind
   .rename_i g;split at h
    .grind
    .grind
    .grind
    .split at h
     .obtain⟨d,c⟩:=ih.Fh h;grind
     grind
    .grind
    grind
  .cases a with
   | nil=>rw[nL] at h<;>grind
   | cons a l=>
    cases b with
    | nil=>rw[nL] at h<;>grind
    | cons b r=>
     rw[nL] at h;obtain⟨q,d,c⟩| ⟨e,d,c⟩:=Out.bind_some h
     .obtain⟨k,m⟩:=ih.tm d;split at c
      .obtain⟨n,o⟩:=ih.Fh c;omega
      grind
     grind
structure aHN(f:Nat):Prop where
 tm:∀ {a b:Tm} {s:Sr} {p:Bool×Sr},CK f a b s=O (.ok p)->p.2.tr=s.tr/\p.2.fuel<=s.fuel
 Fh:∀ {a b:List Tm} {s:Sr} {p:Bool×Sr},BD f a b s=O (.ok p)->p.2.tr=s.tr/\p.2.fuel<=s.fuel
def Ty:∀ f,aHN f
 | 0=>⟨fun h=>by simp_all [CK],fun h=>by simp_all [BD]⟩
 | f+1=>by
  have ih:=Ty f;have hdec:∀ {s:Sr},s.dec.tr=s.tr/\s.dec.fuel<=s.fuel:=fun{s}=>⟨J,a3g _ _⟩;refine⟨fun{a b s p} h=>?_,fun{a b s p} h=>?_⟩
  .rw[CK] at h;split at h
   .grind
   .split at h
    .split at h
     .obtain⟨d,c⟩:=ih.Fh h;grind
     grind
    .grind
    grind
  .cases a with
   | nil=>rw[BD] at h<;>grind
   | cons a l=>
    cases b with
    | nil=>rw[BD] at h<;>grind
    | cons b r=>
     rw[BD] at h;obtain⟨q,d,c⟩| ⟨e,d,c⟩:=Out.bind_some h
     .obtain⟨g,i⟩:=ih.tm d;split at c
      .obtain⟨j,k⟩:=ih.Fh c;grind
      grind
     grind
def KH(z:Int):Prop:=-9223372036854775808<=z/\z<=9223372036854775807
theorem wrap64_in(z:Int):KH (wrap64 z):=by grind [KH,wrap64]
theorem aHO{a b:Int}(c:KH a):KH (a.tmod b):=by
 unfold KH at *;have d:(a.tmod b).natAbs<=a.natAbs:=by
  simp_all [Int.natAbs_tmod,Nat.mod_le]
 by_cases e:0<=a
 .omega
 .have:a.tmod b<=0:=by
   have:=Int.tmod_nonneg (a:=-a) b zo;simp_all
  omega
def aHP{name:Bs}{a b z:Int}(c:KH a)(h:reckon name a b = .ok z):KH z:=by
 grind [reckon,wrap64_in,aHO]
theorem D0:∀ (f:Nat) {t:Tm} {s:Sr} {p:Int×Sr},nC s.tr->eA t->uE f t s=O (.ok p)->p.2.tr=s.tr/\p.2.fuel<=s.fuel/\KH p.1
 | 0,_,_,_,_,_,h=>by simp_all [uE]
 | f+1,t,s,p,ht,d,h=>by
  rw[uE] at h;split at h
  .grind
  .split at h
   .grind
   .rename_i n hw;injection h with h;injection h with h;subst h;exact⟨J,a3g _ _,by have:=wY ht d hw;unfold eA at this;exact this⟩
   .grind
   .rename_i name a b hw;have g:=wY ht d hw;unfold eA at g;obtain⟨-,-,m⟩:=g;obtain⟨o,r⟩:=Ns m;split at h
    .obtain⟨q,i,j⟩| ⟨e,i,j⟩:=Out.bind_some h
     .obtain⟨k,u,w⟩:=D0 f (s:=s.dec) ht o i;obtain⟨q2,l,c⟩| ⟨e,l,c⟩:=Out.bind_some j
      .obtain⟨g1,g2,g3⟩:=D0 f (s:=q.2) (by rw[k];exact ht) r l;split at c
       .grind
       .rename_i z x;injection c with c;injection c with c;subst c;exact⟨g1.trans k,a1t g2 (a1t u (a3g _ _)),aHP w x⟩
      grind
     grind
    grind
   grind
structure aHS(f:Nat):Prop where
 tm:∀ {a b:Tm} {s:Sr} {p:Bool×Sr},lS f a b s=O (.ok p)->s.tr <:+ p.2.tr
 Fh:∀ {a b:List Tm} {s:Sr} {p:Bool×Sr},nL f a b s=O (.ok p)->s.tr <:+ p.2.tr
theorem adu{t:Tm}{s:Sr}{p:Bool×Sr}(h:tX f i t s=O (.ok p)):s.tr <:+ p.2.tr:=by
 unfold tX at h;obtain⟨q,b,a⟩| ⟨e,b,a⟩:=Out.bind_some h
 .have c:=((IP f).tm b).1;split at a
  .grind
  .injection a with a;injection a with a;subst a;rw[<- c];exact List.suffix_cons _ _
 grind
def Nv:∀ f,aHS f
 | 0=>⟨fun h=>by simp_all [lS],fun h=>by simp_all [nL]⟩
 | f+1=>by
  have ih:=Nv f;refine⟨fun{a b s p} h=>?_,fun{a b s p} h=>?_⟩
  .have i:s.dec.tr=s.tr:=rfl;rw[lS] at h;split at h
   .grind
   .split at h
    .grind [a3q,adu]
    .grind [adu]
    .grind [adu]
    .split at h
     .exact(show s.dec.tr <:+ p.2.tr from ih.Fh h)
     grind
    .grind
    grind
  .cases a with
   | nil=>grind [nL,a3q]
   | cons a l=>
    cases b with
    | nil=>grind [nL,a3q]
    | cons b r=>
     rw[nL] at h;obtain⟨q,d,c⟩| ⟨e,d,c⟩:=Out.bind_some h
     .have g:=ih.tm d;split at c
      .exact g.trans (ih.Fh c)
      grind
     grind
inductive Fj(tr:Tr)(i:Nat):Tm->Prop
 | here:look i tr=V->Fj tr i (.var i)
 | via {j:Nat} {t:Tm}:look j tr=O t->Fj tr i t->Fj tr i (.var j)
 | arg {n:Bs} {l:List Tm} {a:Tm}:a∈l->Fj tr i a->Fj tr i (.comp n l)
def y7:Tr->Prop
 | []=>True
 | (i,t)::r=>y7 r/\look i r=V/\¬ Fj r i t
def y7.drop:∀ (k:Nat) {tr:Tr},y7 tr->y7 (tr.drop k)
 | 0,_,h=>h
 | _+1,[],h=>h
 | k+1,(_,_)::_,h=>y7.drop k h.1
def amL{tr:Tr}{i:Nat}:∀ {f:Nat} {t u:Tm},fF tr f t=O u->(Fj tr i t↔Fj tr i u)
 | f,.atom s,u,h=>by simp_all [fF]
 | f,.int s,u,h=>by simp_all [fF]
 | f,.comp s l,u,h=>by simp_all [fF]
 | 0,.var j,u,h=>by
  grind [fF]
 | f+1,.var j,u,h=>by
  rw[fF] at h;split at h
  .grind
  .rename_i t b;rw[<- amL h];constructor
   .intro a;cases a with
    | here c=>grind
    | via d e=>grind
   .exact fun a=>.via b a
def amM:∀ f,(∀ i t s s',y5 f i t s=O (.ok (G,s'))->look i s.tr=V->¬ Fj s.tr i t)/\(∀ i l s s',AF f i l s=O (.ok (G,s'))->look i s.tr=V->∀ t∈l,¬ Fj s.tr i t)
 | 0=>⟨fun _ _ _ _ h=>(by cases h),fun _ _ _ _ h=>(by cases h)⟩
 | f+1=>by
  obtain⟨m,d⟩:=amM f;constructor
  .intro i t s s' h hi;rw[y5] at h;split at h
   .grind
   .cases hw:fF s.tr f t with
    | none=>grind
    | some u=>
     rw[hw] at h;rw[amL hw];cases u with
     | atom a=>intro c;cases c
     | int a=>intro c;cases c
     | var j=>
      simp only[a1o,a3i,a1P,decide_eq_false_iff_not] at h;intro c;cases c with
      | here o=>omega
      | via q c=>grind [IQ]
     | comp n l=>
      intro c;cases c with
      | arg g c=>exact d i l s.dec s' h hi _ g c
  .intro i l s s' h hi;cases l with
   | nil=>grind
   | cons a l=>
    rw[AF] at h;obtain⟨p,g1,g2⟩| ⟨e,g1,g2⟩:=Out.bind_some h
    .split at g2
     .grind
     .rename_i r;obtain⟨b,s1⟩:=p;have k:b=false:=zg;subst k;have ht:s1.tr=s.tr:=((IP f).tm g1).1;grind
    grind
theorem adv{t:Tm}{s:Sr}{p:Bool×Sr}(ht:y7 s.tr)(hi:look i s.tr=V)(h:tX f i t s=O (.ok p)):y7 p.2.tr:=by
 unfold tX at h;obtain⟨q,a,c⟩| ⟨e,a,c⟩:=Out.bind_some h
 .obtain⟨b,s1⟩:=q;have d:s1.tr=s.tr:=((IP f).tm a).1;cases b with
  | true=>
   grind
  | false=>
   simp only[a1V,if_false,a1o,a3i] at c;subst c;show y7 ((i,t)::s1.tr);rw[d];exact⟨ht,hi,(amM f).1 _ _ _ _ a hi⟩
 grind
def amN:∀ f,(∀ a b s p,y7 s.tr->lS f a b s=O (.ok p)->y7 p.2.tr)/\(∀ l r s p,y7 s.tr->nL f l r s=O (.ok p)->y7 p.2.tr)
 | 0=>⟨fun _ _ _ _ _ h=>(by cases h),fun _ _ _ _ _ h=>(by cases h)⟩
 | f+1=>by
  obtain⟨d,g⟩:=amN f;constructor
  .intro a b s p ht h;rw[lS] at h;split at h
   .grind
   .cases hw:fF s.tr f a with
    | none=>grind
    | some u=>
     cases hv:fF s.tr f b with
     | none=>grind
     | some v=>
      rw[hw,hv] at h;have c:y7 s.dec.tr:=ht;cases u with
      | var i=>
       have hi:look i s.dec.tr=none:=IQ hw;grind [adv]
      | comp n l=>
       cases v with
       | var j=>exact adv c (IQ hv) h
       | comp m r=>
        grind
       | _=>injection h with h;injection h with h;subst h;exact ht
      | _=>
       cases v with
       | var j=>exact adv c (IQ hv) h
       | _=>injection h with h;injection h with h;subst h;exact ht
  .intro l r s p ht h;cases l with
   | nil=>grind [nL]
   | cons a l=>
    cases r with
    | nil=>grind [nL]
    | cons b r=>
     rw[nL] at h;obtain⟨q,g1,g2⟩| ⟨e,g1,g2⟩:=Out.bind_some h<;>grind
def Dfd{α:Type}(F:Nat->Option α):Prop:=∃ f r,F f=O r
def Mon{α:Type}(F:Nat->Option α):Prop:=∀ f,Le (F f) (F (f+1))
def aHU(a b:Tm)(s:Sr):Mon (fun f=>lS f a b s):=fun f=>(Tx f).1 a b s
def aHV(n:Bs)(a:List Tm)(s:Sr):Mon (fun f=>xW f n a s):=fun f=>aHJ
structure Goal where
 Fk:Option Bd
 vars:List Nat
 cut:Nat
structure oI where
 mark:Nat
 todo:List Goal
 clauses:List Cl
 args:List Tm
structure Wk where
 n:Nat
 sr:Sr
 todo:List Goal
 bw:List oI
def vy(f:Nat)(vars:List Nat):List Tm->List Ex->Sr->Out (Bool×Sr)
 | a::l,x::r,s=>Out.bind (lS f a (made vars x) s) fun p=>if p.1 then vy f vars l r p.2 else O (.ok (G,p.2))
 | _,_,s=>O (.ok (A,s))
def wZ(bw:List oI)(m:Nat):List Cl->List oI
 | []=>bw.take m
 | c::r=>match bw[m]? with
  | some a=>bw.take m++[{ a with clauses:=c::r }]
  | none=>bw.take m
def xd(f:Nat)(args:List Tm)(l:List Cl)(todo:List Goal)(m:Nat)(k:Wk):Out (Bool×Wk):=
 if k.sr.fuel=0 then O (.error .DZ)
 else match l with
  | []=>V
  | c::rest=>
   Out.bind (vy f (List.range' k.n c.vars.length) args c.args k.sr.dec) fun p=>
    if p.1 then O (.ok (A,⟨k.n+c.vars.length,p.2,⟨O c.body,List.range' k.n c.vars.length,m⟩::todo,wZ k.bw m rest⟩))
    else O (.ok (G,⟨k.n+c.vars.length,p.2,k.todo,wZ k.bw m rest⟩))
def KI(base:List Cl)(f:Nat)(name:Bs)(ex:List Ex)(vars:List Nat)(k:Wk):Out (Bool×Wk):=
 if jw name=ex.length then Out.bind (xW f name (nY vars ex) k.sr) fun p=>O (.ok (p.1,{ k with sr:=p.2 }))
 else match base.filter fun c=>c.name == name && c.args.length == ex.length with
  | []=>O (.error (.fault 10))
  | l=>xd f (nY vars ex) l k.todo k.bw.length { k with bw:=k.bw++[⟨k.sr.tr.length,k.todo,l,nY vars ex⟩] }
def Wk.Xz(k:Wk)(todo:List Goal):Wk:={ k with bw:=k.bw++[⟨k.sr.tr.length,todo,[],[]⟩] }
def D1(base:List Cl)(f:Nat)(g:Goal)(k:Wk):Out (Bool×Wk):=
 if k.sr.fuel=0 then O (.error .DZ)
 else
  let k:={ k with sr:=k.sr.dec }
  match g.Fk with
  | none=>O (.ok (A,{ k with bw:=k.bw.take g.cut }))
  | some (.mk kind name args parts)=>
   if kind=33 then O (.ok (A,{ k with bw:=k.bw.take g.cut }))
   else if kind=44 then O (.ok (A,{ k with todo:=(parts.map fun p=>⟨O p,g.vars,g.cut⟩)++k.todo }))
   else if kind=59 then match parts with
    | [a,b]=>O (.ok (A,{ k.Xz (⟨O b,g.vars,g.cut⟩::k.todo) with todo:=⟨O a,g.vars,g.cut⟩::k.todo }))
    | _=>V
   else if kind=63 then match parts with
    | [a,b,c]=>O (.ok (A,{ k.Xz (⟨O c,g.vars,g.cut⟩::k.todo) with todo:=⟨O a,g.vars,k.bw.length⟩::⟨V,[],k.bw.length⟩::⟨O b,g.vars,g.cut⟩::k.todo }))
    | _=>V
   else if kind=126 then match parts with
    | [a]=>O (.ok (A,{ k.Xz k.todo with todo:=[⟨O a,g.vars,k.bw.length⟩,⟨V,[],k.bw.length⟩,⟨O Ac,[],0⟩] }))
    | _=>V
   else KI base f name args g.vars k
def kq(base:List Cl)(d:Nat):Nat->Bool->Wk->Out (Bool×Wk)
 | 0,_,_=>V
 | f+1,A,k=>match k.todo with
  | []=>O (.ok (A,{ k with todo:=[⟨O Ac,[],0⟩] }))
  | g::r=>Out.bind (D1 base d g { k with todo:=r }) fun p=>kq base d f p.1 p.2
 | f+1,G,k=>match k.bw.getLast? with
  | none=>O (.ok (G,k))
  | some a=>match a.clauses with
   | []=>kq base d f A { k with sr:=k.sr.iE a.mark,todo:=a.todo,bw:=k.bw.dropLast }
   | c::l=>Out.bind (xd d a.args (c::l) a.todo (k.bw.length-1) { k with sr:=k.sr.iE a.mark }) fun p=>kq base d f p.1 p.2
def Nw(tr:Tr)(f:Nat):List Bs->List Tm->Ws->Option (Option Ws)
 | nm::l,t::r,s=>
  if nm.head?=O 95 then Nw tr f l r s
  else Wb (lB tr f t 0 ((if s.out=[] then s else s.add [44,32]).add (nm++[32,61,32]))) fun s=>Nw tr f l r s
 | _,_,s=>O (O s)
structure Qw where
 err:Nat
 wk:Wk
def Qw.new(b:Bd)(nv:Nat):Qw:=⟨0,nv,⟨[],0⟩,[⟨O b,List.range nv,0⟩],[]⟩
structure y8(M:Nat)(c:Cl):Prop where
 body:eX c.vars.length M c.body
 args:fi c.vars.length c.args
 qL:c.args.length<=4
 sz:fG c.args<=M
 vars:c.vars.length<=M
def nM(M n:Nat):Nat->List Goal->Prop
 | _,[]=>True
 | h,g::r=>g.cut<=h/\(∀ i∈g.vars,i<n)/\(∀ b,g.Fk=O b->eX g.vars.length M b)/\nM M n g.cut r
theorem nM.up{M n:Nat}:∀ {l:List Goal} {h a:Nat},nM M n h l->h<=a->nM M n a l
 | [],_,_,_,_=>trivial
 | _::_,_,_,b,c=>⟨a1t b.1 c,b.2⟩
def nM.more{M n b:Nat}(c:n<=b):∀ {l:List Goal} {h:Nat},nM M n h l->nM M b h l
 | [],_,_=>trivial
 | _::_,_,a=>⟨a.1,fun i hi=>Nat.lt_of_lt_of_le (a.2.1 i hi) c,a.2.2.1,a.2.2.2.more c⟩
structure KJ(M n i:Nat)(a:oI):Prop where
 todo:nM M n i a.todo
 args:jt a.args
 qL:a.args.length<=4
 cls:∀ c∈a.clauses,y8 M c/\c.args.length=a.args.length
structure aHX(M:Nat)(k:Wk):Prop where
 todo:nM M k.n k.bw.length k.todo
 ag:∀ (i:Nat) (a:oI),k.bw[i]?=O a->KJ M k.n i a
 marks:∀ (i:Nat) (a:oI),k.bw[i]?=O a->a.mark<=k.sr.tr.length
 mono:∀ (i j:Nat) (a b:oI),i<=j->k.bw[i]?=O a->k.bw[j]?=O b->a.mark<=b.mark
section
def amP{f:Nat}{vs:List Nat}:∀ {l:List Tm} {r:List Ex} {s:Sr} {p:Bool×Sr},vy f vs l r s=O (.ok p)->s.tr <:+ p.2.tr/\p.2.fuel<=s.fuel/\p.2.cV<=s.cV
 | [],r,s,p,h=>by rw[vy] at h<;>grind
 | a::l,[],s,p,h=>by rw[vy] at h<;>grind
 | a::l,x::r,s,p,h=>by
  rw[vy] at h;obtain⟨q,b,c⟩| ⟨e,b,c⟩:=Out.bind_some h
  .obtain⟨d,g⟩:=(Fi f).tm b;have i:=(Nv f).tm b;split at c
   .obtain⟨g1,g2,g3⟩:=amP c;grind
   grind
  grind
def aHY{s:Sr}{t:Tr}(h:t <:+ s.tr)(a:n=t.length):(s.iE n).tr=t:=by
 obtain⟨u,h⟩:=h;subst a;unfold Sr.iE;simp only;rw[<- h];simp
def amQ{name:Bs}{args:List Tm}{s:Sr}{p:Bool×Sr}(ht:nC s.tr)(l:∀ t∈args,eA t)(i:jw name=args.length)(h:xW f name args s=O (.ok p)):s.tr <:+ p.2.tr/\p.2.fuel<=s.fuel/\p.2.cV<=s.cV:=by
 have k:∀ j,j<args.length->eA (args.getD j default):=fun j m=>by
  grind
 have cV:∀ {s':Sr},s'.tr=s.tr->s'.fuel<=s.fuel->s'.cV<=s.cV:=fun b a=>by simp_all [Sr.cV]
 unfold xW at h;split at h
 .grind
 split at h
 .exact⟨(Nv f).tm h,((Fi f).tm h).2,((Fi f).tm h).1⟩
 split at h
 .obtain⟨q,b,a⟩| ⟨e,b,a⟩:=Out.bind_some h
  .injection a with a;injection a with a;subst a;have d:=(Nv f).tm b;have c:=((Fi f).tm b).2;have g:=aHY d J;exact⟨zg,c,cV g c⟩
  grind
 split at h
 .obtain⟨b,a⟩:=(Ty f).tm h;grind
 split at h
 .obtain⟨q,b,a⟩| ⟨e,b,a⟩:=Out.bind_some h
  .obtain⟨g1,g2,-⟩:=D0 f ht (k 1 (by have n:(2:Int)=args.length:=(by subst_vars;exact i);omega)) b;have d:=(Nv f).tm a;obtain⟨c,g⟩:=(Fi f).tm a;grind
  grind
 split at h
 .grind
 split at h
 .grind
 .obtain⟨q,b,a⟩| ⟨e,b,a⟩:=Out.bind_some h
  .obtain⟨q2,d,c⟩| ⟨e,d,c⟩:=Out.bind_some a
   .grind [jw,D0,a3q]
   grind
  grind
def XA{bw:List oI}{rest:List Cl}{a:oI}(h:(wZ bw m rest)[i]?=O a):∃ b,bw[i]?=O b/\i<=m/\a.mark=b.mark/\a.todo=b.todo/\a.args=b.args/\(a.clauses=b.clauses\/(i=m/\a.clauses=rest))/\(i=m->rest≠[]):=by
 cases rest with
 | nil=>
  grind [wZ]
 | cons c r=>
  grind [wZ]
def aHZ{bw:List oI}{rest:List Cl}(hm:m<=bw.length)(a:rest≠[]->m<bw.length):(wZ bw m rest).length=if rest=[] then m else m+1:=by
 cases rest with
 | nil=>rw[wZ,List.length_take,zip rfl];omega
 | cons c r=>
  simp_all [wZ,List.getElem?_eq_getElem,bM,List.length_append,List.length_take,List.length_cons,List.length_nil]
structure lW(M B:Nat)(k:Wk):Prop extends aHX M k where
 cV:k.sr.cV<=B
 nN:k.bw.length+k.sr.fuel<=B
variable{B:Nat}
def KJ.more{M n b i:Nat}{a:oI}(h:KJ M n i a)(c:n<=b):KJ M b i a:=⟨h.todo.more c,h.args,h.qL,h.cls⟩
def amR{args:List Tm}{l:List Cl}{td:List Goal}{k k':Wk}{b:Bool}(hk:lW M B k)(hm:m<=k.bw.length)(w:1<l.length->m<k.bw.length)(Q:m<k.bw.length\/True)(E:nM M k.n m td)
  (F:∀ c∈l,y8 M c) (R:∀ a,k.bw[m]?=O a->∀ c∈l,c.args.length=a.args.length) (h:xd f args l td m k=O (.ok (b,k'))):lW M B { k' with todo:=if b then k'.todo else [] }/\k.n<=k'.n/\k'.sr.fuel<k.sr.fuel:=by
 unfold xd at h;split at h
 .grind
 rename_i S;cases l with
 | nil=>grind
 | cons c rest=>
 simp only at h;obtain⟨p,y,d⟩| ⟨e,y,d⟩:=Out.bind_some h
 .obtain⟨g1,g2,g3⟩:=amP y;have gf:k.sr.dec.fuel=k.sr.fuel-1:=rfl;have gt:k.sr.dec.tr=k.sr.tr:=rfl;have gp:k.sr.dec.cV<=k.sr.cV:=by simp_all [Sr.cV]
  have hlen:=aHZ (rest:=rest) hm (fun hr=>w (by cases rest with | nil=>grind | cons _ _=>simp));have H:(wZ k.bw m rest).length<=k.bw.length/\m<=(wZ k.bw m rest).length:=by
   rw[hlen];split
   .omega
   .rename_i hr;have:=w (by cases rest with | nil=>grind | cons _ _=>simp);omega
  have z:∀ (i:Nat) (a:oI),(wZ k.bw m rest)[i]?=O a->KJ M (k.n+c.vars.length) i a:=fun i a hi=>by
   obtain⟨b,q,T,o,r,s,t,-⟩:=XA hi;have g:=(hk.ag i b q).more (a2O k.n c.vars.length);refine⟨by rw[r];exact g.todo,by rw[s];exact g.args,by rw[s];exact g.qL,fun x hx=>?_⟩;rcases t with t | ⟨rfl,t⟩
   .rw[s];exact g.cls x zg
   grind
  have C:∀ (i:Nat) (a:oI),(wZ k.bw m rest)[i]?=O a->a.mark<=p.2.tr.length:=fun i a hi=>by
   obtain⟨b,q,-,o,-⟩:=XA hi;rw[o];have:=hk.marks i b q;grind
  have D:∀ (i j:Nat) (a b:oI),i<=j->(wZ k.bw m rest)[i]?=O a->(wZ k.bw m rest)[j]?=O b->a.mark<=b.mark:=fun i j a b I hi K=>by
   obtain⟨a',L,-,o,-⟩:=XA hi;obtain⟨N,g,-,r,-⟩:=XA K;rw[o,r];exact hk.mono i j a' N I L g
  have P:=F c (List.mem_cons_self ..);have U:=hk.cV;have W:=hk.nN;split at d
  .injection d with d;injection d with d;injection d with d u;subst d u;refine⟨⟨⟨⟨H.2,fun i hi=>?_,fun x hx=>?_,E.more (a2O _ _)⟩,z,C,D⟩,zg,zg⟩,a2O _ _,zg⟩
   .grind
   .injection hx with hx;subst hx;rw[List.length_range'];exact P.body
  .injection d with d;injection d with d;injection d with d u;subst d u;exact⟨⟨⟨trivial,z,C,D⟩,zg,zg⟩,a2O _ _,zg⟩
 grind
theorem adw:∀ {l:List Tm} {t:Tm},jt l->t∈l->eA t
 | [],_,_,h=>zg
 | a::l,t,h,ht=>by
  unfold jt at h;rcases a1z.1 ht with rfl | ht
  .grind
  .exact adw h.2 ht
def lW.more{k:Wk}(hk:lW M B k){a:oI}{s:Sr}(f:s.tr=k.sr.tr)(q:s.fuel<k.sr.fuel)(hm:a.mark=k.sr.tr.length)(r:KJ M k.n k.bw.length a){td:List Goal}(t:nM M k.n (k.bw.length+1) td) :
  lW M B { k with sr:=s,todo:=td,bw:=k.bw++[a] }:=by
 have u:(k.bw++[a]).length=k.bw.length+1:=zs;have d:∀ (i:Nat) (b:oI),(k.bw++[a])[i]?=O b->(i<k.bw.length/\k.bw[i]?=O b)\/(i=k.bw.length/\b=a):=fun i b h=>by
  grind
 have w:=hk.cV;have x:=hk.nN;refine⟨⟨zg,fun i b h=>?_,fun i b h=>?_,fun i j b c g l m=>?_⟩,?_,?_⟩
 .rcases d i b h with⟨_,h⟩| ⟨rfl,rfl⟩
  .exact hk.ag i b h
  omega
 .show b.mark<=s.tr.length;rw[f];rcases d i b h with⟨_,h⟩| ⟨rfl,rfl⟩
  .exact hk.marks i b h
  omega
 .rcases d i b l with⟨_,e⟩| ⟨y,z⟩
  .rcases d j c m with⟨_,o⟩| ⟨C,p⟩
   .exact hk.mono i j b c g e o
   .rw[p,hm];exact hk.marks i b e
  grind
 .grind [Sr.cV]
 grind
def lW.cut{k:Wk}(hk:lW M B k){s:Sr}(e:k.sr.tr <:+ s.tr)(o:s.fuel<=k.sr.fuel)(p:s.cV<=k.sr.cV+1)(q:s.fuel<k.sr.fuel\/s.cV<=k.sr.cV)(d:s.cV<=B){td:List Goal}(hm:m<=k.bw.length)(r:nM M k.n m td) :
  lW M B { k with sr:=s,todo:=td,bw:=k.bw.take m }:=by
 have t:(k.bw.take m).length=m:=zg;have a:∀ (i:Nat) (b:oI),(k.bw.take m)[i]?=O b->k.bw[i]?=O b:=fun i b h=>by
  grind
 have u:=hk.nN;refine⟨⟨zg,fun i b h=>hk.ag i b (a i b h),fun i b h=>a1t (hk.marks i b (a i b h)) e.length_le,fun i j b c f g l=>hk.mono i j b c f (a i b g) (a j c l)⟩,d,?_⟩;grind
theorem nM.map{M n h:Nat}{vs:List Nat}(hv:∀ i∈vs,i<n):∀ {parts:List Bd} {r:List Goal},eY vs.length M parts->nM M n h r->nM M n h ((parts.map fun p=>⟨O p,vs,h⟩)++r)
 | [],_,_,hr=>hr
 | p::ps,r,a,hr=>by
  unfold eY at a;exact⟨a1s _,hv,fun b c=>zg,nM.map hv a.2 hr⟩
def amT{base:List Cl}{g:Goal}{r:List Goal}{k k':Wk}{b:Bool}(hk:lW M B { k with todo:=g::r })(W:nC k.sr.tr)(X:∀ c∈base,y8 M c)(h:D1 base f g { k with todo:=r }=O (.ok (b,k'))) :
  lW M B { k' with todo:=if b then k'.todo else [] }/\k.n<=k'.n/\k'.sr.fuel<k.sr.fuel:=by
 obtain⟨hcut,L,N,hr⟩:=(hk.todo:nM M k.n k.bw.length (g::r));have hcut:g.cut<=k.bw.length:=hcut;have z:k.sr.cV<=B:=hk.cV;have Ny:k.bw.length+k.sr.fuel<=B:=hk.nN;unfold D1 at h;split at h
 .grind
 rename_i E;have E:¬ k.sr.fuel=0:=E;have gf:k.sr.dec.fuel=k.sr.fuel-1:=rfl;have gt:k.sr.dec.tr=k.sr.tr:=rfl;have gp:k.sr.dec.cV<=k.sr.cV:=by simp_all [Sr.cV]
 have P:lW M B { k with todo:=[],sr:=k.sr.dec }:=⟨⟨trivial,hk.ag,hk.marks,hk.mono⟩,a1t gp z,zg⟩;have Q:∀ td,nM M k.n g.cut td->lW M B { k with sr:=k.sr.dec,todo:=td,bw:=k.bw.take g.cut }:=fun td d=>
  P.cut (a3q _) (a1s _) (a2G _) (.inr (a1s _)) (a1t gp z) hcut d
 have s:k.sr.dec.fuel<k.sr.fuel:=zo;have w:∀ (a:oI) (td:List Goal),a.mark=k.sr.tr.length->KJ M k.n k.bw.length a->nM M k.n (k.bw.length+1) td->lW M B { k with sr:=k.sr.dec,todo:=td,bw:=k.bw++[a] }:=fun a td hm R d=>
  lW.more (k:={ k with todo:=g::r }) hk gt s hm R d
 have x:nM M k.n k.bw.length r:=hr.up hcut;have y:∀ {td:List Goal},nM M k.n g.cut td->nM M k.n k.bw.length td:=fun h=>h.up hcut;cases F:g.Fk with
 | none=>
  grind
 | some bd=>
  obtain⟨kind,name,args,parts⟩:=bd;rw[F] at h;simp only at h;have eZ:=N _ F;unfold eX at eZ;obtain⟨mT,nT,⟨PU,PV,PW⟩,GV,S,jr,j3,j⟩:=eZ;split at h
  .grind
  split at h
  .simp only[a1o,a3i,a1P] at h;obtain⟨rfl,rfl⟩:=h;refine⟨⟨⟨?_,hk.ag,hk.marks,hk.mono⟩,a1t gp z,zg⟩,a1s _,s⟩;grind [nM.map]
  have one:∀ {p:Bd},eX g.vars.length M p->∀ {o:Nat} {td:List Goal},nM M k.n o td->nM M k.n o (⟨O p,g.vars,o⟩::td):=fun hp=>fun d=>⟨a1s _,L,fun b C=>zg,d⟩;have u:∀ {o:Nat} {td:List Goal},nM M k.n o td->nM M k.n o (⟨V,[],o⟩::td):=fun d=>⟨a1s _,(fun i hi=>zg),(fun b C=>zg),d⟩;have q:∀ {td:List Goal},nM M k.n k.bw.length td->KJ M k.n k.bw.length ⟨k.sr.tr.length,td,[],[]⟩:=fun d=>⟨d,(by simp_all [jt]),zs,(fun c T=>zg)⟩;split at h
  .split at h
   .rename_i H pb;unfold eY eY eY at j;simp only[a1o,a3i,a1P] at h;obtain⟨rfl,rfl⟩:=h;exact⟨w _ _ J (q (y (one j.2.1 hr))) ((y (one j.1 hr)).up (a2G _)),a1s _,s⟩
   grind
  split at h
  .split at h
   .rename_i H pb pc;unfold eY eY eY eY at j;simp only[a1o,a3i,a1P] at h;obtain⟨rfl,rfl⟩:=h;exact⟨w _ _ J (q (y (one j.2.2.1 hr))) ((one j.1 (u (y (one j.2.1 hr)))).up (a2G _)),a1s _,s⟩
   grind
  split at h
  .split at h
   .rename_i H;unfold eY eY at j;simp only[a1o,a3i,a1P] at h;obtain⟨rfl,rfl⟩:=h;refine⟨w _ _ J (q x) ((one j.1 (u (show nM M k.n k.bw.length [⟨O Ac,[],0⟩] from⟨Nat.zero_le _,(fun i hi=>zg),(fun b C=>by grind [adl]),trivial⟩))).up (a2G _)),a1s _,s⟩
   grind
  .unfold KI at h;have I:=KD g.vars args S;split at h
   .rename_i ht;obtain⟨p,K,m⟩| ⟨e,K,m⟩:=Out.bind_some h
    .injection m with m;injection m with m;injection m with m U;subst m U;obtain⟨D,e2,e3⟩:=amQ zg (fun t ht=>adw I.1 ht) zo K;have D:k.sr.tr <:+ p.2.tr:=D;refine⟨⟨⟨?_,hk.ag,fun i a hi=>a1t (hk.marks i a hi) D.length_le,hk.mono⟩,zg,zg⟩,a1s _,zg⟩;split
     .omega
     .trivial
    grind
   .split at h
    .grind
    .rename_i l ee;have C:=amR (k:={ k with sr:=k.sr.dec,todo:=r,bw:=k.bw++[⟨k.sr.dec.tr.length,r,base.filter (fun c=>c.name == name && c.args.length == args.length),nY g.vars args⟩] }) (M:=M) (B:=B) ?_ ?_ ?_ (.inr trivial) x ?_ ?_ h
     .grind
     .refine w _ _ J ⟨x,I.1,zg,fun c T=>?_⟩ (x.up (a2G _));grind
     .grind
     .grind
     .grind
     grind
theorem lW.iE{M:Nat}{k:Wk}(hk:lW M B { k with todo:=[] }){a:oI}(j:k.bw.getLast?=O a) :
  lW M B { k with sr:=k.sr.iE a.mark,todo:=[] }/\k.bw[k.bw.length-1]?=O a/\a.mark<=k.sr.tr.length/\(k.sr.iE a.mark).fuel=k.sr.fuel:=by
 have c:k.bw[k.bw.length-1]?=O a:=zg;have g:a.mark<=k.sr.tr.length:=hk.marks _ _ c;have d:(k.sr.iE a.mark).tr.length=a.mark:=by
  grind [Sr.iE,List.length_drop]
 have e:=hk.cV;have h:=hk.nN;refine⟨⟨⟨trivial,hk.ag,fun i b f=>?_,hk.mono⟩,?_,h⟩,c,g,J⟩
 .show b.mark<=(k.sr.iE a.mark).tr.length;rw[d];have:=(List.getElem?_eq_some_iff.1 f).1;exact hk.mono i _ b a zg f c
 .show(k.sr.iE a.mark).cV<=_;have e:k.sr.tr.length+k.sr.fuel<=B:=e;unfold Sr.cV;rw[d];show a.mark+k.sr.fuel<=_;omega
def lW.back{k:Wk}(hk:lW M B { k with todo:=[] }){a:oI}(c:k.bw.getLast?=O a):lW M B { k with sr:=k.sr.iE a.mark,todo:=a.todo,bw:=k.bw.dropLast }:=by
 obtain⟨b,d,e,f⟩:=hk.iE c;have g:=b.cut (m:=k.bw.length-1) (a3q _) (a1s _) (a2G _) (.inr (a1s _)) b.cV (a3g _ _) (b.ag _ _ d).todo;simp_all [List.dropLast_eq_take]
def lW.again{k k':Wk}(hk:lW M B { k with todo:=[] }){a:oI}(o:k.bw.getLast?=O a){b:Bool}(h:xd d a.args a.clauses a.todo (k.bw.length-1) { k with sr:=k.sr.iE a.mark }=O (.ok (b,k'))) :
  lW M B { k' with todo:=if b then k'.todo else [] }/\k.n<=k'.n/\k'.sr.fuel<k.sr.fuel:=by
 obtain⟨l,m,t,u⟩:=hk.iE o;have g:=l.ag _ _ m;have i:xd d a.args a.clauses a.todo (k.bw.length-1) { k with sr:=k.sr.iE a.mark,todo:=[] }=O (.ok (b,{ k' with todo:=if b then k'.todo else [] })):=by
  unfold xd at h ⊢;simp only at h ⊢;split at h
  .grind
  .rename_i q;rw[bM q]
   revert h
   split
   .grind
   .intro h;obtain⟨p,r,s⟩| ⟨e,r,s⟩:=Out.bind_some h
    .grind [Out.eh]
    grind
 have:=amR l (a3g _ _) (fun _=>zg) (.inr trivial) g.todo (fun c j=>(g.cls c j).1) (fun b f c j=>by
  have f:k.bw[k.bw.length-1]?=O b:=f;rw[m] at f;injection f with f;subst f;exact(g.cls c j).2) i
 grind
end
section
variable{B:Nat}
structure WFu(tr:Tr)(f:Nat):Prop where
 tm:∀ t l s r,lB tr f t l s=O (O r)->r.fuel<s.fuel
 comp:∀ n a l s r,yZ tr f n a l s=O (O r)->r.fuel<=s.fuel
 args:∀ c a s r,sZ tr f c a s=O (O r)->r.fuel<=s.fuel
 list:∀ c a b s r,vw tr f c a b s=O (O r)->r.fuel<s.fuel
section
variable{tr:Tr}(ht:y7 tr){n:Nat}(ih:∀ s:Ws,s.fuel<n->∀ t l,Dfd (fun f=>lB tr f t l s))
include ih
end
theorem aH1{t:Tm}{s:Sr}{p:Bool×Sr}(hk:nC s.tr)(ht:eA t)(h:tX f i t s=O (.ok p)):nC p.2.tr:=by
 unfold tX at h;obtain⟨q,c,a⟩| ⟨e,c,a⟩:=Out.bind_some h
 .obtain⟨b,s1⟩:=q;have d:s1.tr=s.tr:=((IP f).tm c).1;cases b with
  | true=>
   grind
  | false=>
   simp only[a1V,if_false,a1o,a3i] at a;subst a;show nC ((i,t)::s1.tr);rw[d];exact⟨ht,hk⟩
 grind
def amV:eA (.var i):=by simp_all [eA]
def amW:∀ f,(∀ a b s p,nC s.tr->eA a->eA b->lS f a b s=O (.ok p)->nC p.2.tr)/\(∀ l r s p,nC s.tr->jt l->jt r->nL f l r s=O (.ok p)->nC p.2.tr)
 | 0=>⟨fun _ _ _ _ _ _ _ h=>(by cases h),fun _ _ _ _ _ _ _ h=>(by cases h)⟩
 | f+1=>by
  obtain⟨i,j⟩:=amW f;constructor
  .intro a b s p ht c d h;rw[lS] at h;split at h
   .grind
   .cases hw:fF s.tr f a with
    | none=>grind
    | some u=>
     cases hv:fF s.tr f b with
     | none=>grind
     | some v=>
      rw[hw,hv] at h;have k:nC s.dec.tr:=ht;have hu:=wY ht c hw;have m:=wY ht d hv;grind [aH1,eA]
  .intro l r s p ht g hr h;cases l with
   | nil=>grind [nL]
   | cons a l=>
    cases r with
    | nil=>grind [nL]
    | cons b r=>
     unfold jt at g hr;rw[nL] at h;obtain⟨q,g1,g2⟩| ⟨e,g1,g2⟩:=Out.bind_some h<;>grind
structure lH(s:Sr):Prop where
 Fq:y7 s.tr
 ok:nC s.tr
theorem lH.iE{s:Sr}(h:lH s)(m:Nat):lH (s.iE m):=⟨h.Fq.drop _,P.nC.amX _ h.ok⟩
where
 P.nC.amX:∀ (k:Nat) {tr:Tr},nC tr->nC (tr.drop k)
  | 0,_,h=>h
  | _+1,[],h=>h
  | k+1,(_,_)::_,h=>P.nC.amX k h.2
theorem lH.GW{a b:Tm}{s:Sr}{p:Bool×Sr}(h:lH s)(c:eA a)(d:eA b)(hr:lS f a b s=O (.ok p)):lH p.2:=⟨(amN f).1 _ _ _ _ h.Fq hr,(amW f).1 _ _ _ _ h.ok c d hr⟩
theorem lH.test{name:Bs}{args:List Tm}{s:Sr}{p:Bool×Sr}(g:lH s)(l:∀ t∈args,eA t)(m:jw name=args.length)(h:xW f name args s=O (.ok p)):lH p.2:=by
 have d:∀ j,j<args.length->eA (args.getD j default):=fun j n=>by
  grind
 have two:∀ x∈([[61],[92,61],[61,61],[105,115],[60],[62],[61,60],[62,61],[61,58,61]]:List Bs),name=x->1<args.length:=fun x hx e=>by
  subst e;have:jw name=2:=by
   simp only[a1z,List.not_mem_nil,or_false] at hx;rcases hx with rfl | rfl | rfl | rfl | rfl | rfl | rfl | rfl | rfl<;>rfl
  omega
 have tr:∀ {q:Sr},q.tr=s.tr->lH q:=fun e=>⟨by grind [Fq],by grind [ok]⟩;unfold xW at h;split at h
 .grind
 split at h
 .grind [GW]
 split at h
 .rename_i c;have:=two [92,61] zs c;obtain⟨q,b,a⟩| ⟨e,b,a⟩:=Out.bind_some h
  .grind [iE,GW]
  grind
 split at h
 .exact tr ((Ty f).tm h).1
 split at h
 .rename_i c;have:=two [105,115] zs c;obtain⟨q,b,a⟩| ⟨e,b,a⟩:=Out.bind_some h
  .obtain⟨g1,g2,g3⟩:=D0 f g.ok (d 1 this) b;refine(tr g1).GW (d 0 zo) (by unfold eA;exact g3) a
  grind
 split at h
 .grind
 split at h
 .grind
 .obtain⟨q,b,a⟩| ⟨e,b,a⟩:=Out.bind_some h
  .obtain⟨q2,i,k⟩| ⟨e,i,k⟩:=Out.bind_some a
   .grind [jw,D0,ok]
   grind
  grind
theorem lH.head{f:Nat}{vs:List Nat}:∀ {l:List Tm} {r:List Ex} {s:Sr} {p:Bool×Sr},lH s->jt l->fi vs.length r->vy f vs l r s=O (.ok p)->lH p.2
 | [],r,s,p,b,_,_,h=>by grind [vy]
 | a::l,[],s,p,b,_,_,h=>by grind [vy]
 | a::l,x::r,s,p,b,c,hr,h=>by
  rw[vy] at h;unfold jt at c;unfold fi at hr;obtain⟨q,g,d⟩| ⟨e,g,d⟩:=Out.bind_some h
  .have i:=b.GW c.1 (adk vs _ hr.1) g;split at d
   .exact lH.head i c.2 hr.2 d
   grind
  grind
def amY(vs:List Nat):∀ (l:List Tm) (r:List Ex) (s:Sr),Mon (fun f=>vy f vs l r s)
 | [],r,s=>by intro f;simp_all [vy,Le.rfl]
 | _::_,[],s=>by intro f;simp_all [vy,Le.rfl]
 | a::l,x::r,s=>by
  intro f;simp only[vy];refine Out.y6 (aHU _ _ _ f) fun p=>?_;split
  .exact amY vs l r p.2 f
  simp_all [Le.rfl]
def amZ(args:List Tm)(l:List Cl)(td:List Goal)(m:Nat)(k:Wk):Mon (fun f=>xd f args l td m k):=by
 intro f;simp only[xd];split
 .exact Le.rfl
 .cases l with
  | nil=>exact Le.rfl
  | cons c rest=>exact Out.y6 (amY _ _ _ _ f) fun _=>Le.rfl
def lH.clause{args:List Tm}{l:List Cl}{td:List Goal}{k:Wk}{p:Bool×Wk}(a:lH k.sr)(d:jt args)(g:∀ c∈l,y8 M c)(h:xd f args l td m k=O (.ok p)):lH p.2.sr:=by
 unfold xd at h;split at h
 .grind
 .cases l with
  | nil=>grind
  | cons c rest=>
   have i:=g c (List.mem_cons_self ..);simp only at h;obtain⟨q,b,j⟩| ⟨e,b,j⟩:=Out.bind_some h
   .have n:=lH.head (show lH k.sr.dec from⟨a.Fq,a.ok⟩) d (by rw[List.length_range'];exact i.args) b;grind
   grind
def aH2(base:List Cl)(name:Bs)(ex:List Ex)(vars:List Nat)(k:Wk):Mon (fun f=>KI base f name ex vars k):=by
 intro f;simp only[KI];split
 .exact Out.y6 (aHV _ _ _ f) fun _=>Le.rfl
 .cases base.filter fun c=>c.name == name && c.args.length == ex.length with
  | nil=>exact Le.rfl
  | cons c l=>exact amZ _ _ _ _ _ f
def lH.goal{base:List Cl}{name:Bs}{ex:List Ex}{k:Wk}{p:Bool×Wk}(i:lH k.sr)(hx:fi ft.length ex)(a:∀ c∈base,y8 M c)(h:KI base f name ex ft k=O (.ok p)):lH p.2.sr:=by
 have b:=KD ft ex hx;unfold KI at h;split at h
 .rename_i ht;obtain⟨q,d,g⟩| ⟨e,d,g⟩:=Out.bind_some h
  .grind [adw,test]
  grind
 .split at h
  .grind
  .exact lH.clause zo b.1 (fun x hx=>a x (List.mem_filter.1 hx).1) h
def aH3(base:List Cl)(g:Goal)(k:Wk):Mon (fun f=>D1 base f g k):=by
 intro f;simp only[D1];split
 .exact Le.rfl
 .cases g.Fk with
  | none=>exact Le.rfl
  | some b=>
   cases b;simp only;split
   .exact Le.rfl
   split
   .exact Le.rfl
   split
   .exact Le.rfl
   split
   .exact Le.rfl
   split
   .exact Le.rfl
   .exact aH2 _ _ _ _ _ f
theorem lH.step{base:List Cl}{g:Goal}{k:Wk}{p:Bool×Wk}(d:lH k.sr)(e:∀ b,g.Fk=O b->eX g.vars.length M b)(i:∀ c∈base,y8 M c)(h:D1 base f g k=O (.ok p)):lH p.2.sr:=by
 have a:lH k.sr.dec:=⟨d.Fq,d.ok⟩;unfold D1 at h;split at h
 .grind
 .cases hw:g.Fk with
  | none=>grind
  | some b=>
   obtain⟨kind,name,args,parts⟩:=b;have eZ:=e _ hw;unfold eX at eZ;obtain⟨l,m,⟨n,o,q⟩,r,j,s,j3,t⟩:=eZ;rw[hw] at h;simp only at h;split at h
   .grind
   split at h
   .grind
   split at h
   .split at h
    .injection h with h;injection h with h;subst h;exact a
    grind
   split at h
   .split at h
    .injection h with h;injection h with h;subst h;exact a
    grind
   split at h
   .split at h
    .injection h with h;injection h with h;subst h;exact a
    grind
   .exact lH.goal zo j i h
def XD(base:List Cl):∀ (f d:Nat) (b:Bool) (k:Wk),Le (kq base d f b k) (kq base (d+1) f b k)
 | 0,d,b,k=>by intro r h;simp_all [kq]
 | f+1,d,A,k=>by
  rw[kq,kq];cases k.todo with
  | nil=>exact Le.rfl
  | cons g r=>exact Out.y6 (aH3 base g _ d) fun p=>XD base f d p.1 p.2
 | f+1,d,G,k=>by
  rw[kq,kq];cases k.bw.getLast? with
  | none=>exact Le.rfl
  | some a=>
   simp only;cases a.clauses with
   | nil=>exact XD base f d _ _
   | cons c l=>exact Out.y6 (amZ _ _ _ _ _ d) fun p=>XD base f d p.1 p.2
def XE(base:List Cl)(d:Nat):∀ (f:Nat) (b:Bool) (k:Wk),Le (kq base d f b k) (kq base d (f+1) b k)
 | 0,b,k=>by intro r h;simp_all [kq]
 | f+1,A,k=>by
  rw[kq,kq];cases k.todo with
  | nil=>exact Le.rfl
  | cons g r=>exact Out.y6 Le.rfl fun p=>XE base d f p.1 p.2
 | f+1,G,k=>by
  rw[kq,kq];cases k.bw.getLast? with
  | none=>exact Le.rfl
  | some a=>
   simp only;cases a.clauses with
   | nil=>exact XE base d f _ _
   | cons c l=>exact Out.y6 Le.rfl fun p=>XE base d f p.1 p.2
def aH4{base:List Cl}{f':Nat}{b:Bool}{k:Wk}{r:Except jE (Bool×Wk)}(h:kq base d f b k=O r)(a:d<=pb)(c:f<=f'):kq base pb f' b k=O r:=by
 have e:kq base pb f b k=O r:=Le.many (F:=fun d=>kq base d f b k) (fun d=>XD base f d b k) a _ h;exact Le.many (F:=fun f=>kq base pb f b k) (fun f=>XE base pb f b k) c _ e
def XF{base:List Cl}{M d:Nat}(m:∀ c∈base,y8 M c):∀ (f:Nat) (b:Bool) (k:Wk) (p:Bool×Wk),lW M B { k with todo:=if b then k.todo else [] }->lH k.sr->kq base d f b k=O (.ok p) ->
  lW M B { p.2 with todo:=if p.1 then p.2.todo else [] }/\lH p.2.sr/\k.n<=p.2.n/\p.2.sr.fuel<=k.sr.fuel
 | 0,_,_,_,_,_,h=>by simp_all [kq]
 | f+1,A,k,p,hk,o,h=>by
  rw[kq] at h;simp only[if_true] at hk;cases ht:k.todo with
  | nil=>
   rw[ht] at h;injection h with h;injection h with h;subst h;refine⟨⟨⟨?_,hk.ag,hk.marks,hk.mono⟩,hk.cV,hk.nN⟩,o,a1s _,a1s _⟩;exact⟨Nat.zero_le _,(fun i hi=>zg),(fun b K=>by grind [adl]),trivial⟩
  | cons g r=>
   rw[ht] at h;have w:lW M B { k with todo:=g::r }:=zg;have z:=(w.todo:nM M k.n k.bw.length (g::r)).2.2.1;obtain⟨q,j,s⟩| ⟨e,j,s⟩:=Out.bind_some h
   .obtain⟨g1,g2,g3⟩:=amT w o.ok m j;obtain⟨C,D,E,F⟩:=XF m f q.1 q.2 p g1 (lH.step (k:={ k with todo:=r }) zo z m j) s;grind
   grind
 | f+1,G,k,p,hk,o,h=>by
  rw[kq] at h;simp only[a1V,if_false] at hk;cases t:k.bw.getLast? with
  | none=>
   grind
  | some a=>
   rw[t] at h;simp only at h;obtain⟨L,H,N,P⟩:=hk.iE t;have y:=hk.ag _ _ H;cases u:a.clauses with
   | nil=>
    rw[u] at h;exact XF m f A { k with sr:=k.sr.iE a.mark,todo:=a.todo,bw:=k.bw.dropLast } p (hk.back t) (by exact o.iE _) h
   | cons c l=>
    rw[u] at h;simp only at h;rw[<- u] at h;have I:∀ x∈a.clauses,y8 M x:=fun x hx=>(y.cls x hx).1;obtain⟨q,j,s⟩| ⟨e,j,s⟩:=Out.bind_some h
    .obtain⟨g1,g2,g3⟩:=hk.again t j;obtain⟨C,D,E,F⟩:=XF m f q.1 q.2 p g1 (lH.clause (k:={ k with sr:=k.sr.iE a.mark }) (by exact o.iE _) y.args I j) s;grind
    grind
end
structure In where
 word:Bs
 name:Bs
 const:Option Tm
 s:List Nat
deriving Inhabited
structure Co where
 slots:Nat
 ins:List In
deriving Inhabited
structure Mk where
 slots:Nat
 ins:List In
 vars:List (Option Nat)
def Mk.put(m:Mk)(word name:Bs)(c:Option Tm)(s:List Nat):Mk:={ m with ins:=m.ins++[⟨word,name,c,s⟩] }
def Mk.slot(m:Mk):Option (Nat×Mk):=if 64<m.slots+1 then V else O (m.slots,{ m with slots:=m.slots+1 })
def Mk.tg(m:Mk):Nat->Option (List Nat×Mk)
 | 0=>O ([],m)
 | n+1=>match m.slot with
  | none=>V
  | some (s,m)=>match m.tg n with
   | none=>V
   | some (l,m)=>O (s::l,m)
def CO(kind:Nat)(name:Bs)(n:Int):Tm:=if kind=110 then .int n else .atom name
mutual
def za:Ex->Nat->Mk->Option Mk
 | .mk kind name n k args,s,m=>
  if kind=118 then match m.vars.getD k V with
   | none=>O { m with vars:=m.vars.set k (O s) }
   | some t=>O (m.put [115,97,109,101] [] V [s,t])
  else if kind=99 then match m.tg args.length with
   | none=>V
   | some (l,m)=>th args l (m.put [115,112,108,105,116] name V (s::l))
  else O (m.put [99,111,110,115,116] [] (O (CO kind name n)) [s])
 termination_by structural x=>x
def th:List Ex->List Nat->Mk->Option Mk
 | [],_,m=>O m
 | x::xs,l,m=>match za x (l.headD 0) m with
  | none=>V
  | some m=>th xs l.tail m
 termination_by structural x=>x
end
mutual
def AG:Ex->Mk->Option (Nat×Mk)
 | .mk kind name n k args,m=>
  if kind=118 then O ((m.vars.getD k V).getD 0,m)
  else if kind≠99 then match m.slot with
   | none=>V
   | some (s,m)=>O (s,m.put [112,117,116] [] (O (CO kind name n)) [s])
  else match ti args m with
   | none=>V
   | some (l,m)=>match m.slot with
    | none=>V
    | some (s,m)=>O (s,m.put [109,97,107,101] name V (s::l))
 termination_by structural x=>x
def ti:List Ex->Mk->Option (List Nat×Mk)
 | [],m=>O ([],m)
 | x::xs,m=>match AG x m with
  | none=>V
  | some (s,m)=>match ti xs m with
   | none=>V
   | some (l,m)=>O (s::l,m)
 termination_by structural x=>x
end
def Mk.land(m:Mk)(k:Nat):Mk:={ m with ins:=m.ins.modify k fun i=>{ i with s:=[m.ins.length] } }
def jR:Bs:=[116,114,121]
def jm:Bs:=[106,117,109,112]
def kE:Bs:=[99,117,116]
def pF:Bs:=[108,101,118,101,108]
def mr:Bs:=[116,101,115,116]
def xf:Bs:=[99,97,108,108]
def rS:Bs:=[110,101,119]
def tj:Bs:=[109,97,114,107]
mutual
def lC:Bd->Nat->Mk->Option Mk
 | .mk kind name args parts,cut,m=>
  if kind=33 then O (m.put kE [] V [cut])
  else if kind=44 then tl parts cut m
  else if kind=59 then D3 parts cut m
  else if kind=63 then match m.slot with
   | none=>V
   | some (s,m)=>D4 parts s cut (m.put pF [] V [s])
  else if kind=126 then match m.slot with
   | none=>V
   | some (s,m)=>D5 parts s (m.put pF [] V [s])
  else match ti args m with
   | none=>V
   | some (l,m)=>O (m.put (if jw name=l.length then mr else xf) name V l)
 termination_by structural x=>x
def tl:List Bd->Nat->Mk->Option Mk
 | [],_,m=>O m
 | b::r,cut,m=>match lC b cut m with
  | none=>V
  | some m=>tl r cut m
 termination_by structural x=>x
def D3:List Bd->Nat->Mk->Option Mk
 | [],_,_=>V
 | a::r,cut,m=>match lC a cut (m.put jR [] V [0]) with
  | none=>V
  | some m1=>match tl r cut ((m1.put jm [] V [0]).land m.ins.length) with
   | none=>V
   | some m2=>O (m2.land m1.ins.length)
 termination_by structural x=>x
def D4:List Bd->Nat->Nat->Mk->Option Mk
 | [],_,_,_=>V
 | a::r,s,cut,m=>match lC a s (m.put jR [] V [0]) with
  | none=>V
  | some m1=>Fs r cut m.ins.length (m1.put kE [] V [s])
 termination_by structural x=>x
def Fs:List Bd->Nat->Nat->Mk->Option Mk
 | [],_,_,_=>V
 | b::r,cut,k,m=>match lC b cut m with
  | none=>V
  | some m1=>match tl r cut ((m1.put jm [] V [0]).land k) with
   | none=>V
   | some m2=>O (m2.land m1.ins.length)
 termination_by structural x=>x
def D5:List Bd->Nat->Mk->Option Mk
 | [],_,_=>V
 | a::_,s,m=>match lC a s (m.put jR [] V [0]) with
  | none=>V
  | some m1=>O (((m1.put kE [] V [s]).put mr [102,97,105,108] V []).land m.ins.length)
 termination_by structural x=>x
end
def Mk.news(m:Mk):Nat->Nat->Option Mk
 | _,0=>O m
 | k,n+1=>match m.slot with
  | none=>V
  | some (s,m')=>Mk.news ({ m' with vars:=m'.vars.set k (O s) }.put rS [] V [s]) (k+1) n
def Mk.rest(m:Mk):Nat->Nat->Option Mk
 | _,0=>O m
 | k,n+1=>match m.vars.getD k V with
  | some _=>Mk.rest m (k+1) n
  | none=>match m.slot with
   | none=>V
   | some (s,m')=>Mk.rest ({ m' with vars:=m'.vars.set k (O s) }.put rS [] V [s]) (k+1) n
def zb(args:List Ex)(body:Bd)(nv:Nat)(a:Bool):Option Co:=
 match (⟨0,[],a2a nv V⟩:Mk).tg args.length with
 | none=>V
 | some (b,m)=>match (if a then m.news 0 nv else O m) with
  | none=>V
  | some m=>match m.slot with
   | none=>V
   | some (cut,m)=>match th args b (m.put tj [] V [cut]) with
    | none=>V
    | some m=>match m.rest 0 nv with
     | none=>V
     | some m=>match lC body cut m with
      | none=>V
      | some m=>O ⟨m.slots,(m.put (if a then [100,111,110,101] else [114,101,116]) [] V []).ins⟩
structure Pd where
 name:Bs
 arity:Nat
 clauses:List Co
def rT(name:Bs)(n:Nat)(c:Co):List Pd->List Pd
 | []=>[⟨name,n,[c]⟩]
 | p::r=>if p.name=name/\p.arity=n then{ p with clauses:=p.clauses++[c] }::r else p::rT name n c r
def xg:List Cl->List Pd->Option (List Pd)
 | [],l=>O l
 | c::r,l=>match zb c.args c.body c.vars.length G with
  | none=>V
  | some x=>xg r (rT c.name c.args.length x l)
def kM(first:Bs)(l:List Bs):Bs:=first++(l.map fun w=>32::w).flatten++[10]
def kS(w:Bs):Option Bs:=
 if w=rS\/w=tj\/w=pF\/w=kE then O [115]
 else if w=[112,117,116]\/w=[99,111,110,115,116] then O [115,99]
 else if w=[115,97,109,101] then O [115,115]
 else if w=[109,97,107,101]\/w=[115,112,108,105,116] then O [115,110,42]
 else if w=mr\/w=xf then O [110,42]
 else if w=jR\/w=jm then O [112]
 else if w=[114,101,116]\/w=[100,111,110,101] then O []
 else V
def AH:Option Tm->Bs
 | some (.int n)=>gX n
 | some (.atom a)=>a
 | _=>[]
def qd(i:In):Bs->List Nat->List Bs
 | [],_=>[]
 | x::r,s=>
  if x=115\/x=112 then dL (s.headD 0)::qd i r s.tail
  else if x=99 then AH i.const::qd i r s
  else if x=110 then i.name::qd i r s
  else s.map dL++qd i r s
def AI(i:In):Bs:=kM i.word (qd i ((kS i.word).getD []) i.s)
def tn(c:Co):Bs:=(c.ins.map AI).flatten
def rU(p:Pd):Bs:=kM [112,114,101,100] [p.name,dL p.arity]++(p.clauses.map fun c=>kM [99,108,97,117,115,101] [dL c.slots]++tn c).flatten
def oW(l:List Pd)(ask:Co)(told:Nat):Bs:=(l.map rU).flatten++kM [113,117,101,114,121] [dL ask.slots,dL told]++tn ask
inductive Sl where
 | nil
 | term (t:Tm)
 | level (n:Nat)
deriving Inhabited
structure Fm where
 code:Co
 slots:List Sl
 entry:Nat
 back:Option Nat
 pc:Nat
 ask:Bool
structure Ga where
 mark:Nat
 f:Nat
 pc:Nat
 others:List Co
 args:List Sl
structure Vm where
 n:Nat
 sr:Sr
 fs:List Fm
 f:Nat
 pc:Nat
 bw:List Ga
def Vm.slot(m:Vm)(k:Nat):Sl:=match m.fs[m.f]? with
 | some x=>x.slots.getD k .nil
 | none=>.nil
def Vm.set(m:Vm)(k:Nat)(v:Sl):Vm:={ m with fs:=m.fs.modify m.f fun x=>{ x with slots:=x.slots.set k v } }
def Vm.at(m:Vm)(i:In)(k:Nat):Except jE Tm:=match m.slot (i.s.getD k 0) with
 | .term t=>.ok t
 | _=>.error (.fault 5)
def Vm.iK(m:Vm):List Nat->Except jE (List Tm)
 | []=>.ok []
 | k::r=>match m.slot k with
  | .term t=>match m.iK r with
   | .ok l=>.ok (t::l)
   | .error e=>.error e
  | _=>.error (.fault 5)
def IS{α β:Type}(x:Except jE α)(k:α->Out β):Out β:=match x with
 | .error e=>O (.error e)
 | .ok a=>k a
def Vm.enter(m:Vm)(l:List Co)(args:List Sl)(f pc n:Nat):Option Vm:=
 match l with
 | []=>V
 | c::rest=>O { m with bw:=m.bw.take n++(match rest with | []=>[] | _=>[⟨m.sr.tr.length,f,pc,rest,args⟩]),fs:=m.fs++[⟨c,args++a2a (max c.slots args.length-args.length) .nil,n,O f,pc,G⟩],f:=m.fs.length,pc:=0 }
def Vm.back(m:Vm):Option (Bool×Vm):=
 match m.bw.getLast? with
 | none=>O (G,m)
 | some a=>match a.others with
  | []=>O (A,{ m with sr:=m.sr.iE a.mark,f:=a.f,pc:=a.pc,bw:=m.bw.dropLast })
  | l=>match ({ m with sr:=m.sr.iE a.mark }:Vm).enter l a.args a.f a.pc (m.bw.length-1) with
   | none=>V
   | some m=>O (A,m)
def vz(dG:List Pd)(d:Nat)(i:In)(m:Vm):Out (Bool×Vm):=
 let GW (x:Out (Bool×Sr)):Out (Bool×Vm):=Out.bind x fun p=>O (.ok (p.1,{ m with sr:=p.2 }));let s0:=i.s.getD 0 0
 if i.word=rS then O (.ok (A,{ m.set s0 (.term (.var m.n)) with n:=m.n+1 }))
 else if i.word=[112,117,116] then O (.ok (A,m.set s0 (match i.const with | some t=>.term t | none=>.nil)))
 else if i.word=[99,111,110,115,116] then IS (m.at i 0) fun t=>GW (lS d t (i.const.getD default) m.sr)
 else if i.word=[115,97,109,101] then IS (m.at i 0) fun t=>IS (m.at i 1) fun u=>GW (lS d t u m.sr)
 else if i.word=[109,97,107,101] then IS (m.iK i.s.tail) fun l=>O (.ok (A,m.set s0 (.term (.comp i.name l))))
 else if i.word=[115,112,108,105,116] then IS (m.at i 0) fun t=>match fF m.sr.tr d t with
  | none=>V
  | some (.var v)=>let m1:=i.s.tail.zipIdx.foldl (fun m p=>m.set p.1 (.term (.var (m.n+p.2)))) m;O (.ok (A,{ m1 with n:=m.n+i.s.tail.length,sr:=m.sr.bind v (.comp i.name ((List.range' m.n i.s.tail.length).map .var)) }))
  | some (.comp name args)=>if name=i.name/\args.length=i.s.length-1 then O (.ok (A,(i.s.tail.zip args).foldl (fun m p=>m.set p.1 (.term p.2)) m)) else O (.ok (G,m))
  | some _=>O (.ok (G,m))
 else if i.word=mr then IS (m.iK i.s) fun l=>GW (xW d i.name l m.sr)
 else if i.word=tj then O (.ok (A,m.set s0 (.level (match m.fs[m.f]? with | some x=>x.entry | none=>0))))
 else if i.word=pF then O (.ok (A,m.set s0 (.level m.bw.length)))
 else if i.word=kE then match m.slot s0 with
  | .level n=>O (.ok (A,{ m with bw:=m.bw.take (min n m.bw.length) }))
  | _=>O (.error (.fault 5))
 else if i.word=jR then O (.ok (A,{ m with bw:=m.bw++[⟨m.sr.tr.length,m.f,s0,[],[]⟩] }))
 else if i.word=jm then O (.ok (A,{ m with pc:=s0 }))
 else if i.word=xf then match dG.find? fun p=>p.name == i.name && p.arity == i.s.length with
  | none=>O (.error (.fault 10))
  | some p=>match p.clauses with
   | []=>O (.ok (G,m))
   | l=>match m.enter l (i.s.map m.slot) m.f m.pc m.bw.length with
    | none=>V
    | some m=>O (.ok (A,m))
 else if i.word=[114,101,116] then match m.fs[m.f]? with
  | none=>V
  | some x=>match x.back with
   | none=>O (.error (.fault 5))
   | some b=>O (.ok (A,{ m with f:=b,pc:=x.pc }))
 else O (.ok (A,m))
def xh(dG:List Pd)(d:Nat):Nat->Vm->Out (Bool×Vm)
 | 0,_=>V
 | f+1,m=>
  if m.sr.fuel=0 then O (.error .DZ)
  else match m.fs[m.f]? with
   | none=>V
   | some x=>match x.code.ins[m.pc]? with
    | none=>O (.error (.fault 5))
    | some i=>
     let m:={ m with sr:=m.sr.dec,pc:=m.pc+1 }
     if i.word=[100,111,110,101] then(if x.ask then O (.ok (A,m)) else O (.error (.fault 5)))
     else Out.bind (vz dG d i m) fun p=>
      if p.1 then xh dG d f p.2
      else match p.2.back with
       | none=>V
       | some (G,m)=>O (.ok (G,m))
       | some (A,m)=>xh dG d f m
def IT(dG:List Pd)(d f:Nat)(m:Vm):Out (Bool×Vm):=
 if 0<m.pc then match m.back with
  | none=>V
  | some (G,m)=>O (.ok (G,m))
  | some (A,m)=>xh dG d f m
 else xh dG d f m
structure Qv where
 err:Nat
 vm:Vm
def Qv.new(c:Co):Qv:=⟨0,0,⟨[],0⟩,[⟨c,a2a c.slots .nil,0,V,0,A⟩],0,0,[]⟩
structure En where
 St:Type
 sr:St->Sr
 nv:St->Nat
 fu:St->Nat->St
 nx:Nat->Nat->St->Out (Bool×St)
 told:St->Except jE (List Tm)
def jE.no:jE->Nat
 | .fault e=>e
 | .DZ=>11
abbrev Qs(E:En):=Option Nat×E.St
def AK(E:En)(names:List Bs)(d f:Nat)(q:Qs E):Option ((Bs×Nat)×Qs E):=
 match q.1 with
 | some e=>O (([],e),q)
 | none=>match E.nx d f (E.fu q.2 1000000) with
  | none=>V
  | some (.error t)=>O (([],t.no),(O t.no,q.2))
  | some (.ok (G,k))=>O (([],6),(O 6,k))
  | some (.ok (A,k))=>match E.told k with
   | .error t=>O (([],t.no),(O t.no,k))
   | .ok l=>match Nw (E.sr k).tr d names l ⟨(E.sr k).fuel,[],[]⟩with
    | none=>V
    | some V=>O (([],11),(O 11,k))
    | some (O s)=>O ((if s.out=[] then [116,114,117,101] else s.out,0),(V,E.fu k s.fuel))
def KM(base:List Cl)(nv:Nat):En where
 St:=Wk
 sr k:=k.sr
 nv k:=k.n
 fu k f:={ k with sr:={ k.sr with fuel:=f } }
 nx d f k:=kq base d f A k
 told _:=.ok ((List.range nv).map .var)
def Ft:Bs:=[112,117,116]
def D6:Bs:=[99,111,110,115,116]
def Fu:Bs:=[115,97,109,101]
def IV:Bs:=[109,97,107,101]
def IW:Bs:=[115,112,108,105,116]
def NA:Bs:=[114,101,116]
def NB:Bs:=[100,111,110,101]
def Tz:Tm->Bool
 | .atom _=>A
 | .int _=>A
 | _=>G
structure uH(n:Nat)(i:In):Prop where
 kn:i.word∈[rS,Ft,D6,Fu,IV,IW,mr,tj,pF,kE,jR,jm,xf,NA,NB]
 sl:i.word≠jR->i.word≠jm->∀ k∈i.s,k<n
 one:i.word=rS\/i.word=Ft\/i.word=D6\/i.word=tj\/i.word=pF\/i.word=kE\/i.word=jR\/i.word=jm->i.s.length=1
 same:i.word=Fu->i.s.length=2
 two:i.word=IV\/i.word=IW->2<=i.s.length
 test:i.word=mr->jw i.name=i.s.length
 con:i.word=Ft\/i.word=D6->∃ t,i.const=O t/\eA t/\Tz t=A
 TA:i.name.length<=20
 qL:i.s.length<=60
 small:∀ k∈i.s,k<100000
structure zc(c:Co):Prop where
 ins:∀ i∈c.ins,uH c.slots i
 sl:c.slots<=64
 len:c.ins.length<=100000
structure am2(p:Pd):Prop where
 cls:∀ c∈p.clauses,zc c
 len:p.clauses.length<=100000
def AL:Sl->Prop
 | .term t=>eA t
 | _=>True
structure adz(n:Nat)(x:Fm):Prop where
 code:zc x.code
 sl:x.code.slots<=x.slots.length
 tm:∀ y∈x.slots,AL y
 back:∀ b,x.back=O b->b<n
structure XG(n:Nat)(a:Ga):Prop where
 f:a.f<n
 others:∀ c∈a.others,zc c
 args:∀ y∈a.args,AL y
 qL:a.args.length<=60
structure gA(B:Nat)(m:Vm):Prop where
 f:m.f<m.fs.length
 fr:∀ (i:Nat) (x:Fm),m.fs[i]?=O x->adz m.fs.length x
 ag:∀ (i:Nat) (a:Ga),m.bw[i]?=O a->XG m.fs.length a
 marks:∀ (i:Nat) (a:Ga),m.bw[i]?=O a->a.mark<=m.sr.tr.length
 mono:∀ (i j:Nat) (a b:Ga),i<=j->m.bw[i]?=O a->m.bw[j]?=O b->a.mark<=b.mark
 cV:m.sr.cV<=B
 nN:m.bw.length+m.sr.fuel<=B
 pc:m.pc<=200000
 xj:∀ (i:Nat) (x:Fm),m.fs[i]?=O x->x.pc<=200000
 xY:∀ (i:Nat) (a:Ga),m.bw[i]?=O a->a.pc<=200000
end P
