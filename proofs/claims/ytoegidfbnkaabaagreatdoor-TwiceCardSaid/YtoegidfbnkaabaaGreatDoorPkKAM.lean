/- A part of one proof (PureO, PureU, PureTot, PureY, PureR, PureS). -/
import Derived.Test.YtoegidfbnkaabaaGreatDoorPkKAL
set_option linter.all false
set_option maxRecDepth 100000
set_option maxHeartbeats 8000000
open Option renaming some → O, none → V
open Bool renaming true → A, false → ae
open Option.some renaming injEq → a0z
open Nat renaming le_refl → a0D, le_trans → a0E, lt_succ_self → a04, le_max_left → a1F, le_succ → a1J, le_add_right → a1M, sub_le → a2l
open Prod.mk renaming injEq → a0X
open Except.ok renaming injEq → a2m
open List renaming suffix_refl → a2v
namespace Go.Proofs.YtoegidfbnkaabaaGreatDoor
variable{M d f g i m n:Nat}
namespace P
def Le{α:Type}(x y:Option α):Prop:=∀ r,x=O r->y=O r
theorem Le.rfl{α:Type}{x:Option α}:Le x x:=fun _ h=>h
theorem Le.none{α:Type}{y:Option α}:Le (V:Option α) y:=fun _ h=>zg
theorem Le.trans{α:Type}{x y z:Option α}(h:Le x y)(a:Le y z):Le x z:=fun r hr=>a r (h r hr)
theorem Out.vw{α β:Type}{x y:Out α}{k k':α->Out β}(h:Le x y)(hk:∀ a,Le (k a) (k' a)):Le (Out.bind x k) (Out.bind y k'):=by
 intro r hr;obtain⟨a,b,c⟩| ⟨e,b,rfl⟩:=Out.bind_some hr
 .rw[h _ b];exact hk a _ c
 .rw[h _ b];rfl
theorem M1{x y:Option (Option Ws)}{k k':Ws->Option (Option Ws)}(h:Le x y)(hk:∀ a,Le (k a) (k' a)):Le (Wb x k) (Wb y k'):=by
 intro r hr;cases x with
 | none=>cases hr
 | some a=>rw[h _ rfl];cases a with
  | none=>exact hr
  | some a=>exact hk a _ hr
def DO{tr:Tr}:∀ {f:Nat} {t:Tm},Le (dR tr f t) (dR tr (f+1) t)
 | f,.atom s=>by intro r h;simp_all [dR]
 | f,.int s=>by intro r h;simp_all [dR]
 | f,.comp s l=>by intro r h;simp_all [dR]
 | 0,.var i=>by
  intro r h;grind [dR]
 | f+1,.var i=>by
  intro r h;rw[dR] at h ⊢;split at h
  .omega
  .exact DO _ h
theorem IB{tr:Tr}{t u:Tm}(h:dR tr f t=O u)(a:f<=g):dR tr g t=O u:=by
 obtain⟨k,rfl⟩:=Nat.le.dest a;induction k with
 | zero=>omega
 | succ k ih=>exact DO _ (ih (a1M _ _))
def WX:∀ f,(∀ i t s,Le (tP f i t s) (tP (f+1) i t s))/\(∀ i l s,Le (vu f i l s) (vu (f+1) i l s))
 | 0=>⟨fun _ _ _=>Le.none,fun _ _ _=>Le.none⟩
 | f+1=>by
  obtain⟨c,b⟩:=WX f;constructor
  .intro i t s;rw[tP,tP];split
   .exact Le.rfl
   .intro r hr;cases hw:dR s.tr f t with
    | none=>grind
    | some u=>
     rw[hw] at hr;rw[DO _ hw];cases u with
     | comp n l=>exact b _ _ _ _ hr
     | _=>exact hr
  .intro i l s;cases l with
   | nil=>exact Le.rfl
   | cons a l=>
    simp_all [vu,Out.vw,Le.rfl]
def ac0{t:Tm}{s:Sr}:Le (q9 f i t s) (q9 (f+1) i t s):=Out.vw ((WX f).1 _ _ _) fun _=>Le.rfl
def Pm:∀ f,(∀ a b s,Le (gY f a b s) (gY (f+1) a b s))/\(∀ l r s,Le (lJ f l r s) (lJ (f+1) l r s))
 | 0=>⟨fun _ _ _=>Le.none,fun _ _ _=>Le.none⟩
 | f+1=>by
  obtain⟨e,d⟩:=Pm f;constructor
  .intro a b s;rw[gY,gY];split
   .exact Le.rfl
   .intro r hr;cases hw:dR s.tr f a with
    | none=>grind
    | some u=>
     rw[hw] at hr;rw[DO _ hw];cases hv:dR s.tr f b with
     | none=>grind
     | some v=>
      rw[hv] at hr;rw[DO _ hv];cases u<;>cases v<;>first
       | exact hr
       | exact ac0 _ hr
       | (simp only at hr ⊢;split at hr<;>rename_i c;(rw[zip c];exact hr);rw[bO c];exact ac0 _ hr)
       | (simp only at hr ⊢;split at hr<;>rename_i c;(rw[zip c];exact d _ _ _ _ hr);grind)
  .intro l r s;cases l with
   | nil=>exact Le.rfl
   | cons a l=>
    cases r with
    | nil=>exact Le.rfl
    | cons b r=>
     simp_all [lJ,Out.vw,Le.rfl]
def WY:∀ f,(∀ a b s,Le (qA f a b s) (qA (f+1) a b s))/\(∀ l r s,Le (uw f l r s) (uw (f+1) l r s))
 | 0=>⟨fun _ _ _=>Le.none,fun _ _ _=>Le.none⟩
 | f+1=>by
  obtain⟨e,c⟩:=WY f;constructor
  .intro a b s;rw[qA,qA];split
   .exact Le.rfl
   .intro r hr;cases hw:dR s.tr f a with
    | none=>grind
    | some u=>
     rw[hw] at hr;rw[DO _ hw];cases hv:dR s.tr f b with
     | none=>grind
     | some v=>
      rw[hv] at hr;rw[DO _ hv];cases u<;>cases v<;>first
       | exact hr
       | (simp only at hr ⊢;split at hr<;>rename_i d;(rw[zip d];exact c _ _ _ _ hr);grind)
  .intro l r s;cases l with
   | nil=>exact Le.rfl
   | cons a l=>
    cases r with
    | nil=>exact Le.rfl
    | cons b r=>
     simp_all [uw,Out.vw,Le.rfl]
theorem WZ:∀ f,∀ t s,Le (kO f t s) (kO (f+1) t s)
 | 0=>fun _ _=>Le.none
 | f+1=>by
  have ih:=WZ f;intro t s;rw[kO,kO];split
  .exact Le.rfl
  .intro r hr;cases hw:dR s.tr f t with
   | none=>grind
   | some u=>
    rw[hw] at hr;rw[DO _ hw]
    match u,hr with
    | .atom _,hr=>omega
    | .int _,hr=>omega
    | .var _,hr=>omega
    | .comp _ [],hr=>omega
    | .comp _ [_],hr=>omega
    | .comp _ (_::_::_::_),hr=>omega
    | .comp name [a,b],hr=>
     simp only at hr ⊢;split at hr
     .rename_i c;rw[zip c];exact Out.vw (ih _ _) (fun p=>Out.vw (ih _ _) fun q=>Le.rfl) _ hr
     grind
def aHC{name:Bs}{args:List Tm}{s:Sr}:Le (uy f name args s) (uy (f+1) name args s):=by
 unfold uy;split
 .exact Le.rfl
 split
 .simp_all [Pm]
 split
 .simp_all [Out.vw,Pm,Le.rfl]
 split
 .simp_all [WY]
 split
 .simp_all [Out.vw,WZ,Pm]
 split
 .intro r hr;cases hw:dR s.tr f (args.getD 0 default) with
  | none=>grind
  | some u=>rw[hw] at hr;rw[DO _ hw];omega
 grind [Le.rfl,Out.vw,WZ]
structure WLe(tr:Tr)(f:Nat):Prop where
 tm:∀ t l s,Le (il tr f t l s) (il tr (f+1) t l s)
 comp:∀ n a l s,Le (nM tr f n a l s) (nM tr (f+1) n a l s)
 args:∀ c a s,Le (nN tr f c a s) (nN tr (f+1) c a s)
 list:∀ c a b s,Le (mg tr f c a b s) (mg tr (f+1) c a b s)
def S1(tr:Tr):∀ f,WLe tr f
 | 0=>⟨fun _ _ _=>Le.none,fun _ _ _ _=>Le.none,fun _ _ _=>Le.none,fun _ _ _ _=>Le.none⟩
 | f+1=>by
  obtain⟨g,h,i,j⟩:=S1 tr f;refine⟨fun t l s=>?_,fun n a l s=>?_,fun c a s=>?_,fun c a b s=>?_⟩
  .rw[il,il];split
   .exact Le.rfl
   .intro r hr;cases hw:dR tr f t with
    | none=>grind
    | some u=>
     rw[hw] at hr;rw[DO _ hw];cases u with
     | comp n l=>exact h _ _ _ _ _ hr
     | _=>exact hr
  .have d:∀ {a:List Tm},Le (Wb (nN tr f 40 a (s.add n)) fun s=>O (O (s.add [41]))) (Wb (nN tr (f+1) 40 a (s.add n)) fun s=>O (O (s.add [41]))):=M1 (i _ _ _) fun _=>Le.rfl
   match a with
   | []=>simp_all [nM]
   | [x]=>simp_all [nM]
   | x::y::z::a=>simp_all [nM]
   | [x,y]=>
    grind [nM,M1,Le.rfl]
  .cases a with
   | nil=>exact Le.rfl
   | cons x a=>simp_all [nN,M1]
  .rw[mg,mg];refine M1 (g _ _ _) fun s=>?_;have d:Le (Wb (il tr f b 0 (s.add [124])) fun s=>O (O (s.add [93]))) (Wb (il tr (f+1) b 0 (s.add [124])) fun s=>O (O (s.add [93]))):=M1 (g _ _ _) fun _=>Le.rfl;intro r hr;cases hw:dR tr f b with
   | none=>grind
   | some u=>
    rw[hw] at hr;rw[DO _ hw]
    match u,hr with
    | .int _,hr=>exact d _ hr
    | .var _,hr=>exact d _ hr
    | .comp _ [],hr=>exact d _ hr
    | .comp _ [_],hr=>exact d _ hr
    | .comp _ (_::_::_::_),hr=>exact d _ hr
    | .atom x,hr=>
     simp only at hr ⊢;split at hr
     .grind
     .rename_i e;rw[bO e];exact d _ hr
    | .comp name [x,y],hr=>
     simp only at hr ⊢;split at hr
     .rename_i e;rw[zip e];exact j _ _ _ _ _ hr
     .rename_i e;rw[bO e];exact d _ hr
def Le.many{α:Type}{F:Nat->Option α}(h:∀ f,Le (F f) (F (f+1)))(a:f<=g):Le (F f) (F g):=by
 obtain⟨k,rfl⟩:=Nat.le.dest a;induction k with
 | zero=>exact Le.rfl
 | succ k ih=>exact(ih (a1M _ _)).trans (h _)
structure aHE(f:Nat):Prop where
 tm:∀ {i:Nat} {t:Tm} {s:Sr} {p:Bool×Sr},tP f i t s=O (.ok p)->p.2.tr=s.tr/\p.2.fuel<=s.fuel
 E6:∀ {i:Nat} {l:List Tm} {s:Sr} {p:Bool×Sr},vu f i l s=O (.ok p)->p.2.tr=s.tr/\p.2.fuel<=s.fuel
def GF:∀ f,aHE f
 | 0=>⟨fun h=>by simp_all [tP],fun h=>by simp_all [vu]⟩
 | f+1=>by
  have ih:=GF f;refine⟨fun{i t s p} h=>?_,fun{i l s p} h=>?_⟩
  .rw[tP] at h;split at h
   .grind
   .split at h
    .grind
    .injection h with h;injection h with h;subst h;exact⟨J,a2l _ _⟩
    .obtain⟨c,b⟩:=ih.E6 h;exact⟨c,a0E b (a2l _ _)⟩
    .injection h with h;injection h with h;subst h;exact⟨J,a2l _ _⟩
  .cases l with
   | nil=>grind [vu]
   | cons a r=>
    rw[vu] at h;obtain⟨q,c,b⟩| ⟨e,c,b⟩:=Out.bind_some h
    .obtain⟨d,g⟩:=ih.tm c;split at b
     .grind
     .obtain⟨j,k⟩:=ih.E6 b;grind
    grind
theorem ac1{i:Nat}:∀ {tr:Tr},look i tr=V->i ∉ tr.map (·.1)
 | [],_=>zs
 | (j,t)::r,h=>by
  rw[look] at h;split at h
  .grind
  .rename_i a;simp only[List.map_cons,List.mem_cons,not_or];exact⟨a,ac1 h⟩
theorem IC{tr:Tr}:∀ {f:Nat} {t:Tm} {i:Nat},dR tr f t=O (.var i)->look i tr=V
 | f,.atom a,i,h=>by simp_all [dR]
 | f,.int a,i,h=>by simp_all [dR]
 | f,.comp a l,i,h=>by simp_all [dR]
 | 0,.var j,i,h=>by
  grind [look,dR]
 | f+1,.var j,i,h=>by
  cases b:look j tr with
  | none=>simp_all [dR]
  | some t=>simp [dR,b] at h;exact IC h
def Bk:Tm->Bool
 | .comp _ _=>A
 | _=>ae
def isVar:Tm->Bool
 | .var _=>A
 | _=>ae
def Sr.cW(s:Sr):Nat:=s.tr.length+s.fuel
def aHF{t:Tm}{s:Sr}{p:Bool×Sr}(h:q9 f i t s=O (.ok p)):p.2.cW<=s.cW+1/\p.2.fuel<=s.fuel:=by
 unfold q9 at h;obtain⟨q,a,b⟩| ⟨e,a,b⟩:=Out.bind_some h
 .obtain⟨c,d⟩:=(GF f).tm a;grind [Sr.cW,Sr.bind,List.length_cons]
 grind
structure aHG(f:Nat):Prop where
 tm:∀ {a b:Tm} {s:Sr} {p:Bool×Sr},gY f a b s=O (.ok p)->p.2.cW<=s.cW/\p.2.fuel<=s.fuel
 E6:∀ {a b:List Tm} {s:Sr} {p:Bool×Sr},lJ f a b s=O (.ok p)->p.2.cW<=s.cW/\p.2.fuel<=s.fuel
def DP:∀ f,aHG f
 | 0=>⟨fun h=>by simp_all [gY],fun h=>by simp_all [lJ]⟩
 | f+1=>by
  have ih:=DP f;have j:∀ {i:Nat} {t:Tm} {s:Sr} {p:Bool×Sr},s.fuel≠0->q9 f i t s.dec=O (.ok p)->p.2.cW<=s.cW/\p.2.fuel<=s.fuel:=fun{i t s p} g h=>by
   obtain⟨d,c⟩:=aHF h;grind [Sr.cW,Sr.dec]
  have hdec:∀ {s:Sr},s.dec.cW<=s.cW/\s.dec.fuel<=s.fuel:=fun{s}=>by simp_all [Sr.cW,Sr.dec]
  refine⟨fun{a b s p} h=>?_,fun{a b s p} h=>?_⟩
  .rw[gY] at h;split at h
   .grind
   .rename_i g;split at h
    .grind
    .grind
    .grind
    .split at h
     .obtain⟨d,c⟩:=ih.E6 h;grind
     grind
    .grind
    grind
  .cases a with
   | nil=>rw[lJ] at h<;>grind
   | cons a l=>
    cases b with
    | nil=>rw[lJ] at h<;>grind
    | cons b r=>
     rw[lJ] at h;obtain⟨q,d,c⟩| ⟨e,d,c⟩:=Out.bind_some h
     .obtain⟨k,m⟩:=ih.tm d;split at c
      .obtain⟨n,o⟩:=ih.E6 c;omega
      grind
     grind
structure aHH(f:Nat):Prop where
 tm:∀ {a b:Tm} {s:Sr} {p:Bool×Sr},qA f a b s=O (.ok p)->p.2.tr=s.tr/\p.2.fuel<=s.fuel
 E6:∀ {a b:List Tm} {s:Sr} {p:Bool×Sr},uw f a b s=O (.ok p)->p.2.tr=s.tr/\p.2.fuel<=s.fuel
def Pn:∀ f,aHH f
 | 0=>⟨fun h=>by simp_all [qA],fun h=>by simp_all [uw]⟩
 | f+1=>by
  have ih:=Pn f;have hdec:∀ {s:Sr},s.dec.tr=s.tr/\s.dec.fuel<=s.fuel:=fun{s}=>⟨J,a2l _ _⟩;refine⟨fun{a b s p} h=>?_,fun{a b s p} h=>?_⟩
  .rw[qA] at h;split at h
   .grind
   .split at h
    .split at h
     .obtain⟨d,c⟩:=ih.E6 h;grind
     grind
    .grind
    grind
  .cases a with
   | nil=>rw[uw] at h<;>grind
   | cons a l=>
    cases b with
    | nil=>rw[uw] at h<;>grind
    | cons b r=>
     rw[uw] at h;obtain⟨q,d,c⟩| ⟨e,d,c⟩:=Out.bind_some h
     .obtain⟨g,i⟩:=ih.tm d;split at c
      .obtain⟨j,k⟩:=ih.E6 c;grind
      grind
     grind
def Kp(z:Int):Prop:=-9223372036854775808<=z/\z<=9223372036854775807
theorem wrap64_in(z:Int):Kp (wrap64 z):=by grind [Kp,wrap64]
theorem aHI{a b:Int}(c:Kp a):Kp (a.tmod b):=by
 unfold Kp at *;have d:(a.tmod b).natAbs<=a.natAbs:=by
  simp_all [Int.natAbs_tmod,Nat.mod_le]
 by_cases e:0<=a
 .omega
 .have:a.tmod b<=0:=by
   have:=Int.tmod_nonneg (a:=-a) b zo;simp_all
  omega
def aHJ{name:Bs}{a b z:Int}(c:Kp a)(h:reckon name a b = .ok z):Kp z:=by
 grind [reckon,wrap64_in,aHI]
theorem Ap:∀ (f:Nat) {t:Tm} {s:Sr} {p:Int×Sr},mh s.tr->er t->kO f t s=O (.ok p)->p.2.tr=s.tr/\p.2.fuel<=s.fuel/\Kp p.1
 | 0,_,_,_,_,_,h=>by simp_all [kO]
 | f+1,t,s,p,ht,d,h=>by
  rw[kO] at h;split at h
  .grind
  .split at h
   .grind
   .rename_i n hw;injection h with h;injection h with h;subst h;exact⟨J,a2l _ _,by have:=vq ht d hw;unfold er at this;exact this⟩
   .grind
   .rename_i name a b hw;have g:=vq ht d hw;unfold er at g;obtain⟨-,-,m⟩:=g;obtain⟨o,r⟩:=MY m;split at h
    .obtain⟨q,i,j⟩| ⟨e,i,j⟩:=Out.bind_some h
     .obtain⟨k,u,w⟩:=Ap f (s:=s.dec) ht o i;obtain⟨q2,l,c⟩| ⟨e,l,c⟩:=Out.bind_some j
      .obtain⟨g1,g2,g3⟩:=Ap f (s:=q.2) (by rw[k];exact ht) r l;split at c
       .grind
       .rename_i z x;injection c with c;injection c with c;subst c;exact⟨g1.trans k,a0E g2 (a0E u (a2l _ _)),aHJ w x⟩
      grind
     grind
    grind
   grind
structure aHM(f:Nat):Prop where
 tm:∀ {a b:Tm} {s:Sr} {p:Bool×Sr},gY f a b s=O (.ok p)->s.tr <:+ p.2.tr
 E6:∀ {a b:List Tm} {s:Sr} {p:Bool×Sr},lJ f a b s=O (.ok p)->s.tr <:+ p.2.tr
theorem ac2{t:Tm}{s:Sr}{p:Bool×Sr}(h:q9 f i t s=O (.ok p)):s.tr <:+ p.2.tr:=by
 unfold q9 at h;obtain⟨q,b,a⟩| ⟨e,b,a⟩:=Out.bind_some h
 .have c:=((GF f).tm b).1;split at a
  .grind
  .injection a with a;injection a with a;subst a;rw[<- c];exact List.suffix_cons _ _
 grind
def M3:∀ f,aHM f
 | 0=>⟨fun h=>by simp_all [gY],fun h=>by simp_all [lJ]⟩
 | f+1=>by
  have ih:=M3 f;refine⟨fun{a b s p} h=>?_,fun{a b s p} h=>?_⟩
  .have i:s.dec.tr=s.tr:=rfl;rw[gY] at h;split at h
   .grind
   .split at h
    .grind [a2v,ac2]
    .grind [ac2]
    .grind [ac2]
    .split at h
     .exact(show s.dec.tr <:+ p.2.tr from ih.E6 h)
     grind
    .grind
    grind
  .cases a with
   | nil=>grind [lJ,a2v]
   | cons a l=>
    cases b with
    | nil=>grind [lJ,a2v]
    | cons b r=>
     rw[lJ] at h;obtain⟨q,d,c⟩| ⟨e,d,c⟩:=Out.bind_some h
     .have g:=ih.tm d;split at c
      .exact g.trans (ih.E6 c)
      grind
     grind
inductive E7(tr:Tr)(i:Nat):Tm->Prop
 | here:look i tr=V->E7 tr i (.var i)
 | via {j:Nat} {t:Tm}:look j tr=O t->E7 tr i t->E7 tr i (.var j)
 | arg {n:Bs} {l:List Tm} {a:Tm}:a∈l->E7 tr i a->E7 tr i (.comp n l)
def mi:Tr->Prop
 | []=>True
 | (i,t)::r=>mi r/\look i r=V/\¬ E7 r i t
def mi.drop:∀ (k:Nat) {tr:Tr},mi tr->mi (tr.drop k)
 | 0,_,h=>h
 | _+1,[],h=>h
 | k+1,(_,_)::_,h=>mi.drop k h.1
def ac3{tr:Tr}{i:Nat}:∀ {f:Nat} {t u:Tm},dR tr f t=O u->(E7 tr i t↔E7 tr i u)
 | f,.atom s,u,h=>by simp_all [dR]
 | f,.int s,u,h=>by simp_all [dR]
 | f,.comp s l,u,h=>by simp_all [dR]
 | 0,.var j,u,h=>by
  grind [dR]
 | f+1,.var j,u,h=>by
  rw[dR] at h;split at h
  .grind
  .rename_i t b;rw[<- ac3 h];constructor
   .intro a;cases a with
    | here c=>grind
    | via d e=>grind
   .exact fun a=>.via b a
def ac4{r:Tr}{i:Nat}{u:Tm}:∀ {f:Nat} {t t1:Tm},dR r f t=O t1->look i r=V->t1≠.var i->dR ((i,u)::r) f t=O t1
 | f,.atom s,t1,h,_,_=>by grind [dR]
 | f,.int s,t1,h,_,_=>by grind [dR]
 | f,.comp s l,t1,h,_,_=>by grind [dR]
 | 0,.var j,t1,h,a,b=>by
  rw[dR] at h ⊢;by_cases c:j=i
  .grind
  simp_all [look,bO]
 | f+1,.var j,t1,h,a,b=>by
  rw[dR] at h ⊢;by_cases c:j=i
  .grind
  .rw[look,bO c];split at h
   .omega
   .exact ac4 h a b
def amu{r:Tr}{i g:Nat}{u t2:Tm}(b:look i r=V)(c:dR ((i,u)::r) g u=O t2):∀ {f:Nat} {t:Tm},dR r f t=O (.var i)->dR ((i,u)::r) (f+1+g) t=O t2
 | f,.atom s,h=>by simp_all [dR]
 | f,.int s,h=>by simp_all [dR]
 | f,.comp s l,h=>by simp_all [dR]
 | 0,.var j,h=>by
  rw[dR] at h;split at h
  .injection h with h;injection h with h;subst h;rw[show 0+1+g=g+1 by omega,dR,look,zip rfl];omega
  grind
 | f+1,.var j,h=>by
  rw[dR] at h;by_cases a:j=i
  .subst a;rw[show f+1+1+g=(f+1+g)+1 by omega,dR,look,zip rfl];grind [IB]
  .split at h
   .grind
   .rename_i t d;rw[show f+1+1+g=(f+1+g)+1 by omega,dR,look,bO a,d];exact amu b c h
def DQ:∀ {tr:Tr},mi tr->∀ t,∃ f u,dR tr f t=O u
 | [],_,t=>⟨0,t,by cases t<;>simp [dR,look]⟩
 | (i,u)::r,h,t=>by
  obtain⟨f,t1,a⟩:=DQ h.1 t;by_cases he:t1 = .var i
  .subst he;obtain⟨g,c,b⟩:=DQ h.1 u;have d:c≠.var i:=fun e=>by
    subst e;exact h.2.2 ((ac3 b).2 (.here h.2.1))
   exact⟨_,_,amu h.2.1 (ac4 b h.2.1 d) a⟩
  .exact⟨_,_,ac4 a h.2.1 he⟩
def amv:∀ f,(∀ i t s s',tP f i t s=O (.ok (ae,s'))->look i s.tr=V->¬ E7 s.tr i t)/\(∀ i l s s',vu f i l s=O (.ok (ae,s'))->look i s.tr=V->∀ t∈l,¬ E7 s.tr i t)
 | 0=>⟨fun _ _ _ _ h=>(by cases h),fun _ _ _ _ h=>(by cases h)⟩
 | f+1=>by
  obtain⟨o,g⟩:=amv f;constructor
  .intro i t s s' h d;rw[tP] at h;split at h
   .grind
   .cases hw:dR s.tr f t with
    | none=>grind
    | some u=>
     rw[hw] at h;rw[ac3 hw];cases u with
     | atom a=>intro c;cases c
     | int a=>intro c;cases c
     | var j=>
      simp only[a0z,a2m,a0X,decide_eq_false_iff_not] at h;intro c;cases c with
      | here q=>omega
      | via r c=>grind [IC]
     | comp n l=>
      intro c;cases c with
      | arg k c=>exact g i l s.dec s' h d _ k c
  .intro i l s s' h d;cases l with
   | nil=>grind
   | cons a l=>
    rw[vu] at h;obtain⟨p,g1,g2⟩| ⟨e,g1,g2⟩:=Out.bind_some h
    .split at g2
     .grind
     .rename_i w;obtain⟨b,s1⟩:=p;have m:b=false:=zg;subst m;have ht:s1.tr=s.tr:=((GF f).tm g1).1;grind
    grind
theorem ac5{t:Tm}{s:Sr}{p:Bool×Sr}(ht:mi s.tr)(d:look i s.tr=V)(h:q9 f i t s=O (.ok p)):mi p.2.tr:=by
 unfold q9 at h;obtain⟨q,a,c⟩| ⟨e,a,c⟩:=Out.bind_some h
 .obtain⟨b,s1⟩:=q;have g:s1.tr=s.tr:=((GF f).tm a).1;cases b with
  | true=>
   grind
  | false=>
   simp only[Bool.false_eq_true,if_false,a0z,a2m] at c;subst c;show mi ((i,t)::s1.tr);rw[g];exact⟨ht,d,(amv f).1 _ _ _ _ a d⟩
 grind
def ac6:∀ f,(∀ a b s p,mi s.tr->gY f a b s=O (.ok p)->mi p.2.tr)/\(∀ l r s p,mi s.tr->lJ f l r s=O (.ok p)->mi p.2.tr)
 | 0=>⟨fun _ _ _ _ _ h=>(by cases h),fun _ _ _ _ _ h=>(by cases h)⟩
 | f+1=>by
  obtain⟨d,g⟩:=ac6 f;constructor
  .intro a b s p ht h;rw[gY] at h;split at h
   .grind
   .cases hw:dR s.tr f a with
    | none=>grind
    | some u=>
     cases hv:dR s.tr f b with
     | none=>grind
     | some v=>
      rw[hw,hv] at h;have c:mi s.dec.tr:=ht;cases u with
      | var i=>
       have k:look i s.dec.tr=none:=IC hw;grind [ac5]
      | comp n l=>
       cases v with
       | var j=>exact ac5 c (IC hv) h
       | comp m r=>
        grind
       | _=>injection h with h;injection h with h;subst h;exact ht
      | _=>
       cases v with
       | var j=>exact ac5 c (IC hv) h
       | _=>injection h with h;injection h with h;subst h;exact ht
  .intro l r s p ht h;cases l with
   | nil=>grind [lJ]
   | cons a l=>
    cases r with
    | nil=>grind [lJ]
    | cons b r=>
     rw[lJ] at h;obtain⟨q,g1,g2⟩| ⟨e,g1,g2⟩:=Out.bind_some h<;>grind
def ef{α:Type}(F:Nat->Option α):Prop:=∃ f r,F f=O r
def Mon{α:Type}(F:Nat->Option α):Prop:=∀ f,Le (F f) (F (f+1))
def ef.now{α:Type}(r:α):ef (fun _=>O r):=⟨0,r,J⟩
theorem Mon.more{α:Type}{F:Nat->Option α}(h:Mon F){r:α}(hr:F f=O r)(a:f<=g):F g=O r:=Le.many h a _ hr
theorem ef.bind{α β:Type}{F:Nat->Out α}{G:α->Nat->Out β}(b:Mon F)(c:∀ a,Mon (G a))(h:ef F)(d:∀ f a,F f=O (.ok a)->ef (G a)):ef (fun f=>Out.bind (F f) fun a=>G a f):=by
 obtain⟨f,r,hr⟩:=h;cases r with
 | error e=>exact⟨f,.error e,by simp_all⟩
 | ok a=>
  obtain⟨g,q,i⟩:=d f a hr;refine⟨max f g,q,?_⟩;simp only[b.more hr (a1F f g)];exact(c a).more i zo
def ef.walk{α:Type}{tr:Tr}(ht:mi tr){t:Tm}{F:Tm->Nat->Option α}(a:∀ u,Mon (F u))(h:∀ f u,dR tr f t=O u->ef (F u)):ef (fun f=>match dR tr f t with | none=>V | some u=>F u f):=by
 obtain⟨f,u,hu⟩:=DQ ht t;obtain⟨g,q,b⟩:=h f u hu;refine⟨max f g,q,?_⟩;grind [IB,a1F,Nat.le_max_right,Mon.more]
def Mon.const{α:Type}(x:Option α):Mon (fun _=>x):=fun _=>Le.rfl
def Mon.ite{α:Type}{c:Prop}[Decidable c]{F G:Nat->Option α}(a:Mon F)(b:Mon G):Mon (fun f=>if c then F f else G f):=by
 intro f;dsimp only;split
 .exact a f
 .exact b f
theorem Mon.bind{α β:Type}{F:Nat->Out α}{G:α->Nat->Out β}(b:Mon F)(c:∀ a,Mon (G a)):Mon (fun f=>Out.bind (F f) fun a=>G a f):=fun f=>Out.vw (b f) fun a=>c a f
def amw(i:Nat)(t:Tm)(s:Sr):Mon (fun f=>tP f i t s):=fun f=>(WX f).1 i t s
def amx(i:Nat)(l:List Tm)(s:Sr):Mon (fun f=>vu f i l s):=fun f=>(WX f).2 i l s
def ID(a b:Tm)(s:Sr):Mon (fun f=>gY f a b s):=fun f=>(Pm f).1 a b s
def amy(a b:List Tm)(s:Sr):Mon (fun f=>lJ f a b s):=fun f=>(Pm f).2 a b s
def aHN(a b:Tm)(s:Sr):Mon (fun f=>qA f a b s):=fun f=>(WY f).1 a b s
def amz(a b:List Tm)(s:Sr):Mon (fun f=>uw f a b s):=fun f=>(WY f).2 a b s
def Kq(a:Tm)(s:Sr):Mon (fun f=>kO f a s):=fun f=>WZ f a s
def M4(i:Nat)(a:Tm)(s:Sr):Mon (fun f=>q9 f i a s):=fun f=>ac0
def W0(n:Bs)(a:List Tm)(s:Sr):Mon (fun f=>uy f n a s):=fun f=>aHC
def amA{n:Nat}(ih:∀ s:Sr,s.fuel<n->mi s.tr->∀ i t,ef (fun f=>tP f i t s))(i:Nat):∀ (l:List Tm) (s:Sr),s.fuel<n->mi s.tr->ef (fun f=>vu f i l s)
 | [],s,_,_=>⟨1,_,J⟩
 | a::l,s,c,ht=>by
  obtain⟨f,r,h⟩:=ef.bind (G:=fun p f=>if p.1 then O (.ok (A,p.2)) else vu f i l p.2) (amw i a s) (fun p=>Mon.ite (Mon.const _) (amx i l p.2)) (ih s c ht i a) (fun f p d=>by
   obtain⟨g1,g2⟩:=(GF f).tm d;obtain⟨b,s1⟩:=p;cases b with
   | true=>exact⟨0,_,J⟩
   | false=>exact amA ih i l s1 zg zg)
  exact⟨f+1,r,h⟩
def amB:∀ (n:Nat) (s:Sr),s.fuel<n->mi s.tr->∀ i t,ef (fun f=>tP f i t s)
 | 0,s,h,_=>zg
 | n+1,s,h,ht=>fun i t=>by
  by_cases b:s.fuel=0
  .exact⟨1,.error .y3,by simp_all [tP,zip]⟩
  .have a:s.dec.fuel<n:=by show s.fuel-1<n;omega
   obtain⟨f,r,hr⟩:=ef.walk (α:=Except iM (Bool×Sr)) ht (t:=t) (F:=fun u f=>match u with | .var j=>O (.ok (decide (j=i),s.dec)) | .comp _ args=>vu f i args s.dec | _=>O (.ok (ae,s.dec))) (fun u=>by
    cases u with
    | comp n l=>simp_all [amx]
    | _=>exact Mon.const _) (fun f u hu=>by
    cases u with
    | comp m l=>exact amA (amB n) i l s.dec a ht
    | _=>exact⟨0,_,J⟩)
   refine⟨f+1,r,?_⟩;grind [tP]
def M5{s:Sr}(ht:mi s.tr)(i:Nat)(t:Tm):ef (fun f=>q9 f i t s):=by
 unfold q9;exact ef.bind (G:=fun p _=>if p.1 then O (.ok (ae,p.2)) else O (.ok (A,p.2.bind i t))) (amw i t s) (fun _=>Mon.const _) (amB _ s (a04 _) ht i t) (fun f p _=>by cases p.1<;>exact⟨0,_,J⟩)
def amC{n:Nat}(ih:∀ s:Sr,s.fuel<n->mi s.tr->∀ a b,ef (fun f=>gY f a b s)):∀ (l r:List Tm) (s:Sr),s.fuel<n->mi s.tr->ef (fun f=>lJ f l r s)
 | [],_,s,_,_=>⟨1,.ok (A,s),by simp_all [lJ]⟩
 | _::_,[],s,_,_=>⟨1,.ok (A,s),by simp_all [lJ]⟩
 | a::l,b::r,s,d,ht=>by
  obtain⟨f,q,h⟩:=ef.bind (G:=fun p f=>if p.1 then lJ f l r p.2 else O (.ok (ae,p.2))) (ID a b s) (fun p=>Mon.ite (amy l r p.2) (Mon.const _)) (ih s d ht a b) (fun f p c=>by
   have g1:=((DP f).tm c).2;have g2:=(ac6 f).1 _ _ _ _ ht c;obtain⟨b,s1⟩:=p;cases b with
   | false=>exact⟨0,_,J⟩
   | true=>exact amC ih l r s1 zg g2)
  exact⟨f+1,q,by simp_all [lJ]⟩
def M6:∀ (n:Nat) (s:Sr),s.fuel<n->mi s.tr->∀ a b,ef (fun f=>gY f a b s)
 | 0,s,h,_=>zg
 | n+1,s,h,ht=>fun a b=>by
  by_cases e:s.fuel=0
  .exact⟨1,.error .y3,by simp_all [gY,zip]⟩
  .have p:s.dec.fuel<n:=by show s.fuel-1<n;omega
   have g:mi s.dec.tr:=ht;obtain⟨f1,u,hu⟩:=DQ ht a;obtain⟨f2,v,hv⟩:=DQ ht b;have key:∀ {F:Nat->Out (Bool×Sr)},Mon F->ef F->(∀ f,dR s.tr f a=O u->dR s.tr f b=O v->gY (f+1) a b s=F f)->ef (fun f=>gY f a b s):=fun hm q he=>by
    obtain⟨f3,r,hr⟩:=q;have t:f1<=max f1 (max f2 f3):=zo;have w:f2<=max f1 (max f2 f3):=zo;have C:f3<=max f1 (max f2 f3):=zo;exact⟨_,r,by dsimp only;rw[he _ (IB hu t) (IB hv w)];grind [Mon.more]⟩
   have o:∀ {x:Out (Bool×Sr)} {r:Except iM (Bool×Sr)},x=O r->(∀ f,dR s.tr f a=O u->dR s.tr f b=O v->gY (f+1) a b s=x)->ef (fun f=>gY f a b s):=fun hx he=>
    key (F:=fun _=>_) (Mon.const _) ⟨0,_,hx⟩ he
   cases u with
   | var i=>
    cases v with
    | var j=>
     by_cases z:i=j
     .exact o J fun f c d=>by rw[gY,bO e,c,d];simp only;rw[zip z]
     .exact key (M4 i (.var j) s.dec) (M5 g _ _) fun f c d=>by simp_all [gY,bO]
    | atom x=>exact key (M4 i _ s.dec) (M5 g _ _) fun f c d=>by rw[gY,bO e,c,d]
    | int x=>exact key (M4 i _ s.dec) (M5 g _ _) fun f c d=>by rw[gY,bO e,c,d]
    | comp x y=>exact key (M4 i _ s.dec) (M5 g _ _) fun f c d=>by rw[gY,bO e,c,d]
   | comp m l=>
    cases v with
    | var j=>exact key (M4 j _ s.dec) (M5 g _ _) fun f c d=>by rw[gY,bO e,c,d]
    | atom x=>exact o J fun f c d=>by rw[gY,bO e,c,d]
    | int x=>exact o J fun f c d=>by rw[gY,bO e,c,d]
    | comp k r=>
     by_cases B:m=k/\l.length=r.length
     .exact key (amy l r s.dec) (amC (M6 n) l r s.dec p g) fun f c d=>by simp_all [gY,bO,zip]
     .exact o J fun f c d=>by rw[gY,bO e,c,d];simp only;rw[bO B]
   | atom x=>
    cases v with
    | var j=>exact key (M4 j _ s.dec) (M5 g _ _) fun f c d=>by rw[gY,bO e,c,d]
    | _=>exact o J fun f c d=>by rw[gY,bO e,c,d]
   | int x=>
    cases v with
    | var j=>exact key (M4 j _ s.dec) (M5 g _ _) fun f c d=>by rw[gY,bO e,c,d]
    | _=>exact o J fun f c d=>by rw[gY,bO e,c,d]
def amD{n:Nat}(ih:∀ s:Sr,s.fuel<n->mi s.tr->∀ a b,ef (fun f=>qA f a b s)):∀ (l r:List Tm) (s:Sr),s.fuel<n->mi s.tr->ef (fun f=>uw f l r s)
 | [],_,s,_,_=>⟨1,.ok (A,s),by simp_all [uw]⟩
 | _::_,[],s,_,_=>⟨1,.ok (A,s),by simp_all [uw]⟩
 | a::l,b::r,s,c,ht=>by
  obtain⟨f,q,h⟩:=ef.bind (G:=fun p f=>if p.1 then uw f l r p.2 else O (.ok (ae,p.2))) (aHN a b s) (fun p=>Mon.ite (amz l r p.2) (Mon.const _)) (ih s c ht a b) (fun f p d=>by
   obtain⟨g1,g2⟩:=(Pn f).tm d;obtain⟨b,s1⟩:=p;cases b with
   | false=>exact⟨0,_,J⟩
   | true=>exact amD ih l r s1 zg zg)
  exact⟨f+1,q,by simp_all [uw]⟩
def amE:∀ (n:Nat) (s:Sr),s.fuel<n->mi s.tr->∀ a b,ef (fun f=>qA f a b s)
 | 0,s,h,_=>zg
 | n+1,s,h,ht=>fun a b=>by
  by_cases e:s.fuel=0
  .exact⟨1,.error .y3,by simp_all [qA,zip]⟩
  .have i:s.dec.fuel<n:=by show s.fuel-1<n;omega
   have j:mi s.dec.tr:=ht;obtain⟨f1,u,hu⟩:=DQ ht a;obtain⟨f2,v,hv⟩:=DQ ht b;have key:∀ {F:Nat->Out (Bool×Sr)},Mon F->ef F->(∀ f,dR s.tr f a=O u->dR s.tr f b=O v->qA (f+1) a b s=F f)->ef (fun f=>qA f a b s):=fun hm o he=>by
    obtain⟨f3,r,hr⟩:=o;have p:f1<=max f1 (max f2 f3):=zo;have q:f2<=max f1 (max f2 f3):=zo;have w:f3<=max f1 (max f2 f3):=zo;exact⟨_,r,by dsimp only;rw[he _ (IB hu p) (IB hv q)];grind [Mon.more]⟩
   have g:∀ {x:Out (Bool×Sr)} {r:Except iM (Bool×Sr)},x=O r->(∀ f,dR s.tr f a=O u->dR s.tr f b=O v->qA (f+1) a b s=x)->ef (fun f=>qA f a b s):=fun hx he=>
    key (F:=fun _=>_) (Mon.const _) ⟨0,_,hx⟩ he
   cases u with
   | comp m l=>
    cases v with
    | comp k r=>
     by_cases t:m=k/\l.length=r.length
     .exact key (amz l r s.dec) (amD (amE n) l r s.dec i j) fun f c d=>by simp_all [qA,bO,zip]
     .exact g J fun f c d=>by rw[qA,bO e,c,d];simp only;rw[bO t]
    | _=>exact g J fun f c d=>by rw[qA,bO e,c,d]
   | _=>cases v<;>exact g J fun f c d=>by rw[qA,bO e,c,d]
def Pp(x:Bs)(p q:Int×Sr):Out (Int×Sr):=match reckon x p.1 q.1 with
 | .error e=>O (.error e)
 | .ok z=>O (.ok (z,q.2))
def aHO(x:Bs)(p q:Int×Sr):ef (fun _=>Pp x p q):=by
 unfold Pp;cases reckon x p.1 q.1 with
 | error e=>exact⟨0,_,J⟩
 | ok z=>exact⟨0,_,J⟩
def S2:∀ (n:Nat) (s:Sr),s.fuel<n->mi s.tr->mh s.tr->∀ t,er t->ef (fun f=>kO f t s)
 | 0,s,h,_,_=>zg
 | n+1,s,h,ht,hk=>fun t k=>by
  by_cases e:s.fuel=0
  .exact⟨1,.error .y3,by simp_all [kO,zip]⟩
  .have m:s.dec.fuel<n:=by show s.fuel-1<n;omega
   obtain⟨f1,u,hu⟩:=DQ ht t;have i:=vq hk k hu;have key:∀ {F:Nat->Out (Int×Sr)},Mon F->ef F->(∀ f,dR s.tr f t=O u->kO (f+1) t s=F f)->ef (fun f=>kO f t s):=fun hm o he=>by
    obtain⟨f3,r,hr⟩:=o;exact⟨_,r,by dsimp only;rw[he _ (IB hu (a1F f1 f3))];grind [Nat.le_max_right,Mon.more]⟩
   have g:∀ {x:Out (Int×Sr)} {r:Except iM (Int×Sr)},x=O r->(∀ f,dR s.tr f t=O u->kO (f+1) t s=x)->ef (fun f=>kO f t s):=fun hx he=>
    key (F:=fun _=>_) (Mon.const _) ⟨0,_,hx⟩ he
   cases u with
   | atom x=>exact g J fun f d=>by rw[kO,bO e,d]
   | int x=>exact g J fun f d=>by rw[kO,bO e,d]
   | var x=>exact g J fun f d=>by rw[kO,bO e,d]
   | comp x l=>
   rcases l with _ | ⟨a,_ | ⟨b,_ | ⟨c,l⟩⟩⟩
   .exact g J fun f d=>by rw[kO,bO e,d]
   .exact g J fun f d=>by rw[kO,bO e,d]
   rotate_left
   .exact g J fun f d=>by rw[kO,bO e,d]
   .by_cases j:jB x 2≠0
    .unfold er iX iX at i;have m2:∀ p:Int×Sr,Mon (fun f=>Out.bind (kO f b p.2) fun q=>Pp x p q):=fun p=>Mon.bind (Kq b p.2) fun q=>Mon.const _;have t2:ef (fun f=>Out.bind (kO f a s.dec) fun p=>Out.bind (kO f b p.2) fun q=>Pp x p q):=by
      refine ef.bind (G:=fun p f=>Out.bind (kO f b p.2) fun q=>Pp x p q) (Kq a s.dec) m2 (S2 n s.dec m ht hk a i.2.2.1) (fun f p w=>?_);obtain⟨g1,g2,-⟩:=Ap f (show mh s.dec.tr from hk) i.2.2.1 w;have g3:p.2.tr=s.tr:=g1;exact ef.bind (G:=fun q _=>Pp x p q) (Kq b p.2) (fun q=>Mon.const _) (S2 n p.2 zo zg zg b i.2.2.2.1) (fun f q _=>aHO x p q)
     refine key (Mon.bind (Kq a s.dec) m2) t2 fun f d=>?_;rw[kO,bO e,d];simp only;rw[zip j];rfl
    .exact g J fun f d=>by rw[kO,bO e,d];simp only;rw[bO j]
def amF{name:Bs}{args:List Tm}{s:Sr}(ht:mi s.tr)(hk:mh s.tr)(e:∀ t∈args,er t)(g:jx name=args.length):ef (fun f=>uy f name args s):=by
 have a:∀ j,j<args.length->er (args.getD j default):=zg;have two:name=[105,115]\/¬ (name∈[[116,114,117,101],[102,97,105,108]]\/name∈[[118,97,114],[110,111,110,118,97,114],[97,116,111,109],[105,110,116,101,103,101,114]])->1<args.length:=(by grind [jx]);unfold uy;split
 .exact⟨0,_,J⟩
 split
 .exact M6 _ s (a04 _) ht _ _
 split
 .exact ef.bind (G:=fun p _=>O (.ok (!p.1,p.2.gO s.tr.length))) (ID _ _ s) (fun _=>Mon.const _) (M6 _ s (a04 _) ht _ _) (fun _ _ _=>⟨0,_,J⟩)
 split
 .exact amE _ s (a04 _) ht _ _
 split
 .rename_i d;have b:=two (.inl d);refine ef.bind (G:=fun p f=>gY f (args.getD 0 default) (.int p.1) p.2) (Kq _ s) (fun p=>ID _ _ p.2) (S2 _ s (a04 _) ht hk _ (a 1 b)) (fun f p c=>?_);obtain⟨g1,g2,-⟩:=Ap f hk (a 1 b) c;exact M6 _ p.2 (a04 _) zg _ _
 split
 .obtain⟨f,u,hu⟩:=DQ ht (args.getD 0 default);exact⟨f,.ok (M0 name u,s),zg⟩
 split
 .exact⟨0,_,J⟩
 .rename_i i _ _ _ _ k l;have b:=two (.inr fun h=>by
   grind)
  refine ef.bind (G:=fun p f=>Out.bind (kO f (args.getD 1 default) p.2) fun q=>O (.ok (WW name p.1 q.1,q.2))) (Kq _ s) (fun p=>Mon.bind (Kq _ p.2) fun _=>Mon.const _) (S2 _ s (a04 _) ht hk _ (a 0 zo)) (fun f p c=>?_);obtain⟨g1,g2,-⟩:=Ap f hk (a 0 zo) c;exact ef.bind (G:=fun q _=>O (.ok (WW name p.1 q.1,q.2))) (Kq _ p.2) (fun _=>Mon.const _) (S2 _ p.2 (a04 _) zg zg _ (a 1 b)) (fun _ _ _=>⟨0,_,J⟩)
structure Goal where
 Bm:Option Bd
 vars:List Nat
 cut:Nat
structure nO where
 mark:Nat
 todo:List Goal
 clauses:List Cl
 args:List Tm
structure Wk where
 n:Nat
 sr:Sr
 todo:List Goal
 br:List nO
def rf(f:Nat)(vars:List Nat):List Tm->List Ex->Sr->Out (Bool×Sr)
 | a::l,x::r,s=>Out.bind (gY f a (made vars x) s) fun p=>if p.1 then rf f vars l r p.2 else O (.ok (ae,p.2))
 | _,_,s=>O (.ok (A,s))
def rH(br:List nO)(m:Nat):List Cl->List nO
 | []=>br.take m
 | c::r=>match br[m]? with
  | some a=>br.take m++[{ a with clauses:=c::r }]
  | none=>br.take m
def sL(f:Nat)(args:List Tm)(l:List Cl)(todo:List Goal)(m:Nat)(k:Wk):Out (Bool×Wk):=
 if k.sr.fuel=0 then O (.error .y3)
 else match l with
  | []=>V
  | c::rest=>
   Out.bind (rf f (List.range' k.n c.vars.length) args c.args k.sr.dec) fun p=>
    if p.1 then O (.ok (A,⟨k.n+c.vars.length,p.2,⟨O c.body,List.range' k.n c.vars.length,m⟩::todo,rH k.br m rest⟩))
    else O (.ok (ae,⟨k.n+c.vars.length,p.2,k.todo,rH k.br m rest⟩))
def E8(base:List Cl)(f:Nat)(name:Bs)(ex:List Ex)(vars:List Nat)(k:Wk):Out (Bool×Wk):=
 if jx name=ex.length then Out.bind (uy f name (oq vars ex) k.sr) fun p=>O (.ok (p.1,{ k with sr:=p.2 }))
 else match base.filter fun c=>c.name == name && c.args.length == ex.length with
  | []=>O (.error (.fault 10))
  | l=>sL f (oq vars ex) l k.todo k.br.length { k with br:=k.br++[⟨k.sr.tr.length,k.todo,l,oq vars ex⟩] }
def Wk.M7(k:Wk)(todo:List Goal):Wk:={ k with br:=k.br++[⟨k.sr.tr.length,todo,[],[]⟩] }
def y5(base:List Cl)(f:Nat)(g:Goal)(k:Wk):Out (Bool×Wk):=
 if k.sr.fuel=0 then O (.error .y3)
 else
  let k:={ k with sr:=k.sr.dec }
  match g.Bm with
  | none=>O (.ok (A,{ k with br:=k.br.take g.cut }))
  | some (.mk kind name args parts)=>
   if kind=33 then O (.ok (A,{ k with br:=k.br.take g.cut }))
   else if kind=44 then O (.ok (A,{ k with todo:=(parts.map fun p=>⟨O p,g.vars,g.cut⟩)++k.todo }))
   else if kind=59 then match parts with
    | [a,b]=>O (.ok (A,{ k.M7 (⟨O b,g.vars,g.cut⟩::k.todo) with todo:=⟨O a,g.vars,g.cut⟩::k.todo }))
    | _=>V
   else if kind=63 then match parts with
    | [a,b,c]=>O (.ok (A,{ k.M7 (⟨O c,g.vars,g.cut⟩::k.todo) with todo:=⟨O a,g.vars,k.br.length⟩::⟨V,[],k.br.length⟩::⟨O b,g.vars,g.cut⟩::k.todo }))
    | _=>V
   else if kind=126 then match parts with
    | [a]=>O (.ok (A,{ k.M7 k.todo with todo:=[⟨O a,g.vars,k.br.length⟩,⟨V,[],k.br.length⟩,⟨O yA,[],0⟩] }))
    | _=>V
   else E8 base f name args g.vars k
def ju(base:List Cl)(d:Nat):Nat->Bool->Wk->Out (Bool×Wk)
 | 0,_,_=>V
 | f+1,A,k=>match k.todo with
  | []=>O (.ok (A,{ k with todo:=[⟨O yA,[],0⟩] }))
  | g::r=>Out.bind (y5 base d g { k with todo:=r }) fun p=>ju base d f p.1 p.2
 | f+1,ae,k=>match k.br.getLast? with
  | none=>O (.ok (ae,k))
  | some a=>match a.clauses with
   | []=>ju base d f A { k with sr:=k.sr.gO a.mark,todo:=a.todo,br:=k.br.dropLast }
   | c::l=>Out.bind (sL d a.args (c::l) a.todo (k.br.length-1) { k with sr:=k.sr.gO a.mark }) fun p=>ju base d f p.1 p.2
def y6(tr:Tr)(f:Nat):List Bs->List Tm->Ws->Option (Option Ws)
 | nm::l,t::r,s=>
  if nm.head?=O 95 then y6 tr f l r s
  else Wb (il tr f t 0 ((if s.out=[] then s else s.add [44,32]).add (nm++[32,61,32]))) fun s=>y6 tr f l r s
 | _,_,s=>O (O s)
structure Qw where
 err:Nat
 wk:Wk
def Qw.new(b:Bd)(nv:Nat):Qw:=⟨0,nv,⟨[],0⟩,[⟨O b,List.range nv,0⟩],[]⟩
structure sN(M:Nat)(c:Cl):Prop where
 body:eY c.vars.length M c.body
 args:fg c.vars.length c.args
 qC:c.args.length<=4
 sz:fL c.args<=M
 vars:c.vars.length<=M
def nw(M n:Nat):Nat->List Goal->Prop
 | _,[]=>True
 | h,g::r=>g.cut<=h/\(∀ i∈g.vars,i<n)/\(∀ b,g.Bm=O b->eY g.vars.length M b)/\nw M n g.cut r
theorem nw.up{M n:Nat}:∀ {l:List Goal} {h a:Nat},nw M n h l->h<=a->nw M n a l
 | [],_,_,_,_=>trivial
 | _::_,_,_,b,c=>⟨a0E b.1 c,b.2⟩
theorem nw.more{M n b:Nat}(c:n<=b):∀ {l:List Goal} {h:Nat},nw M n h l->nw M b h l
 | [],_,_=>trivial
 | _::_,_,a=>⟨a.1,fun i d=>Nat.lt_of_lt_of_le (a.2.1 i d) c,a.2.2.1,a.2.2.2.more c⟩
structure Kr(M n i:Nat)(a:nO):Prop where
 todo:nw M n i a.todo
 args:iX a.args
 qC:a.args.length<=4
 cls:∀ c∈a.clauses,sN M c/\c.args.length=a.args.length
structure aHQ(M:Nat)(k:Wk):Prop where
 todo:nw M k.n k.br.length k.todo
 ag:∀ (i:Nat) (a:nO),k.br[i]?=O a->Kr M k.n i a
 marks:∀ (i:Nat) (a:nO),k.br[i]?=O a->a.mark<=k.sr.tr.length
 mono:∀ (i j:Nat) (a b:nO),i<=j->k.br[i]?=O a->k.br[j]?=O b->a.mark<=b.mark
section
def amH{f:Nat}{vs:List Nat}:∀ {l:List Tm} {r:List Ex} {s:Sr} {p:Bool×Sr},rf f vs l r s=O (.ok p)->s.tr <:+ p.2.tr/\p.2.fuel<=s.fuel/\p.2.cW<=s.cW
 | [],r,s,p,h=>by rw[rf] at h<;>grind
 | a::l,[],s,p,h=>by rw[rf] at h<;>grind
 | a::l,x::r,s,p,h=>by
  rw[rf] at h;obtain⟨q,b,c⟩| ⟨e,b,c⟩:=Out.bind_some h
  .obtain⟨d,g⟩:=(DP f).tm b;have i:=(M3 f).tm b;split at c
   .obtain⟨g1,g2,g3⟩:=amH c;grind
   grind
  grind
def aHR{s:Sr}{t:Tr}(h:t <:+ s.tr)(a:n=t.length):(s.gO n).tr=t:=by
 obtain⟨u,h⟩:=h;subst a;unfold Sr.gO;simp only;rw[<- h];simp
def amI{name:Bs}{args:List Tm}{s:Sr}{p:Bool×Sr}(ht:mh s.tr)(l:∀ t∈args,er t)(i:jx name=args.length)(h:uy f name args s=O (.ok p)):s.tr <:+ p.2.tr/\p.2.fuel<=s.fuel/\p.2.cW<=s.cW:=by
 have k:∀ j,j<args.length->er (args.getD j default):=fun j m=>by
  grind
 have cW:∀ {s':Sr},s'.tr=s.tr->s'.fuel<=s.fuel->s'.cW<=s.cW:=fun b a=>by simp_all [Sr.cW]
 unfold uy at h;split at h
 .grind
 split at h
 .exact⟨(M3 f).tm h,((DP f).tm h).2,((DP f).tm h).1⟩
 split at h
 .obtain⟨q,b,a⟩| ⟨e,b,a⟩:=Out.bind_some h
  .injection a with a;injection a with a;subst a;have d:=(M3 f).tm b;have c:=((DP f).tm b).2;have g:=aHR d J;exact⟨zg,c,cW g c⟩
  grind
 split at h
 .obtain⟨b,a⟩:=(Pn f).tm h;grind
 split at h
 .obtain⟨q,b,a⟩| ⟨e,b,a⟩:=Out.bind_some h
  .obtain⟨g1,g2,-⟩:=Ap f ht (k 1 (by have n:(2:Int)=args.length:=(by subst_vars;exact i);omega)) b;have d:=(M3 f).tm a;obtain⟨c,g⟩:=(DP f).tm a;grind
  grind
 split at h
 .grind
 split at h
 .grind
 .obtain⟨q,b,a⟩| ⟨e,b,a⟩:=Out.bind_some h
  .obtain⟨q2,d,c⟩| ⟨e,d,c⟩:=Out.bind_some a
   .grind [jx,Ap,a2v]
   grind
  grind
def W2{br:List nO}{rest:List Cl}{a:nO}(h:(rH br m rest)[i]?=O a):∃ b,br[i]?=O b/\i<=m/\a.mark=b.mark/\a.todo=b.todo/\a.args=b.args/\(a.clauses=b.clauses\/(i=m/\a.clauses=rest))/\(i=m->rest≠[]):=by
 cases rest with
 | nil=>
  grind [rH]
 | cons c r=>
  grind [rH]
def aHS{br:List nO}{rest:List Cl}(hm:m<=br.length)(a:rest≠[]->m<br.length):(rH br m rest).length=if rest=[] then m else m+1:=by
 cases rest with
 | nil=>rw[rH,List.length_take,zip rfl];omega
 | cons c r=>
  simp_all [rH,List.getElem?_eq_getElem,bO,List.length_append,List.length_take,List.length_cons,List.length_nil]
structure kP(M B:Nat)(k:Wk):Prop extends aHQ M k where
 cW:k.sr.cW<=B
 mR:k.br.length+k.sr.fuel<=B
variable{B:Nat}
theorem Kr.more{M n b i:Nat}{a:nO}(h:Kr M n i a)(c:n<=b):Kr M b i a:=⟨h.todo.more c,h.args,h.qC,h.cls⟩
def amJ{args:List Tm}{l:List Cl}{td:List Goal}{k k':Wk}{b:Bool}(hk:kP M B k)(hm:m<=k.br.length)(y:1<l.length->m<k.br.length)(Q:m<k.br.length\/True)(F:nw M k.n m td)
  (G:∀ c∈l,sN M c) (R:∀ a,k.br[m]?=O a->∀ c∈l,c.args.length=a.args.length) (h:sL f args l td m k=O (.ok (b,k'))):kP M B { k' with todo:=if b then k'.todo else [] }/\k.n<=k'.n/\k'.sr.fuel<k.sr.fuel:=by
 unfold sL at h;split at h
 .grind
 rename_i S;cases l with
 | nil=>grind
 | cons c rest=>
 simp only at h;obtain⟨p,z,d⟩| ⟨e,z,d⟩:=Out.bind_some h
 .obtain⟨g1,g2,g3⟩:=amH z;have gf:k.sr.dec.fuel=k.sr.fuel-1:=rfl;have gt:k.sr.dec.tr=k.sr.tr:=rfl;have gp:k.sr.dec.cW<=k.sr.cW:=by simp_all [Sr.cW]
  have hlen:=aHS (rest:=rest) hm (fun hr=>y (by cases rest with | nil=>grind | cons _ _=>simp));have H:(rH k.br m rest).length<=k.br.length/\m<=(rH k.br m rest).length:=by
   rw[hlen];split
   .omega
   .rename_i hr;have:=y (by cases rest with | nil=>grind | cons _ _=>simp);omega
  have C:∀ (i:Nat) (a:nO),(rH k.br m rest)[i]?=O a->Kr M (k.n+c.vars.length) i a:=fun i a g=>by
   obtain⟨b,r,T,q,s,t,u,-⟩:=W2 g;have o:=(hk.ag i b r).more (a1M k.n c.vars.length);refine⟨by rw[s];exact o.todo,by rw[t];exact o.args,by rw[t];exact o.qC,fun x hx=>?_⟩;rcases u with u | ⟨rfl,u⟩
   .rw[t];exact o.cls x zg
   grind
  have D:∀ (i:Nat) (a:nO),(rH k.br m rest)[i]?=O a->a.mark<=p.2.tr.length:=fun i a g=>by
   obtain⟨b,r,-,q,-⟩:=W2 g;rw[q];have:=hk.marks i b r;grind
  have E:∀ (i j:Nat) (a b:nO),i<=j->(rH k.br m rest)[i]?=O a->(rH k.br m rest)[j]?=O b->a.mark<=b.mark:=fun i j a b I g K=>by
   obtain⟨a',L,-,q,-⟩:=W2 g;obtain⟨N,o,-,s,-⟩:=W2 K;rw[q,s];exact hk.mono i j a' N I L o
  have P:=G c (List.mem_cons_self ..);have U:=hk.cW;have W:=hk.mR;split at d
  .injection d with d;injection d with d;injection d with d w;subst d w;refine⟨⟨⟨⟨H.2,fun i g=>?_,fun x hx=>?_,F.more (a1M _ _)⟩,C,D,E⟩,zg,zg⟩,a1M _ _,zg⟩
   .grind
   .injection hx with hx;subst hx;rw[List.length_range'];exact P.body
  .injection d with d;injection d with d;injection d with d w;subst d w;exact⟨⟨⟨trivial,C,D,E⟩,zg,zg⟩,a1M _ _,zg⟩
 grind
theorem W4:∀ {l:List Tm} {t:Tm},iX l->t∈l->er t
 | [],_,_,h=>zg
 | a::l,t,h,ht=>by
  unfold iX at h;rcases List.mem_cons.1 ht with rfl | ht
  .grind
  .exact W4 h.2 ht
theorem kP.more{k:Wk}(hk:kP M B k){a:nO}{s:Sr}(f:s.tr=k.sr.tr)(q:s.fuel<k.sr.fuel)(hm:a.mark=k.sr.tr.length)(r:Kr M k.n k.br.length a){td:List Goal}(t:nw M k.n (k.br.length+1) td) :
  kP M B { k with sr:=s,todo:=td,br:=k.br++[a] }:=by
 have u:(k.br++[a]).length=k.br.length+1:=zs;have d:∀ (i:Nat) (b:nO),(k.br++[a])[i]?=O b->(i<k.br.length/\k.br[i]?=O b)\/(i=k.br.length/\b=a):=fun i b h=>by
  grind
 have w:=hk.cW;have x:=hk.mR;refine⟨⟨zg,fun i b h=>?_,fun i b h=>?_,fun i j b c g l m=>?_⟩,?_,?_⟩
 .rcases d i b h with⟨_,h⟩| ⟨rfl,rfl⟩
  .exact hk.ag i b h
  omega
 .show b.mark<=s.tr.length;rw[f];rcases d i b h with⟨_,h⟩| ⟨rfl,rfl⟩
  .exact hk.marks i b h
  omega
 .rcases d i b l with⟨_,e⟩| ⟨y,z⟩
  .rcases d j c m with⟨_,o⟩| ⟨C,p⟩
   .exact hk.mono i j b c g e o
   .rw[p,hm];exact hk.marks i b e
  grind
 .grind [Sr.cW]
 grind
theorem kP.cut{k:Wk}(hk:kP M B k){s:Sr}(e:k.sr.tr <:+ s.tr)(o:s.fuel<=k.sr.fuel)(p:s.cW<=k.sr.cW+1)(q:s.fuel<k.sr.fuel\/s.cW<=k.sr.cW)(d:s.cW<=B){td:List Goal}(hm:m<=k.br.length)(r:nw M k.n m td) :
  kP M B { k with sr:=s,todo:=td,br:=k.br.take m }:=by
 have t:(k.br.take m).length=m:=zg;have a:∀ (i:Nat) (b:nO),(k.br.take m)[i]?=O b->k.br[i]?=O b:=fun i b h=>by
  grind
 have u:=hk.mR;refine⟨⟨zg,fun i b h=>hk.ag i b (a i b h),fun i b h=>a0E (hk.marks i b (a i b h)) e.length_le,fun i j b c f g l=>hk.mono i j b c f (a i b g) (a j c l)⟩,d,?_⟩;grind
theorem nw.map{M n h:Nat}{vs:List Nat}(hv:∀ i∈vs,i<n):∀ {parts:List Bd} {r:List Goal},fc vs.length M parts->nw M n h r->nw M n h ((parts.map fun p=>⟨O p,vs,h⟩)++r)
 | [],_,_,hr=>hr
 | p::ps,r,a,hr=>by
  unfold fc at a;exact⟨a0D _,hv,fun b c=>zg,nw.map hv a.2 hr⟩
def ac7{base:List Cl}{g:Goal}{r:List Goal}{k k':Wk}{b:Bool}(hk:kP M B { k with todo:=g::r })(W:mh k.sr.tr)(X:∀ c∈base,sN M c)(h:y5 base f g { k with todo:=r }=O (.ok (b,k'))) :
  kP M B { k' with todo:=if b then k'.todo else [] }/\k.n<=k'.n/\k'.sr.fuel<k.sr.fuel:=by
 obtain⟨hcut,L,N,hr⟩:=(hk.todo:nw M k.n k.br.length (g::r));have hcut:g.cut<=k.br.length:=hcut;have z:k.sr.cW<=B:=hk.cW;have M8:k.br.length+k.sr.fuel<=B:=hk.mR;unfold y5 at h;split at h
 .grind
 rename_i F;have F:¬ k.sr.fuel=0:=F;have gf:k.sr.dec.fuel=k.sr.fuel-1:=rfl;have gt:k.sr.dec.tr=k.sr.tr:=rfl;have gp:k.sr.dec.cW<=k.sr.cW:=by simp_all [Sr.cW]
 have P:kP M B { k with todo:=[],sr:=k.sr.dec }:=⟨⟨trivial,hk.ag,hk.marks,hk.mono⟩,a0E gp z,zg⟩;have Q:∀ td,nw M k.n g.cut td->kP M B { k with sr:=k.sr.dec,todo:=td,br:=k.br.take g.cut }:=fun td d=>
  P.cut (a2v _) (a0D _) (a1J _) (.inr (a0D _)) (a0E gp z) hcut d
 have s:k.sr.dec.fuel<k.sr.fuel:=zo;have w:∀ (a:nO) (td:List Goal),a.mark=k.sr.tr.length->Kr M k.n k.br.length a->nw M k.n (k.br.length+1) td->kP M B { k with sr:=k.sr.dec,todo:=td,br:=k.br++[a] }:=fun a td hm R d=>
  kP.more (k:={ k with todo:=g::r }) hk gt s hm R d
 have x:nw M k.n k.br.length r:=hr.up hcut;have y:∀ {td:List Goal},nw M k.n g.cut td->nw M k.n k.br.length td:=fun h=>h.up hcut;cases G:g.Bm with
 | none=>
  grind
 | some bd=>
  obtain⟨kind,name,args,parts⟩:=bd;rw[G] at h;simp only at h;have eW:=N _ G;unfold eY at eW;obtain⟨my,nA,⟨Kt,Ku,Kv⟩,Fb,S,jr,jT,j⟩:=eW;split at h
  .grind
  split at h
  .simp only[a0z,a2m,a0X] at h;obtain⟨rfl,rfl⟩:=h;refine⟨⟨⟨?_,hk.ag,hk.marks,hk.mono⟩,a0E gp z,zg⟩,a0D _,s⟩;grind [nw.map]
  have one:∀ {p:Bd},eY g.vars.length M p->∀ {o:Nat} {td:List Goal},nw M k.n o td->nw M k.n o (⟨O p,g.vars,o⟩::td):=fun hp=>fun d=>⟨a0D _,L,fun b C=>zg,d⟩;have u:∀ {o:Nat} {td:List Goal},nw M k.n o td->nw M k.n o (⟨V,[],o⟩::td):=fun d=>⟨a0D _,(fun i D=>zg),(fun b C=>zg),d⟩;have q:∀ {td:List Goal},nw M k.n k.br.length td->Kr M k.n k.br.length ⟨k.sr.tr.length,td,[],[]⟩:=fun d=>⟨d,(by simp_all [iX]),zs,(fun c T=>zg)⟩;split at h
  .split at h
   .rename_i H pb;unfold fc fc fc at j;simp only[a0z,a2m,a0X] at h;obtain⟨rfl,rfl⟩:=h;exact⟨w _ _ J (q (y (one j.2.1 hr))) ((y (one j.1 hr)).up (a1J _)),a0D _,s⟩
   grind
  split at h
  .split at h
   .rename_i H pb pc;unfold fc fc fc fc at j;simp only[a0z,a2m,a0X] at h;obtain⟨rfl,rfl⟩:=h;exact⟨w _ _ J (q (y (one j.2.2.1 hr))) ((one j.1 (u (y (one j.2.1 hr)))).up (a1J _)),a0D _,s⟩
   grind
  split at h
  .split at h
   .rename_i H;unfold fc fc at j;simp only[a0z,a2m,a0X] at h;obtain⟨rfl,rfl⟩:=h;refine⟨w _ _ J (q x) ((one j.1 (u (show nw M k.n k.br.length [⟨O yA,[],0⟩] from⟨Nat.zero_le _,(fun i D=>zg),(fun b C=>by grind [acT]),trivial⟩))).up (a1J _)),a0D _,s⟩
   grind
  .unfold E8 at h;have I:=IA g.vars args S;split at h
   .rename_i ht;obtain⟨p,K,m⟩| ⟨e,K,m⟩:=Out.bind_some h
    .injection m with m;injection m with m;injection m with m U;subst m U;obtain⟨E,e2,e3⟩:=amI zg (fun t ht=>W4 I.1 ht) zo K;have E:k.sr.tr <:+ p.2.tr:=E;refine⟨⟨⟨?_,hk.ag,fun i a D=>a0E (hk.marks i a D) E.length_le,hk.mono⟩,zg,zg⟩,a0D _,zg⟩;split
     .omega
     .trivial
    grind
   .split at h
    .grind
    .rename_i l eh;have C:=amJ (k:={ k with sr:=k.sr.dec,todo:=r,br:=k.br++[⟨k.sr.dec.tr.length,r,base.filter (fun c=>c.name == name && c.args.length == args.length),oq g.vars args⟩] }) (M:=M) (B:=B) ?_ ?_ ?_ (.inr trivial) x ?_ ?_ h
     .grind
     .refine w _ _ J ⟨x,I.1,zg,fun c T=>?_⟩ (x.up (a1J _));grind
     .grind
     .grind
     .grind
     grind
theorem kP.gO{M:Nat}{k:Wk}(hk:kP M B { k with todo:=[] }){a:nO}(j:k.br.getLast?=O a) :
  kP M B { k with sr:=k.sr.gO a.mark,todo:=[] }/\k.br[k.br.length-1]?=O a/\a.mark<=k.sr.tr.length/\(k.sr.gO a.mark).fuel=k.sr.fuel:=by
 have c:k.br[k.br.length-1]?=O a:=zg;have g:a.mark<=k.sr.tr.length:=hk.marks _ _ c;have d:(k.sr.gO a.mark).tr.length=a.mark:=by
  grind [Sr.gO,List.length_drop]
 have e:=hk.cW;have h:=hk.mR;refine⟨⟨⟨trivial,hk.ag,fun i b f=>?_,hk.mono⟩,?_,h⟩,c,g,J⟩
 .show b.mark<=(k.sr.gO a.mark).tr.length;rw[d];have:=(List.getElem?_eq_some_iff.1 f).1;exact hk.mono i _ b a zg f c
 .show(k.sr.gO a.mark).cW<=_;have e:k.sr.tr.length+k.sr.fuel<=B:=e;unfold Sr.cW;rw[d];show a.mark+k.sr.fuel<=_;omega
def kP.back{k:Wk}(hk:kP M B { k with todo:=[] }){a:nO}(c:k.br.getLast?=O a):kP M B { k with sr:=k.sr.gO a.mark,todo:=a.todo,br:=k.br.dropLast }:=by
 obtain⟨b,d,e,f⟩:=hk.gO c;have g:=b.cut (m:=k.br.length-1) (a2v _) (a0D _) (a1J _) (.inr (a0D _)) b.cW (a2l _ _) (b.ag _ _ d).todo;simp_all [List.dropLast_eq_take]
def kP.again{k k':Wk}(hk:kP M B { k with todo:=[] }){a:nO}(o:k.br.getLast?=O a){b:Bool}(h:sL d a.args a.clauses a.todo (k.br.length-1) { k with sr:=k.sr.gO a.mark }=O (.ok (b,k'))) :
  kP M B { k' with todo:=if b then k'.todo else [] }/\k.n<=k'.n/\k'.sr.fuel<k.sr.fuel:=by
 obtain⟨l,m,t,u⟩:=hk.gO o;have g:=l.ag _ _ m;have i:sL d a.args a.clauses a.todo (k.br.length-1) { k with sr:=k.sr.gO a.mark,todo:=[] }=O (.ok (b,{ k' with todo:=if b then k'.todo else [] })):=by
  unfold sL at h ⊢;simp only at h ⊢;split at h
  .grind
  .rename_i q;rw[bO q]
   revert h
   split
   .grind
   .intro h;obtain⟨p,r,s⟩| ⟨e,r,s⟩:=Out.bind_some h
    .grind [Out.ek]
    grind
 have:=amJ l (a2l _ _) (fun _=>zg) (.inr trivial) g.todo (fun c j=>(g.cls c j).1) (fun b f c j=>by
  have f:k.br[k.br.length-1]?=O b:=f;rw[m] at f;injection f with f;subst f;exact(g.cls c j).2) i
 grind
end
end P
